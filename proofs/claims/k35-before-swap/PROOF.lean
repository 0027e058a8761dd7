import PyProof.Rows.All
import Wide.All
import OpenK.AllK
import Wide.FinOn
import HandS.ForMost
import HandS.Defaults
import HandS.Head2
import HandS.HeadEnd
import HandS.HeadHook2
import HandS.HeadHook3
import HandS.HeadHook4
import PySem.Challenge.RW_patchkept_k35_before_swap
import HandS.TupAny
import HandS.IsInst
import HandS.Wide
import PyProof.StrOps2
/-! ## Head -/
set_option Elab.async false
set_option linter.all false
set_option maxRecDepth 100000
set_option maxHeartbeats 0
namespace Pk
open PySem PySem.Spec PyProof.Rows L2
/-! ### the text: the top's statements by their places -/
def top (i : Nat) : Stmt := PySem.Challenge.pw_patchkept_k35_before_swap.main.body.getD i (.Pass ⟨0, 0, 0, 0⟩)
abbrev FnP (K : PySem.W.Frag) (x : Str) (i : Nat) (f : Addr) (fd : FuncData) : Prop := FunD K x x (defArgs (top i)) (defBody (top i)) (defScope (top i)) [] [] f fd
def dd (x : Str) (i : Nat) : He.DefD := ⟨(x, none), x, x, defArgs (top i), defBody (top i), defScope (top i), [], []⟩
def fn : List He.DefD := [
  dd "no" 11,
  dd "both" 12,
  dd "one_of" 13,
  dd "at" 14,
  dd "of_held" 15,
  dd "after_swap" 29,
  dd "touched" 34,
  dd "divided" 35,
  dd "after_simple" 37,
  dd "after_there" 38,
  dd "after_at" 39,
  dd "held_before" 40,
  dd "rewritten" 41,
  dd "success_of" 44,
  dd "before_primitive" 46,
  dd "_law_child" 49,
  dd "_law_lookup" 51,
  dd "_law_with" 52,
  dd "_law_replace" 53,
  dd "_law_put" 54,
  dd "_law_take" 55,
  dd "_law_primitive" 63,
  dd "_law_holds" 64,
  dd "_law_is_integer" 65,
  dd "_law_is_string" 66,
  dd "_law_is_token" 67,
  dd "_law_formula_parts" 68,
  dd "_law_is_formula" 69,
  dd "_law_cell" 70,
  dd "_law_source" 71,
  dd "_law_draw" 72,
  dd "_law_char" 73,
  dd "_law_name" 74,
  dd "_law_number" 75,
  dd "_law_leaf" 76,
  dd "_law_object" 77,
  dd "_law_value" 78,
  dd "_law_wide" 79,
  dd "_law_token" 80,
  dd "_law_path" 81,
  dd "_law_target" 82,
  dd "_law_atom" 83,
  dd "_law_item_of" 84,
  dd "_law_every" 85,
  dd "_law_formula" 86,
  dd "_law_changed" 87,
  dd "_law_near" 88,
  dd "_law_mixed" 89,
  dd "_law_is_exact" 90,
  dd "law" 91]
def fa0 : List He.Fa := [.glo "no", .glo "both", .glo "one_of", .glo "at", .glo "of_held", .glo "after_swap", .glo "touched", .glo "divided", .glo "after_simple", .glo "after_there", .glo "after_at", .glo "held_before", .glo "rewritten", .glo "success_of", .glo "before_primitive", .glo "_law_child", .glo "_law_lookup", .glo "_law_with", .glo "_law_replace", .glo "_law_put", .glo "_law_take", .glo "_law_primitive", .glo "_law_holds", .glo "_law_is_integer", .glo "_law_is_string", .glo "_law_is_token", .glo "_law_formula_parts", .glo "_law_is_formula", .glo "_law_cell", .glo "_law_source"]
def fa1 : List He.Fa := [.glo "_law_draw", .glo "_law_char", .glo "_law_name", .glo "_law_number", .glo "_law_leaf", .glo "_law_object", .glo "_law_value", .glo "_law_wide", .glo "_law_token", .glo "_law_path", .glo "_law_target", .glo "_law_atom", .glo "_law_item_of", .glo "_law_every", .glo "_law_formula", .glo "_law_changed", .glo "_law_near", .glo "_law_mixed", .glo "_law_is_exact", .glo "law", .glo "TRUE", .glo "FALSE", .free "len", .free "isinstance", .free "range", .free "all", .free "any", .free "tuple", .free "list", .free "int"]
def fa2 : List He.Fa := [.free "str", .free "bool", .free "min", .free "max", .free "ord"]
def fa : List He.Fa := fa0 ++ fa1 ++ fa2
def ex (K : PySem.W.Frag) : Bool := He.tupB K "TRUE" [.str "true"] && He.tupB K "FALSE" [.str "false"]
abbrev R : PySem.W.OpenRow := PySem.W.OpenLaw.row PySem.Challenge.rw_patchkept_k35_before_swap
abbrev hk : PySem.W.Hook := He.hookX 4 fa fn [] [] ex
def ob (s : PySem.W.SharedT) : He.AlX := He.obsX 4 fa fn [] [] ex (HandSHeadRun.getT s)
theorem ob_eq (s : PySem.W.SharedT) : ob s = hk.obs s.abs := He.obsX_eq (HandSHeadRun.getT_eq s)
def names0 : List Str := ["child_of", "lookup", "holds_of_all", "holds_simply", "holds_with", "holds", "TRUE", "FALSE", "no", "both", "one_of", "at", "of_held", "count_formula", "items_formula", "fields_formula", "equal_formula", "container_formula", "schema_formula", "parent_after_put", "behind_last", "after_put", "parent_after_take", "after_take", "after_swap", "after_increase", "primitives_of", "touched", "divided", "after_each"]
def names1 : List Str := ["after_simple", "after_there", "after_at", "held_before", "rewritten", "room_for", "in_both_cases", "success_of", "after_patch", "before_primitive", "before", "_law_child", "_law_parts", "_law_lookup", "_law_with", "_law_replace", "_law_put", "_law_take", "_law_between", "_law_fields_valid", "_law_valid", "_law_moved", "_law_each", "_law_step", "_law_apply", "_law_primitive", "_law_holds", "_law_is_integer", "_law_is_string", "_law_is_token"]
def names2 : List Str := ["_law_formula_parts", "_law_is_formula", "_law_cell", "_law_source", "_law_draw", "_law_char", "_law_name", "_law_number", "_law_leaf", "_law_object", "_law_value", "_law_wide", "_law_token", "_law_path", "_law_target", "_law_atom", "_law_item_of", "_law_every", "_law_formula", "_law_changed", "_law_near", "_law_mixed", "_law_is_exact"]
def names : List Str := names0 ++ names1 ++ names2
theorem run (w : World) : HandSHeadRun.RunEq R (PySem.W.view R.prog [91]) hk ob 3000 names w := by
  intro os
  kernel_rfl
def spLaw (K : PySem.W.Frag) : Sp := fun vs H Q _ => ∃ (a : Addr) (ns : List Int), vs = [.ref a] ∧ SqL K H a (ns.map V.int) ∧ ns.length ≤ 63 ∧ Only H ∧ ∀ H', Q (.bl true) H'
/-- all that the head tells -/
structure Says (K : PySem.W.Frag) : Prop where
  d : He.SaysD fa fn K
  ex : ex K = true
end Pk
open PySem PySem.W PySem.Calls PyProof.Rows
theorem Pk.holds_of (k : Nat) (hr : L2.Room k callerA) (F : ∀ (w : World) (K : PySem.W.Frag) (mg : Str → Option Value) (base : Heap) (f : Addr) (fd : FuncData), Pk.Says K → K.In base → base.Ns mainGlobals mg → mg "law" = some (.ref f) → Pk.FnP K "law" 91 f fd →
    L2.FnOk (PySem.Challenge.rw_patchkept_k35_before_swap).prog w K mg base L2.CX0 k f fd ["_law_script"] (Pk.spLaw K)) : PySem.Challenge.rw_patchkept_k35_before_swap.Holds := by
  w_on; o_law
  refine HandSHeadRun.head_any (r := OpenLaw.row PySem.Challenge.rw_patchkept_k35_before_swap) (q := view (OpenLaw.row PySem.Challenge.rw_patchkept_k35_before_swap).prog [91]) (H := Pk.hk) (ob := Pk.ob) (M := 3000) (loose := Pk.names) (d := HandSHeadRun.topDef (OpenLaw.row PySem.Challenge.rw_patchkept_k35_before_swap).prog 91) (kwd := []) Pk.ob_eq
    (by kernel_rfl) (fun s => by kernel_rfl) Pk.run (by kernel_rfl) (by kernel_rfl) (by kernel_rfl) (by rfl) (by first | assumption | decide +kernel) (by decide +kernel) ⟨rfl, rfl, rfl, rfl, rfl, by decide +kernel⟩ ?hw ?hc
  case hw => w_witness2
  case hc =>
    refine L2.walk_ofE (l := PySem.Challenge.rw_patchkept_k35_before_swap) (n := 63) (k := k) (x := "_law_script") (CX := L2.CX0) rfl (by decide) (by kernel_rfl) hr ?F (fun _ _ _ _ z => z)
    intro w mg fa h Y G hmg0
    obtain ⟨K, KX, c⟩ := Y
    have hmg : mg ("law" : PySem.Str) = some (.ref fa) := by
      have e : (HandSHeadRun.topDef (OpenLaw.row PySem.Challenge.rw_patchkept_k35_before_swap).prog 91).name = ("law" : PySem.Str) := by kernel_rfl
      rw [← e]
      exact hmg0
    have S : Pk.Says K := ⟨c.t.d, c.more⟩
    obtain ⟨fd, FL⟩ := S.d.def_ 49 (d := Pk.dd "law" 91) rfl
    have e := hmg.symm.trans (He.glo_ok KX G (S.d.fact 49 (f := .glo "law") rfl))
    cases e
    have b := L2.FunD.bindsA (ps := ["_law_script"]) FL fun _ _ _ _ _ _ us hl => match us, hl with | [_], _ => rfl
    exact ⟨K, fd, Pk.spLaw K, KX, fun s v => b s [v] rfl, fun H a ns hl ho hS => ⟨a, ns, rfl, hS, hl, ho, fun _ => rfl⟩, fun base KB GB => F w K mg base _ fd S KB GB hmg FL⟩

/-! ## D1 -/
set_option Elab.async false
set_option linter.all false
set_option maxRecDepth 100000
set_option maxHeartbeats 4000000
namespace Pk
open PySem PySem.Spec PyProof.Rows L2
/-! ### data, what a slot holds -/
inductive D where
  | non | bl (b : Bool) | int (i : Int) | str (s : Str) | tup (xs : List D)
/-- data; a list that stands (read only here); a list of this frame's own; a locked list; a source: a list of three ints -/
inductive S where
  | d (x : D) | lst (xs : List D) | own (xs : List D) | fz (xs : List D) | src
mutual
inductive Rp (K : PySem.W.Frag) (H : Hp) : V → D → Prop
  | non : Rp K H .non .non
  | bl (b : Bool) : Rp K H (.bl b) (.bl b)
  | int (i : Int) : Rp K H (.int i) (.int i)
  | str (x : Str) : Rp K H (.str x) (.str x)
  | tup {a : Addr} {vs : List V} {ds : List D} : SqT K H a vs → RpA K H vs ds → Rp K H (.ref a) (.tup ds)
inductive RpA (K : PySem.W.Frag) (H : Hp) : List V → List D → Prop
  | nil : RpA K H [] []
  | cons {v : V} {vs : List V} {d : D} {ds : List D} : Rp K H v d → RpA K H vs ds → RpA K H (v :: vs) (d :: ds)
end
def isSrc (o : HO) : Prop := ∃ c f n, o = .lst [.int c, .int f, .int n]
def nsrc (vs : List V) : Prop := ∀ c f n, vs ≠ [.int c, .int f, .int n]
/-- all that was tracked is as it was; sources stay sources -/
def Keep (H H' : Hp) : Prop := ∀ a o, H a = some o → H' a = some o ∨ (isSrc o ∧ ∃ o', H' a = some o' ∧ isSrc o')
theorem Keep.refl (H : Hp) : Keep H H := fun _ _ h => .inl h
theorem Keep.trans {H H1 H2 : Hp} (a : Keep H H1) (b : Keep H1 H2) : Keep H H2 := fun x o h => by
  rcases a x o h with h1 | ⟨s, o1, h1, s1⟩
  · exact b x o h1
  · rcases b x o1 h1 with h2 | ⟨_, o2, h2, s2⟩
    · exact .inr ⟨s, o1, h2, s1⟩
    · exact .inr ⟨s, o2, h2, s2⟩
theorem Keep.free {H H' : Hp} (e : Keep H H') {a : Addr} (h : H' a = none) : H a = none := by
  cases q : H a with
  | none => rfl
  | some o =>
    rcases e a o q with z | ⟨_, o', z, _⟩ <;> rw [h] at z <;> cases z
theorem Keep.at {H H' : Hp} (e : Keep H H') {a : Addr} {o : HO} (h : H a = some o) (n : ¬ isSrc o) : H' a = some o := by
  rcases e a o h with z | ⟨s, _⟩
  · exact z
  · exact absurd s n
theorem Keep.new {H : Hp} {p : Addr} {o : HO} (h : H p = none) : Keep H (upd H p o) := fun a u e => .inl (by
  rw [upd_ne (ne_of_none e h)]; exact e)
/-- an object that H does not know may change -/
theorem Keep.mut {H H' : Hp} {p : Addr} {o : HO} (e : Keep H H') (h : H p = none) : Keep H (upd H' p o) := fun a u ha => by
  rw [upd_ne (ne_of_none ha h)]
  exact e a u ha
theorem nsrc_not {vs : List V} (h : nsrc vs) : ¬ isSrc (.lst vs) := fun ⟨c, f, n, e⟩ => h c f n (by injection e)
theorem tup_not {vs : List V} : ¬ isSrc (.tup vs) := fun ⟨c, f, n, e⟩ => by cases e
theorem frz_not {o : Obj} {u : HO} : ¬ isSrc (.frz o u) := fun ⟨c, f, n, e⟩ => by cases e
theorem Keep.sqt {K : PySem.W.Frag} {H H' : Hp} {a : Addr} {vs : List V} (e : Keep H H') (h : SqT K H a vs) : SqT K H' a vs := by
  rcases h with (h | ⟨o, h⟩) | h
  · exact .inl (.inl (e.at h tup_not))
  · exact .inl (.inr ⟨o, e.at h frz_not⟩)
  · exact .inr h
/-- a list that stands, no source; a list that is locked -/
def RL (H : Hp) (a : Addr) (vs : List V) : Prop := H a = some (.lst vs) ∧ nsrc vs
def RZ (K : PySem.W.Frag) (H : Hp) (a : Addr) (vs : List V) : Prop := (∃ o, H a = some (.frz o (.lst vs))) ∨
    ∃ (o : Obj) (its : Array Value) (n : Nat), K.lookup a = some o ∧ o.cls = .type "list" ∧ o.dict = none ∧ o.data = .seq its n ∧ its.size ≤ sizeLine ∧ Vals vs its.toList
theorem RL.sql {K : PySem.W.Frag} {H : Hp} {a : Addr} {vs : List V} (h : RL H a vs) : SqL K H a vs := .inl (.inl h.1)
theorem RZ.sql {K : PySem.W.Frag} {H : Hp} {a : Addr} {vs : List V} (h : RZ K H a vs) : SqL K H a vs := by
  rcases h with h | h
  · exact .inl (.inr h)
  · exact .inr h
theorem Keep.rl {H H' : Hp} {a : Addr} {vs : List V} (e : Keep H H') (h : RL H a vs) : RL H' a vs := ⟨e.at h.1 (nsrc_not h.2), h.2⟩
theorem Keep.rz {K : PySem.W.Frag} {H H' : Hp} {a : Addr} {vs : List V} (e : Keep H H') (h : RZ K H a vs) : RZ K H' a vs := by
  rcases h with ⟨o, h⟩ | h
  · exact .inl ⟨o, e.at h frz_not⟩
  · exact .inr h
mutual
theorem Rp.to {K : PySem.W.Frag} {H H' : Hp} (e : ∀ a vs, SqT K H a vs → SqT K H' a vs) : ∀ {v : V} {d : D}, Rp K H v d → Rp K H' v d
  | _, _, .non => .non
  | _, _, .bl b => .bl b
  | _, _, .int i => .int i
  | _, _, .str x => .str x
  | _, _, .tup h r => .tup (e _ _ h) (RpA.to e r)
theorem RpA.to {K : PySem.W.Frag} {H H' : Hp} (e : ∀ a vs, SqT K H a vs → SqT K H' a vs) : ∀ {vs : List V} {ds : List D}, RpA K H vs ds → RpA K H' vs ds
  | _, _, .nil => .nil
  | _, _, .cons h r => .cons (Rp.to e h) (RpA.to e r)
end
section
variable {K : PySem.W.Frag} {H H' B : Hp} {v : V} {vs ws : List V} {d : D} {ds es : List D} {a : Addr}
theorem Rp.mono (h : Rp K H v d) (e : Keep H H') : Rp K H' v d := h.to fun _ _ z => e.sqt z
theorem RpA.mono (h : RpA K H vs ds) (e : Keep H H') : RpA K H' vs ds := h.to fun _ _ z => e.sqt z
theorem RpA.length : ∀ {vs : List V} {ds : List D}, RpA K H vs ds → vs.length = ds.length
  | _, _, .nil => rfl
  | _, _, .cons _ r => by rw [List.length_cons, List.length_cons, RpA.length r]
theorem RpA.get : ∀ {vs : List V} {ds : List D} {i : Nat} {d : D}, RpA K H vs ds → ds[i]? = some d → ∃ v, vs[i]? = some v ∧ Rp K H v d
  | _, _, _, _, .nil, e => by simp at e
  | _, _, 0, _, .cons h _, e => by simp at e; subst e; exact ⟨_, rfl, h⟩
  | _, _, i + 1, d, .cons _ r, e => by
    obtain ⟨v, h1, h2⟩ := RpA.get (i := i) (d := d) r (by simpa using e)
    exact ⟨v, by simpa using h1, h2⟩
theorem RpA.get' : ∀ {vs : List V} {ds : List D} {i : Nat} {v : V}, RpA K H vs ds → vs[i]? = some v → ∃ d, ds[i]? = some d ∧ Rp K H v d
  | _, _, _, _, .nil, e => by simp at e
  | _, _, 0, _, .cons h _, e => by simp at e; subst e; exact ⟨_, rfl, h⟩
  | _, _, i + 1, d, .cons _ r, e => by
    obtain ⟨v, h1, h2⟩ := RpA.get' (i := i) (v := d) r (by simpa using e)
    exact ⟨v, by simpa using h1, h2⟩
theorem RpA.append : ∀ {vs ws : List V} {ds es : List D}, RpA K H vs ds → RpA K H ws es → RpA K H (vs ++ ws) (ds ++ es)
  | _, _, _, _, .nil, s => s
  | _, _, _, _, .cons h r, s => .cons h (RpA.append r s)
theorem RpA.take : ∀ (n : Nat) {vs : List V} {ds : List D}, RpA K H vs ds → RpA K H (vs.take n) (ds.take n)
  | 0, _, _, _ => by rw [List.take_zero, List.take_zero]; exact .nil
  | _ + 1, _, _, .nil => .nil
  | n + 1, _, _, .cons h r => .cons h (RpA.take n r)
theorem RpA.drop : ∀ (n : Nat) {vs : List V} {ds : List D}, RpA K H vs ds → RpA K H (vs.drop n) (ds.drop n)
  | 0, _, _, r => r
  | _ + 1, _, _, .nil => .nil
  | n + 1, _, _, .cons _ r => RpA.drop n r
theorem Rp.tup_inv (h : Rp K H v (.tup ds)) : ∃ a vs, v = .ref a ∧ SqT K H a vs ∧ RpA K H vs ds := by
  cases h with
  | tup h r => exact ⟨_, _, rfl, h, r⟩
theorem Rp.int_inv {i : Int} (h : Rp K H v (.int i)) : v = .int i := by cases h; rfl
theorem Rp.bl_inv {b : Bool} (h : Rp K H v (.bl b)) : v = .bl b := by cases h; rfl
theorem Rp.str_inv {x : Str} (h : Rp K H v (.str x)) : v = .str x := by cases h; rfl
theorem Rp.non_inv (h : Rp K H v .non) : v = .non := by cases h; rfl
end
/-- a slot's value; what is one's own is not known to B -/
def RV (K : PySem.W.Frag) (B H : Hp) (v : V) : S → Prop
  | .d x => Rp K H v x
  | .lst xs => ∃ a vs, v = .ref a ∧ RL H a vs ∧ RpA K H vs xs
  | .own xs => ∃ a vs, v = .ref a ∧ B a = none ∧ RL H a vs ∧ RpA K H vs xs
  | .fz xs => ∃ a vs, v = .ref a ∧ RZ K H a vs ∧ RpA K H vs xs
  | .src => ∃ a o, v = .ref a ∧ H a = some o ∧ isSrc o
def view : S → S
  | .own xs => .lst xs
  | s => s
section
variable {K : PySem.W.Frag} {B B' H H' : Hp} {v : V} {s : S}
theorem RV.mono (h : RV K B H v s) (e : Keep H H') : RV K B H' v s := by
  cases s with
  | d x => exact Rp.mono h e
  | lst xs => obtain ⟨a, vs, rfl, r, z⟩ := h; exact ⟨a, vs, rfl, e.rl r, z.mono e⟩
  | own xs => obtain ⟨a, vs, rfl, b, r, z⟩ := h; exact ⟨a, vs, rfl, b, e.rl r, z.mono e⟩
  | fz xs => obtain ⟨a, vs, rfl, r, z⟩ := h; exact ⟨a, vs, rfl, e.rz r, z.mono e⟩
  | src =>
    obtain ⟨a, o, rfl, r, i⟩ := h
    rcases e a o r with z | ⟨_, o', z, i'⟩
    · exact ⟨a, o, rfl, z, i⟩
    · exact ⟨a, o', rfl, z, i'⟩
theorem RV.base (h : RV K B H v s) (e : ∀ a, B a = none → B' a = none) : RV K B' H v s := by
  cases s with
  | d x => exact h
  | lst xs => exact h
  | own xs => obtain ⟨a, vs, rfl, b, r⟩ := h; exact ⟨a, vs, rfl, e a b, r⟩
  | fz xs => exact h
  | src => exact h
theorem RV.view (h : RV K B H v s) : RV K B' H v (view s) := by
  cases s with
  | d x => exact h
  | lst xs => exact h
  | own xs => obtain ⟨a, vs, rfl, b, r, z⟩ := h; exact ⟨a, vs, rfl, r, z⟩
  | fz xs => exact h
  | src => exact h
end
abbrev RVs (K : PySem.W.Frag) (B H : Hp) : List V → List S → Prop := Paired (RV K B H)
theorem RVs.mono {K : PySem.W.Frag} {B H H' : Hp} (e : Keep H H') : ∀ {vs : List V} {ss : List S}, RVs K B H vs ss → RVs K B H' vs ss
  | _, _, .nil => .nil
  | _, _, .cons h r => .cons (h.mono e) (RVs.mono e r)
theorem RVs.base {K : PySem.W.Frag} {B B' H : Hp} (e : ∀ a, B a = none → B' a = none) : ∀ {vs : List V} {ss : List S}, RVs K B H vs ss → RVs K B' H vs ss
  | _, _, .nil => .nil
  | _, _, .cons h r => .cons (h.base e) (RVs.base e r)
theorem RVs.view {K : PySem.W.Frag} {B B' H : Hp} : ∀ {vs : List V} {ss : List S}, RVs K B H vs ss → RVs K B' H vs (ss.map view)
  | _, _, .nil => .nil
  | _, _, .cons h r => .cons h.view (RVs.view r)
theorem RVs.data {K : PySem.W.Frag} {B H : Hp} : ∀ {vs : List V} {ds : List D}, RVs K B H vs (ds.map S.d) → RpA K H vs ds
  | _, [], .nil => .nil
  | _, _ :: _, .cons h r => .cons h (RVs.data r)
abbrev DE := List (Option S)
def isL : S → Prop
  | .lst _ => True
  | .own _ => True
  | _ => False
/-- the slots hold what ρ says; one's own lists are apart from the other lists -/
structure RS (K : PySem.W.Frag) (B H : Hp) (σ : L2.St) (ρ : DE) : Prop where
  len : σ.length = ρ.length
  rep : ∀ (i : Nat) (s : S), ρ[i]? = some (some s) → ∃ v, σ[i]? = some (some v) ∧ RV K B H v s
  sep : ∀ (i j : Nat) (xs : List D) (s : S) (v w : V), i ≠ j → ρ[i]? = some (some (.own xs)) → ρ[j]? = some (some s) → isL s → σ[i]? = some (some v) → σ[j]? = some (some w) → v ≠ w
section
variable {K : PySem.W.Frag} {B B' H H' : Hp} {σ : L2.St} {ρ : DE}
theorem RS.mono (h : RS K B H σ ρ) (e : Keep H H') : RS K B H' σ ρ := ⟨h.len, fun i s q => let ⟨v, a, b⟩ := h.rep i s q; ⟨v, a, b.mono e⟩, h.sep⟩
theorem RS.base (h : RS K B H σ ρ) (e : ∀ a, B a = none → B' a = none) : RS K B' H σ ρ := ⟨h.len, fun i s q => let ⟨v, a, b⟩ := h.rep i s q; ⟨v, a, b.base e⟩, h.sep⟩
/-- a list's address is tracked -/
theorem RV.there {v : V} {s : S} (h : RV K B H v s) (l : isL s) : ∃ a o, v = .ref a ∧ H a = some o := by
  cases s with
  | d x => exact l.elim
  | src => exact l.elim
  | fz xs => exact l.elim
  | lst xs => obtain ⟨a, vs, rfl, r, _⟩ := h; exact ⟨a, _, rfl, r.1⟩
  | own xs => obtain ⟨a, vs, rfl, _, r, _⟩ := h; exact ⟨a, _, rfl, r.1⟩
def stor : S → Prop
  | .lst _ => False
  | _ => True
/-- a store -/
theorem RS.set (h : RS K B H σ ρ) {Hs : Hp} (ks : Keep Hs H) (hs : RS K B Hs σ ρ) (kb : Keep B Hs) {i : Nat} {v : V} {s : S} (st : stor s) (r : RV K Hs H v s) : RS K B H (σ.set i (some v)) (ρ.set i (some s)) := by
  have get : ∀ {j : Nat} {w : V}, (σ.set i (some v))[j]? = some (some w) → (j = i ∧ w = v) ∨ (j ≠ i ∧ σ[j]? = some (some w)) := fun {j w} e => by
    by_cases hj : j = i
    · subst hj
      by_cases hl : j < σ.length
      · rw [List.getElem?_set_self hl] at e; cases e; exact .inl ⟨rfl, rfl⟩
      · rw [List.getElem?_eq_none (by simpa using hl)] at e; cases e
    · rw [List.getElem?_set_ne (Ne.symm hj)] at e; exact .inr ⟨hj, e⟩
  have getr : ∀ {j : Nat} {w : S}, (ρ.set i (some s))[j]? = some (some w) → (j = i ∧ w = s) ∨ (j ≠ i ∧ ρ[j]? = some (some w)) := fun {j w} e => by
    by_cases hj : j = i
    · subst hj
      by_cases hl : j < ρ.length
      · rw [List.getElem?_set_self hl] at e; cases e; exact .inl ⟨rfl, rfl⟩
      · rw [List.getElem?_eq_none (by simpa using hl)] at e; cases e
    · rw [List.getElem?_set_ne (Ne.symm hj)] at e; exact .inr ⟨hj, e⟩
  have rB : RV K B H v s := r.base fun a z => kb.free z
  refine ⟨by simpa using h.len, fun j w e => ?_, fun j k xs w y z hjk e1 e2 l e3 e4 => ?_⟩
  · by_cases hj : j = i
    · subst hj
      rcases getr e with ⟨_, rfl⟩ | ⟨n, _⟩
      · have hl : j < σ.length := by
          rw [h.len]
          by_cases hl : j < ρ.length
          · exact hl
          · rw [List.getElem?_eq_none (by simpa using hl)] at e; cases e
        exact ⟨v, List.getElem?_set_self hl, rB⟩
      · exact absurd rfl n
    · rcases getr e with ⟨n, _⟩ | ⟨_, e⟩
      · exact absurd n hj
      · obtain ⟨w', a, b⟩ := h.rep j w e
        exact ⟨w', by rw [List.getElem?_set_ne (Ne.symm hj)]; exact a, b⟩
  · rcases getr e1 with ⟨ej, q⟩ | ⟨nj, f1⟩
    · -- the new one is one's own
      subst q
      rcases getr e2 with ⟨ek, _⟩ | ⟨nk, f2⟩
      · exact absurd (ej.trans ek.symm) hjk
      · rcases get e3 with ⟨_, ey⟩ | ⟨n, _⟩
        · rcases get e4 with ⟨q, _⟩ | ⟨_, f4⟩
          · exact absurd q nk
          · obtain ⟨w', a, b⟩ := hs.rep k w f2
            rw [a] at f4; cases f4
            obtain ⟨p, o, rfl, hp⟩ := b.there l
            obtain ⟨a', vs, rfl, n, _⟩ := r
            rw [ey]
            intro q
            injection q with q
            subst q
            rw [hp] at n; cases n
        · exact absurd ej n
    · rcases get e3 with ⟨q, _⟩ | ⟨_, f3⟩
      · exact absurd q nj
      · rcases getr e2 with ⟨ek, q⟩ | ⟨nk, f2⟩
        · subst q
          rcases get e4 with ⟨_, ez⟩ | ⟨n, _⟩
          · rw [ez]
            cases w with
            | d x => exact l.elim
            | src => exact l.elim
            | fz x => exact l.elim
            | lst x => exact st.elim
            | own x =>
              obtain ⟨w', a, b⟩ := hs.rep j _ f1
              rw [a] at f3; cases f3
              obtain ⟨p, o, rfl, hp⟩ := b.there trivial
              obtain ⟨a', vs, rfl, n, _⟩ := r
              intro q
              injection q with q
              subst q
              rw [hp] at n; cases n
          · exact absurd ek n
        · rcases get e4 with ⟨q, _⟩ | ⟨_, f4⟩
          · exact absurd q nk
          · exact h.sep j k xs w y z hjk f1 f2 l f3 f4
/-- forgetting a slot of ρ -/
theorem RS.forget (h : RS K B H σ ρ) {i : Nat} : RS K B H σ (ρ.set i none) := by
  have getr : ∀ {j : Nat} {w : S}, (ρ.set i none)[j]? = some (some w) → ρ[j]? = some (some w) := fun {j w} e => by
    by_cases hj : j = i
    · subst hj
      by_cases hl : j < ρ.length
      · rw [List.getElem?_set_self hl] at e; cases e
      · rw [List.getElem?_eq_none (by simpa using hl)] at e; cases e
    · rw [List.getElem?_set_ne (Ne.symm hj)] at e; exact e
  exact ⟨by simpa using h.len, fun j w e => h.rep j w (getr e), fun j k xs w y z n e1 e2 l e3 e4 => h.sep j k xs w y z n (getr e1) (getr e2) l e3 e4⟩
end
/-! ### readings by data -/
abbrev TDE := DE → (S → Prop) → Prop
abbrev TDT := DE → (Bool → Prop) → Prop
abbrev TDA := DE → (List S → Prop) → Prop
structure EndsD where
  nx : DE → Prop
  rt : S → Prop
  bk : DE → Prop := fun _ => False
  ct : DE → Prop := fun _ => False
abbrev TDS := EndsD → DE → Prop
/-- what is wanted, by data -/
def PostE (K : PySem.W.Frag) (H : Hp) (QD : S → Prop) (Q : VK) : Prop := ∀ v H' s, Keep H H' → RV K H H' v s → QD s → Q v H'
def liftE (K : PySem.W.Frag) (T : TDE) : TE := fun σ H Q => ∃ B ρ QD, Keep B H ∧ RS K B H σ ρ ∧ T ρ QD ∧ PostE K H QD Q
def liftT (K : PySem.W.Frag) (T : TDT) : TT := fun σ H Q => ∃ B ρ QD, Keep B H ∧ RS K B H σ ρ ∧ T ρ QD ∧ ∀ b H', Keep H H' → QD b → Q b H'
def liftA (K : PySem.W.Frag) (T : TDA) : TA := fun σ H Q => ∃ B ρ QD, Keep B H ∧ RS K B H σ ρ ∧ T ρ QD ∧ ∀ vs H' ss, Keep H H' → RVs K H H' vs ss → QD ss → Q vs H'
structure Impl (K : PySem.W.Frag) (B : Hp) (DD : EndsD) (D : Ends) : Prop where
  nx : ∀ σ H ρ, Keep B H → RS K B H σ ρ → DD.nx ρ → D.nx σ H
  rt : ∀ v H s, Keep B H → RV K B H v s → DD.rt s → D.rt v H
  bk : ∀ σ H ρ, Keep B H → RS K B H σ ρ → DD.bk ρ → D.bk σ H
  ct : ∀ σ H ρ, Keep B H → RS K B H σ ρ → DD.ct ρ → D.ct σ H
def liftS (K : PySem.W.Frag) (T : TDS) : TS := fun D σ H => ∃ B ρ DD, Keep B H ∧ RS K B H σ ρ ∧ T DD ρ ∧ Impl K B DD D
abbrev PED (X : Cx) (e : Expr) (T : TDE) : Prop := PE X e (liftE X.K T)
abbrev PTD (X : Cx) (e : Expr) (T : TDT) : Prop := PT X e (liftT X.K T)
abbrev PWD (X : Cx) (e : Expr) (T : TDT) : Prop := PW X e (liftT X.K T)
abbrev PAD (X : Cx) (es : List Expr) (T : TDA) : Prop := PA X es (liftA X.K T)
abbrev PSD (X : Cx) (st : Stmt) (T : TDS) : Prop := PS X st (liftS X.K T)
abbrev PSsD (X : Cx) (st : List Stmt) (T : TDS) : Prop := PSs X st (liftS X.K T)
section
variable {X : Cx}
theorem pe_imp {e : Expr} {t u : TE} (h : PE X e t) (i : ∀ σ H Q, u σ H Q → t σ H Q) : PE X e u := ⟨fun pins s σ H Q I q => h.run pins s σ H Q I (i _ _ _ q)⟩
theorem pt_imp {e : Expr} {t u : TT} (h : PT X e t) (i : ∀ σ H Q, u σ H Q → t σ H Q) : PT X e u := ⟨fun pins s σ H Q I q => h.run pins s σ H Q I (i _ _ _ q)⟩
theorem pw_imp {e : Expr} {t u : TT} (h : PW X e t) (i : ∀ σ H Q, u σ H Q → t σ H Q) : PW X e u := ⟨fun wh pins s σ H Q I q => h.run wh pins s σ H Q I (i _ _ _ q)⟩
theorem pa_imp {es : List Expr} {t u : TA} (h : PA X es t) (i : ∀ σ H Q, u σ H Q → t σ H Q) : PA X es u := ⟨fun pos pins s σ H Q I q => h.run pos pins s σ H Q I (i _ _ _ q)⟩
theorem ps_imp {st : Stmt} {t u : TS} (h : PS X st t) (i : ∀ D σ H, u D σ H → t D σ H) : PS X st u := ⟨fun pins s σ H D I q => h.run pins s σ H D I (i _ _ _ q)⟩
theorem pss_imp {st : List Stmt} {t u : TS} (h : PSs X st t) (i : ∀ D σ H, u D σ H → t D σ H) : PSs X st u := ⟨fun pins s σ H D I q => h.run pins s σ H D I (i _ _ _ q)⟩
end
/-- the state of an expression: the slots by data, over some base -/
structure At (K : PySem.W.Frag) (B H : Hp) (σ : L2.St) (ρ : DE) : Prop where
  k : Keep B H
  r : RS K B H σ ρ
theorem At.mono {K : PySem.W.Frag} {B H H' : Hp} {σ : L2.St} {ρ : DE} (a : At K B H σ ρ) (e : Keep H H') : At K B H' σ ρ := ⟨a.k.trans e, a.r.mono e⟩
theorem At.e {K : PySem.W.Frag} {B H : Hp} {σ : L2.St} {ρ : DE} (a : At K B H σ ρ) {T : TDE} {QD : S → Prop} {Q : VK} (h : T ρ QD) (p : PostE K H QD Q) : liftE K T σ H Q := ⟨B, ρ, QD, a.k, a.r, h, p⟩
theorem At.t {K : PySem.W.Frag} {B H : Hp} {σ : L2.St} {ρ : DE} (a : At K B H σ ρ) {T : TDT} {QD : Bool → Prop} {Q : Bool → Hp → Prop} (h : T ρ QD) (p : ∀ b H', Keep H H' → QD b → Q b H') : liftT K T σ H Q := ⟨B, ρ, QD, a.k, a.r, h, p⟩
theorem At.a {K : PySem.W.Frag} {B H : Hp} {σ : L2.St} {ρ : DE} (a : At K B H σ ρ) {T : TDA} {QD : List S → Prop} {Q : List V → Hp → Prop} (h : T ρ QD) (p : ∀ vs H' ss, Keep H H' → RVs K H H' vs ss → QD ss → Q vs H') : liftA K T σ H Q := ⟨B, ρ, QD, a.k, a.r, h, p⟩
theorem At.s {K : PySem.W.Frag} {B H : Hp} {σ : L2.St} {ρ : DE} (a : At K B H σ ρ) {T : TDS} {DD : EndsD} {D : Ends} (h : T DD ρ) (p : Impl K B DD D) : liftS K T D σ H := ⟨B, ρ, DD, a.k, a.r, h, p⟩
theorem PostE.after {K : PySem.W.Frag} {H H' : Hp} {QD : S → Prop} {Q : VK} (p : PostE K H QD Q) (e : Keep H H') : PostE K H' QD Q := fun v H2 s k r q => p v H2 s (e.trans k) (r.base fun a z => e.free z) q
end Pk

/-! ## D2 -/
set_option Elab.async false
set_option linter.all false
set_option maxRecDepth 100000
set_option maxHeartbeats 4000000
namespace Pk
open PySem PySem.Spec PyProof.Rows L2
/-! ### helpers on data -/
@[simp] def listOf : S → Option (List D)
  | .lst xs => some xs
  | .own xs => some xs
  | .fz xs => some xs
  | _ => none
/-- a list that H holds as such -/
@[simp] def plainOf : S → Option (List D)
  | .lst xs => some xs
  | .own xs => some xs
  | _ => none
@[simp] def datas : List S → Option (List D)
  | [] => some []
  | .d x :: r => (datas r).map (x :: ·)
  | _ :: _ => none
@[simp] def bools : List D → Option (List Bool)
  | [] => some []
  | .bl b :: r => (bools r).map (b :: ·)
  | _ :: _ => none
@[simp] def strsOf : List D → Option (List Str)
  | [] => some []
  | .str z :: r => (strsOf r).map (z :: ·)
  | _ :: _ => none
def nsrcD : List D → Prop
  | [.int _, .int _, .int _] => False
  | _ => True
def noInt : D → Prop
  | .int _ => False
  | _ => True
theorem nsrcD_snoc {xs : List D} {x : D} (h : noInt x) : nsrcD (xs ++ [x]) := by
  unfold nsrcD
  split
  · rename_i a b c e
    have : x = .int c := by
      have h1 := congrArg List.getLast? e
      simpa using h1
    subst this
    exact h
  · trivial
section
variable {K : PySem.W.Frag} {B H H' : Hp} {v : V} {vs : List V} {s : S} {ds : List D}
theorem listOf_ok (h : RV K B H v s) {xs : List D} (e : listOf s = some xs) : ∃ a vs, v = .ref a ∧ SqL K H a vs ∧ RpA K H vs xs := by
  cases s with
  | d x => cases e
  | src => cases e
  | lst ys => cases e; obtain ⟨a, vs, rfl, r, z⟩ := h; exact ⟨a, vs, rfl, r.sql, z⟩
  | own ys => cases e; obtain ⟨a, vs, rfl, _, r, z⟩ := h; exact ⟨a, vs, rfl, r.sql, z⟩
  | fz ys => cases e; obtain ⟨a, vs, rfl, r, z⟩ := h; exact ⟨a, vs, rfl, r.sql, z⟩
theorem plainOf_ok (h : RV K B H v s) {xs : List D} (e : plainOf s = some xs) : ∃ a vs, v = .ref a ∧ RL H a vs ∧ RpA K H vs xs := by
  cases s with
  | d x => cases e
  | src => cases e
  | fz x => cases e
  | lst ys => cases e; obtain ⟨a, vs, rfl, r, z⟩ := h; exact ⟨a, vs, rfl, r, z⟩
  | own ys => cases e; obtain ⟨a, vs, rfl, _, r, z⟩ := h; exact ⟨a, vs, rfl, r, z⟩
theorem datas_ok : ∀ {vs : List V} {ss : List S} {ds : List D}, RVs K B H vs ss → datas ss = some ds → RpA K H vs ds
  | _, [], _, .nil, e => by cases e; exact .nil
  | _, .d x :: r, ds, .cons h t, e => by
    unfold datas at e
    obtain ⟨es, e1, rfl⟩ := Option.map_eq_some_iff.mp e
    exact .cons h (datas_ok t e1)
  | _, .lst _ :: r, _, _, e => by cases e
  | _, .own _ :: r, _, _, e => by cases e
  | _, .fz _ :: r, _, _, e => by cases e
  | _, .src :: r, _, _, e => by cases e
theorem bools_ok : ∀ {vs : List V} {ds : List D} {bs : List Bool}, RpA K H vs ds → bools ds = some bs → vs = bs.map V.bl
  | _, [], _, .nil, e => by cases e; rfl
  | _, .bl b :: r, bs, .cons h t, e => by
    unfold bools at e
    obtain ⟨es, e1, rfl⟩ := Option.map_eq_some_iff.mp e
    rw [h.bl_inv, bools_ok t e1]; rfl
  | _, .non :: r, _, _, e => by cases e
  | _, .int _ :: r, _, _, e => by cases e
  | _, .str _ :: r, _, _, e => by cases e
  | _, .tup _ :: r, _, _, e => by cases e
theorem strsOf_ok : ∀ {vs : List V} {ds : List D} {bs : List Str}, RpA K H vs ds → strsOf ds = some bs → vs = bs.map V.str
  | _, [], _, .nil, e => by cases e; rfl
  | _, .str b :: r, bs, .cons h t, e => by
    unfold strsOf at e
    obtain ⟨es, e1, rfl⟩ := Option.map_eq_some_iff.mp e
    rw [h.str_inv, strsOf_ok t e1]; rfl
  | _, .non :: r, _, _, e => by cases e
  | _, .int _ :: r, _, _, e => by cases e
  | _, .bl _ :: r, _, _, e => by cases e
  | _, .tup _ :: r, _, _, e => by cases e
theorem nsrcD_ok (h : RpA K H vs ds) (n : nsrcD ds) : nsrc vs := by
  intro c f k e
  subst e
  cases h with
  | cons h1 h =>
    cases h with
    | cons h2 h =>
      cases h with
      | cons h3 h =>
        cases h
        cases h1; cases h2; cases h3
        exact n
/-- a new list -/
theorem rv_own {p : Addr} (hp : H p = none) (r : RpA K H vs ds) (n : nsrcD ds) : RV K H (upd H p (.lst vs)) (.ref p) (.own ds) :=
  ⟨p, vs, rfl, hp, ⟨upd_same, nsrcD_ok r n⟩, r.mono (Keep.new hp)⟩
theorem rv_tup {p : Addr} (hp : H p = none) (r : RpA K H vs ds) : RV K H (upd H p (.tup vs)) (.ref p) (.d (.tup ds)) :=
  .tup (SqT.of upd_same) (r.mono (Keep.new hp))
end
theorem PostE.d {K : PySem.W.Frag} {H : Hp} {QD : S → Prop} {Q : VK} (p : PostE K H QD Q) {v : V} {x : D} (r : Rp K H v x) (h : QD (.d x)) : Q v H := p v H (.d x) (Keep.refl H) r h
theorem szL {n : Nat} (h : n ≤ 1000000) : n ≤ sizeLine := Nat.le_trans h (by rw [sizeLine_eq]; decide)
theorem szLt {n : Nat} (h : n < 1000000) : n < sizeLine := Nat.lt_of_lt_of_le h (by rw [sizeLine_eq]; decide)
/-! ### names, constants -/
@[simp] def dVar (i : Nat) (ρ : DE) (Q : S → Prop) : Prop := match ρ[i]? with
  | some (some s) => Q (view s)
  | _ => False
@[simp] def dC (s : S) (_ρ : DE) (Q : S → Prop) : Prop := Q s
section
variable {X : Cx} {e a b : Expr} {Ta Tb T : TDE} {pos : Pos}
theorem pd_var (i : Nat) {x : Str} {pos : Pos} (hN : X.N[i]? = some x := by rfl) (hv : Vis X.env.scope x := by first | exact Or.inl rfl | exact Or.inr (Or.inl rfl) | exact Or.inr (Or.inr rfl)) (hd : (x == ("__debug__" : Str)) = false := by decide +kernel)
    (hcd : (x == ("__classdict__" : Str)) = false := by decide +kernel) : PED X (.Name x pos) (dVar i) := pe_imp (pe_var (i := i) hN hv hd hcd) fun σ H Q ⟨B, ρ, QD, k, r, h, p⟩ => by
  unfold dVar at h
  split at h
  · rename_i s e
    obtain ⟨v, e1, e2⟩ := r.rep i s e
    exact ⟨v, e1, p v H _ (Keep.refl H) e2.view h⟩
  · exact h.elim
theorem pd_c {v : V} {s : S} (h : PE X e (tC v)) (r : ∀ H, RV X.K H H v s) : PED X e (dC s) := pe_imp h fun σ H Q ⟨B, ρ, QD, k, _, h, p⟩ => p v H s (Keep.refl H) (r H) h
theorem pd_int {i j pos} : PED X (.Constant (.int i) j pos) (dC (.d (.int i))) := pd_c pe_int fun _ => .int i
theorem pd_bl {i j pos} : PED X (.Constant (.bool i) j pos) (dC (.d (.bl i))) := pd_c pe_bl fun _ => .bl i
theorem pd_str {i j pos} : PED X (.Constant (.str i) j pos) (dC (.d (.str i))) := pd_c pe_str fun _ => .str i
theorem pd_non {j pos} : PED X (.Constant .none j pos) (dC (.d .non)) := pd_c pe_non fun _ => .non
/-- the module's tuple of one text -/
theorem pd_glob1 {x : Str} {g : Addr} {z : Str} (hm : X.mg x = some (.ref g)) (hs : ∀ H, SqT X.K H g [.str z]) (hg : Gl X x := by rfl) (hd : (x == ("__debug__" : Str)) = false := by decide +kernel) : PED X (.Name x pos) (dC (.d (.tup [.str z]))) :=
  pd_c (v := .ref g) (pe_glob hg hm rfl hd) fun H => .tup (hs H) (.cons (.str z) .nil)
/-! ### operators on values -/
abbrev F2 := S → S → (S → Prop) → Prop
@[simp] def d2 (f : F2) (Ta Tb : TDE) (ρ : DE) (Q : S → Prop) : Prop := Ta ρ fun x => Tb ρ fun y => f x y Q
def OpD (K : PySem.W.Frag) (r : R2) (f : F2) : Prop := ∀ B H x y sx sy QD Q, RV K B H x sx → RV K B H y sy → f sx sy QD → PostE K H QD Q → r x y H Q
theorem d2_ok {K : PySem.W.Frag} {r : R2} {f : F2} (o : OpD K r f) {Ta Tb : TDE} {σ : L2.St} {H : Hp} {Q : VK} (h : liftE K (d2 f Ta Tb) σ H Q) : tOp r (liftE K Ta) (liftE K Tb) σ H Q := by
  obtain ⟨B, ρ, QD, k, r0, h, p⟩ := h
  have A : At K B H σ ρ := ⟨k, r0⟩
  refine A.e h fun x H1 sx e1 rx h1 => ?_
  refine (A.mono e1).e h1 fun y H2 sy e2 ry h2 => ?_
  exact o H H2 x y sx sy QD Q (rx.mono e2) (ry.base fun a z => e1.free z) h2 (p.after (e1.trans e2))
theorem pd_op {op : Operator} {r : R2} {f : F2} (ho : OpR X (binaryOp op) r) (o : OpD X.K r f) (ha : PED X a Ta) (hb : PED X b Tb) : PED X (.BinOp a op b pos) (d2 f Ta Tb) := pe_imp (pe_op ho ha hb) fun _ _ _ h => d2_ok o h
theorem pd_cmp {op : CmpOp} {r : R2} {f : F2} (ho : OpR X (compareOp op) r) (o : OpD X.K r f) (ha : PED X a Ta) (hb : PED X b Tb) (hm : behindInMarks op b = false) : PED X (.Compare a [op] [b] pos) (d2 f Ta Tb) := pe_imp (pe_cmpR ho ha hb hm) fun _ _ _ h => d2_ok o h
/-- a value's test -/
@[simp] def dB (T : TDE) (ρ : DE) (Q : Bool → Prop) : Prop := T ρ fun s => match s with
  | .d (.bl b) => Q b
  | _ => False
theorem dB_ok {K : PySem.W.Frag} {t : TE} {T : TDE} (hi : ∀ σ H Q, liftE K T σ H Q → t σ H Q) {σ : L2.St} {H : Hp} {Q : Bool → Hp → Prop} (h : liftT K (dB T) σ H Q) : tTest t σ H Q := by
  obtain ⟨B, ρ, QD, k, r0, h, p⟩ := h
  refine hi _ _ _ ⟨B, ρ, _, k, r0, h, fun x H1 sx e1 rx h1 => ?_⟩
  split at h1
  · rename_i b
    have e : x = .bl b := Rp.bl_inv rx
    exact ⟨b, e, p b H1 e1 h1⟩
  · exact h1.elim
theorem pt_cmpD {op : CmpOp} {r : R2} {f : F2} (ho : OpR X (compareOp op) r) (o : OpD X.K r f) (ha : PED X a Ta) (hb : PED X b Tb) (hm : behindInMarks op b = false) : PTD X (.Compare a [op] [b] pos) (dB (d2 f Ta Tb)) := pt_imp (pt_cmpR ho ha hb hm) fun _ _ _ h => dB_ok (fun _ _ _ z => d2_ok o z) h
theorem pt_e (h : PED X e T) (he : ∀ whole, isTrue e X.env whole = (do let v ← whole; standAt e.pos; holding [v] (truthy v)) := by intro _; rfl) : PTD X e (dB T) := pt_imp (pt_val h he) fun _ _ _ h => dB_ok (fun _ _ _ z => z) h
end
/-! ### arithmetic -/
def fI (g : Int → Int → Int) (C : Int → Int → Prop) (x : S) (y : S) (Q : S → Prop) : Prop := match x, y with
  | .d (.int i), .d (.int j) => C i j ∧ Q (.d (.int (g i j)))
  | _, _ => False
theorem fI_ok {K : PySem.W.Frag} {g : Int → Int → Int} {C C' : Int → Int → Prop} (hC : ∀ i j, C i j → C' i j) : OpD K (rI C' fun i j => .int (g i j)) (fI g C) := fun B H x y sx sy QD Q rx ry h p => by
  unfold fI at h
  split at h
  · rename_i i j
    exact ⟨i, j, Rp.int_inv rx, Rp.int_inv ry, hC i j h.1, p.d (.int _) h.2⟩
  · exact h.elim
theorem fI0_ok {K : PySem.W.Frag} {g : Int → Int → Int} : OpD K (rI0 fun i j => .int (g i j)) (fI g fun _ _ => True) := fun B H x y sx sy QD Q rx ry h p => by
  unfold fI at h
  split at h
  · rename_i i j
    exact ⟨i, j, Rp.int_inv rx, Rp.int_inv ry, p.d (.int _) h.2⟩
  · exact h.elim
/-- x + y: ints, texts, tuples, lists -/
def fAdd (x : S) (y : S) (Q : S → Prop) : Prop := match x, y with
  | .d (.int i), .d (.int j) => Q (.d (.int (i + j)))
  | .d (.str i), .d (.str j) => i.length + j.length ≤ 1000000 ∧ Q (.d (.str (i ++ j)))
  | .d (.tup i), .d (.tup j) => i.length + j.length ≤ 1000000 ∧ Q (.d (.tup (i ++ j)))
  | x, y => match plainOf x, plainOf y with
    | some i, some j => i.length + j.length ≤ 1000000 ∧ nsrcD (i ++ j) ∧ Q (.own (i ++ j))
    | _, _ => False
def rAddAll (K : PySem.W.Frag) : R2 := fun x y H Q => (∃ i j, x = .int i ∧ y = .int j ∧ Q (.int (i + j)) H) ∨ (∃ i j, x = .str i ∧ y = .str j ∧ i.length + j.length ≤ sizeLine ∧ Q (.str (i ++ j)) H) ∨ rCatA K x y H Q ∨ rCat x y H Q
theorem op_addAll {X : Cx} : OpR X (binaryOp .Add) (rAddAll X.K) := op_add.or (op_add_str.or (op_catA.or op_cat))
theorem fAdd_ok {K : PySem.W.Frag} : OpD K (rAddAll K) fAdd := fun B H x y sx sy QD Q rx ry h p => by
  unfold fAdd at h
  split at h
  · rename_i i j
    exact .inl ⟨i, j, Rp.int_inv rx, Rp.int_inv ry, p.d (.int _) h⟩
  · rename_i i j
    exact .inr (.inl ⟨i, j, Rp.str_inv rx, Rp.str_inv ry, szL h.1, p.d (.str _) h.2⟩)
  · rename_i i j
    obtain ⟨a, vs, rfl, ha, ra⟩ := Rp.tup_inv rx
    obtain ⟨b, ws, rfl, hb, rb⟩ := Rp.tup_inv ry
    refine .inr (.inr (.inl ⟨a, b, vs, ws, rfl, rfl, ha, hb, szL (by rw [ra.length, rb.length]; exact h.1), fun z => ?_, fun z z2 => ?_, fun z z2 q hq => ?_⟩))
    · subst z
      have e : i = [] := List.eq_nil_of_length_eq_zero (by rw [← ra.length]; rfl)
      rw [e] at h
      exact p.d ry h.2
    · subst z2
      have e : j = [] := List.eq_nil_of_length_eq_zero (by rw [← rb.length]; rfl)
      rw [e, List.append_nil] at h
      exact p.d rx h.2
    · exact p _ _ _ (Keep.new hq) (rv_tup hq (ra.append rb)) h.2
  · split at h
    · rename_i i j e1 e2
      obtain ⟨a, vs, rfl, ha, ra⟩ := plainOf_ok rx e1
      obtain ⟨b, ws, rfl, hb, rb⟩ := plainOf_ok ry e2
      refine .inr (.inr (.inr ⟨a, b, vs, ws, rfl, rfl, ha.1, hb.1, szL (by rw [ra.length, rb.length]; exact h.1), fun q hq => ?_⟩))
      exact p _ _ _ (Keep.new hq) (rv_own hq (ra.append rb) h.2.1) h.2.2
    · exact h.elim
def repS (x : Str) (n : Int) : Str := if n < 1 then Str.empty else if n = 1 then x else ⟨(List.replicate n.toNat x.cps).foldl (· ++ ·) #[]⟩
def rMulAll : R2 := fun x y H Q => rI CMul (fun i j => .int (i * j)) x y H Q ∨ ∃ (i : Str) (n : Int), x = .str i ∧ y = .int n ∧ (0 < i.length ∧ i.length ≤ 1000 ∧ n ≤ 1000 ∧ -1000 ≤ n) ∧ Q (.str (repS i n)) H
theorem rep_size (a : Array Nat) : ∀ (m : Nat) (acc : Array Nat), ((List.replicate m a).foldl (fun x1 x2 => x1 ++ x2) acc).size = acc.size + m * a.size
  | 0, acc => by simp
  | m + 1, acc => by
    rw [List.replicate_succ, List.foldl_cons, rep_size a m (acc ++ a), Array.size_append, Nat.succ_mul]
    omega
theorem op_mulAll {X : Cx} : OpR X (binaryOp .Mult) rMulAll := op_mul.or fun pins s σ H x y v u Q I rx ry h => by
  obtain ⟨i, n, rfl, rfl, ⟨h0, h1, h2, h3⟩, q⟩ := h
  obtain ⟨t, rfl⟩ := rx
  obtain ⟨t', rfl⟩ := ry
  have e1 : decide (n < -(2 ^ 63 : Int)) = false := decide_eq_false (by omega)
  have e2 : decide (n ≥ 2 ^ 63) = false := decide_eq_false (by omega)
  refine PySem.P.mul_str (by rw [e1, e2]; rfl) (fun k _ z => ?_) (fun k _ => ?_) ?_
  · have a1 : ((i.length : Nat) : Int) ≤ 1000 := by omega
    have a2 : (2 ^ 63 - 1 : Int) / n ≥ (2 ^ 63 - 1) / 1000 := by
      have : (2 ^ 63 - 1 : Int) / 1000 * n ≤ 2 ^ 63 - 1 := by omega
      exact (Int.le_ediv_iff_mul_le (by omega)).mpr this
    omega
  · have a1 : i.length * n.toNat ≤ 1000 * 1000 := Nat.mul_le_mul h1 (by omega)
    unfold PySem.Builtin.Str.tooLong
    simp only [decide_eq_false_iff_not]
    first | (have := sizeLine_eq; omega) | (rw [sizeLine_eq]; omega)
  · unfold repS at q
    by_cases c : n < 1
    · rw [if_pos c] at q ⊢
      exact ⟨by decide, .str _, H, I.tok _, ⟨_, rfl⟩, q⟩
    · rw [if_neg c] at q ⊢
      by_cases c2 : n = 1
      · rw [if_pos c2] at q
        rw [if_pos (by simp [c2])]
        exact ⟨.str _, H, I, ⟨_, rfl⟩, q⟩
      · rw [if_neg c2] at q
        rw [if_neg (by simp [c2]; intro z; omega)]
        refine ⟨?_, .str _, H, I.tok _, ⟨_, rfl⟩, q⟩
        show (List.foldl (fun x1 x2 => x1 ++ x2) #[] (List.replicate n.toNat i.cps)).size ≤ sizeLine
        rw [rep_size]
        have a1 : n.toNat * i.cps.size ≤ 1000 * 1000 := Nat.mul_le_mul (by omega) h1
        have := sizeLine_eq
        have e0 : (#[] : Array Nat).size = 0 := rfl
        omega
def fMul (x : S) (y : S) (Q : S → Prop) : Prop := match x, y with
  | .d (.int i), .d (.int j) => CMul i j ∧ Q (.d (.int (i * j)))
  | .d (.str i), .d (.int n) => (0 < i.length ∧ i.length ≤ 1000 ∧ n ≤ 1000 ∧ -1000 ≤ n) ∧ Q (.d (.str (repS i n)))
  | _, _ => False
theorem fMul_ok {K : PySem.W.Frag} : OpD K rMulAll fMul := fun B H x y sx sy QD Q rx ry h p => by
  unfold fMul at h
  split at h
  · exact .inl ⟨_, _, Rp.int_inv rx, Rp.int_inv ry, h.1, p.d (.int _) h.2⟩
  · exact .inr ⟨_, _, Rp.str_inv rx, Rp.int_inv ry, h.1, p.d (.str _) h.2⟩
  · exact h.elim
section
variable {X : Cx} {a b : Expr} {Ta Tb : TDE} {pos : Pos}
theorem pd_add (ha : PED X a Ta) (hb : PED X b Tb) : PED X (.BinOp a .Add b pos) (d2 fAdd Ta Tb) := pd_op op_addAll fAdd_ok ha hb
theorem pd_mul (ha : PED X a Ta) (hb : PED X b Tb) : PED X (.BinOp a .Mult b pos) (d2 fMul Ta Tb) := pd_op op_mulAll fMul_ok ha hb
abbrev fSub : F2 := fI (fun i j => i - j) fun _ _ => True
theorem pd_sub (ha : PED X a Ta) (hb : PED X b Tb) : PED X (.BinOp a .Sub b pos) (d2 fSub Ta Tb) := pd_op op_sub fI0_ok ha hb
abbrev fMod : F2 := fI (fun i j => i.fmod j) fun _ j => j ≠ 0
theorem pd_mod (ha : PED X a Ta) (hb : PED X b Tb) : PED X (.BinOp a .Mod b pos) (d2 fMod Ta Tb) := pd_op op_modN (fI_ok fun _ _ h => h) ha hb
abbrev fDiv : F2 := fI (fun i j => i / j) fun _ j => 0 < j ∧ j.natAbs < 2 ^ 200
theorem pd_div (ha : PED X a Ta) (hb : PED X b Tb) : PED X (.BinOp a .FloorDiv b pos) (d2 fDiv Ta Tb) := pd_op op_fdivW (fI_ok fun _ _ h => wide_div h.1 h.2 (by decide) (by decide)) ha hb
abbrev fPow : F2 := fI (fun i j => i ^ j.toNat) CPow
theorem pd_pow (ha : PED X a Ta) (hb : PED X b Tb) : PED X (.BinOp a .Pow b pos) (d2 fPow Ta Tb) := pd_op op_pow (fI_ok fun _ _ h => h) ha hb
end
end Pk

/-! ## D3 -/
set_option Elab.async false
set_option linter.all false
set_option maxRecDepth 100000
set_option maxHeartbeats 4000000
namespace Pk
open PySem PySem.Spec PyProof.Rows L2
theorem PostE.da {K : PySem.W.Frag} {H H' : Hp} {QD : S → Prop} {Q : VK} (p : PostE K H QD Q) (e : Keep H H') {v : V} {x : D} (r : Rp K H' v x) (h : QD (.d x)) : Q v H' := p v H' (.d x) e r h
/-! ### equality -/
mutual
def toP : D → PyData
  | .non => .none
  | .bl b => .bool b
  | .int i => .int i
  | .str s => .str s
  | .tup xs => .tuple (toPs xs)
def toPs : List D → List PyData
  | [] => []
  | x :: r => toP x :: toPs r
end
mutual
theorem Rp.dp {K : PySem.W.Frag} {H : Hp} : ∀ {v : V} {d : D}, Rp K H v d → Dp K H v (toP d)
  | _, _, .non => .non
  | _, _, .bl b => .bl b
  | _, _, .int i => .int i
  | _, _, .str x => .str x
  | _, _, .tup h r => .tup h (RpA.dp r)
theorem RpA.dp {K : PySem.W.Frag} {H : Hp} : ∀ {vs : List V} {ds : List D}, RpA K H vs ds → DpAll K H vs (toPs ds)
  | _, _, .nil => .nil
  | _, _, .cons h r => .cons (Rp.dp h) (RpA.dp r)
end
def fEq (x : S) (y : S) (Q : S → Prop) : Prop := match x, y with
  | .d (.str a), .d (.str b) => Q (.d (.bl (decide (a = b))))
  | .d (.int a), .d (.int b) => Q (.d (.bl (decide (a = b))))
  | .d (.bl a), .d (.bl b) => Q (.d (.bl (decide (a = b))))
  | .d (.tup a), .d (.tup b) => SeqAt.shaped (toP (.tup a)) = true ∧ SeqAt.shaped (toP (.tup b)) = true ∧ Q (.d (.bl (PyData.eqv (toP (.tup a)) (toP (.tup b)))))
  | _, _ => False
def rEqAll (K : PySem.W.Frag) : R2 := fun x y H Q => rEq x y H Q ∨ rEqD K x y H Q
theorem op_eqAll {X : Cx} (hu : X.A.units + 64 < cLine) : OpR X (compareOp .Eq) (rEqAll X.K) := op_eq.or (op_eqD hu)
theorem decV_str {a b : Str} : decide (V.str a = V.str b) = decide (a = b) := by simp
theorem decV_int {a b : Int} : decide (V.int a = V.int b) = decide (a = b) := by simp
theorem decV_bl {a b : Bool} : decide (V.bl a = V.bl b) = decide (a = b) := by simp
theorem fEq_ok {K : PySem.W.Frag} : OpD K (rEqAll K) fEq := fun B H x y sx sy QD Q rx ry h p => by
  unfold fEq at h
  split at h
  · refine .inl ?_
    rw [Rp.str_inv rx, Rp.str_inv ry]
    exact ⟨rfl, by rw [decV_str]; exact p.d (.bl _) h⟩
  · refine .inl ?_
    rw [Rp.int_inv rx, Rp.int_inv ry]
    exact ⟨rfl, by rw [decV_int]; exact p.d (.bl _) h⟩
  · refine .inl ?_
    rw [Rp.bl_inv rx, Rp.bl_inv ry]
    exact ⟨rfl, by rw [decV_bl]; exact p.d (.bl _) h⟩
  · exact .inr ⟨_, _, Rp.dp rx, Rp.dp ry, h.1, h.2.1, p.d (.bl _) h.2.2⟩
  · exact h.elim
def fNe (x : S) (y : S) (Q : S → Prop) : Prop := match x, y with
  | .d (.str a), .d (.str b) => Q (.d (.bl (!decide (a = b))))
  | .d (.int a), .d (.int b) => Q (.d (.bl (!decide (a = b))))
  | _, _ => False
theorem fNe_ok {K : PySem.W.Frag} : OpD K rNe fNe := fun B H x y sx sy QD Q rx ry h p => by
  unfold fNe at h
  split at h
  · rw [Rp.str_inv rx, Rp.str_inv ry]
    exact ⟨rfl, by rw [decV_str]; exact p.d (.bl _) h⟩
  · rw [Rp.int_inv rx, Rp.int_inv ry]
    exact ⟨rfl, by rw [decV_int]; exact p.d (.bl _) h⟩
  · exact h.elim
/-! ### order -/
def fOrd (g : Int → Int → Bool) (k : Str → Str → Bool) (x : S) (y : S) (Q : S → Prop) : Prop := match x, y with
  | .d (.int a), .d (.int b) => Q (.d (.bl (g a b)))
  | .d (.str a), .d (.str b) => Q (.d (.bl (k a b)))
  | _, _ => False
def rOrd (g : Int → Int → Bool) (k : Str → Str → Bool) : R2 := fun x y H Q => (rI0 fun i j => .bl (g i j)) x y H Q ∨ ∃ i j, x = .str i ∧ y = .str j ∧ Q (.bl (k i j)) H
theorem fOrd_ok {K : PySem.W.Frag} {g : Int → Int → Bool} {k : Str → Str → Bool} : OpD K (rOrd g k) (fOrd g k) := fun B H x y sx sy QD Q rx ry h p => by
  unfold fOrd at h
  split at h
  · exact .inl ⟨_, _, Rp.int_inv rx, Rp.int_inv ry, p.d (.bl _) h⟩
  · exact .inr ⟨_, _, Rp.str_inv rx, Rp.str_inv ry, p.d (.bl _) h⟩
  · exact h.elim
def ltS (a b : Str) : Bool := decide (a.cps.toList < b.cps.toList)
abbrev fLt : F2 := fOrd (fun i j => decide (i < j)) ltS
abbrev fLe : F2 := fOrd (fun i j => decide (i ≤ j)) fun a b => !ltS b a
abbrev fGt : F2 := fOrd (fun i j => decide (j < i)) fun a b => ltS b a
abbrev fGe : F2 := fOrd (fun i j => decide (j ≤ i)) fun a b => !ltS a b
section
variable {X : Cx}
theorem op_ltAll : OpR X (compareOp .Lt) (rOrd (fun i j => decide (i < j)) ltS) := op_lt.or op_lt_str
theorem op_leAll : OpR X (compareOp .LtE) (rOrd (fun i j => decide (i ≤ j)) fun a b => !ltS b a) := op_le.or op_le_str
theorem op_gtAll : OpR X (compareOp .Gt) (rOrd (fun i j => decide (j < i)) fun a b => ltS b a) := op_gt.or op_gt_str
theorem op_geAll : OpR X (compareOp .GtE) (rOrd (fun i j => decide (j ≤ i)) fun a b => !ltS a b) := op_ge.or op_ge_str
end
/-! ### in -/
@[simp] def seqOf : S → Option (List D)
  | .d (.tup xs) => some xs
  | s => listOf s
theorem seqOf_ok {K : PySem.W.Frag} {B H : Hp} {v : V} {s : S} {xs : List D} (h : RV K B H v s) (e : seqOf s = some xs) : ∃ a vs, v = .ref a ∧ (SqL K H a vs ∨ SqT K H a vs) ∧ RpA K H vs xs := by
  unfold seqOf at e
  split at e
  · cases e
    obtain ⟨a, vs, rfl, r, z⟩ := Rp.tup_inv h
    exact ⟨a, vs, rfl, .inr r, z⟩
  · obtain ⟨a, vs, rfl, r, z⟩ := listOf_ok h e
    exact ⟨a, vs, rfl, .inl r, z⟩
@[simp] def intsOf : List D → Option (List Int)
  | [] => some []
  | .int z :: r => (intsOf r).map (z :: ·)
  | _ :: _ => none
theorem intsOf_ok {K : PySem.W.Frag} {H : Hp} : ∀ {vs : List V} {ds : List D} {bs : List Int}, RpA K H vs ds → intsOf ds = some bs → vs = bs.map V.int
  | _, [], _, .nil, e => by cases e; rfl
  | _, .int b :: r, bs, .cons h t, e => by
    unfold intsOf at e
    obtain ⟨es, e1, rfl⟩ := Option.map_eq_some_iff.mp e
    rw [h.int_inv, intsOf_ok t e1]; rfl
  | _, .non :: r, _, _, e => by cases e
  | _, .str _ :: r, _, _, e => by cases e
  | _, .bl _ :: r, _, _, e => by cases e
  | _, .tup _ :: r, _, _, e => by cases e
theorem inV_str (z : Str) : ∀ zs : List Str, inV (.str z) (zs.map V.str) = decide (z ∈ zs)
  | [] => rfl
  | y :: r => by
    have ih := inV_str z r
    unfold inV at ih ⊢
    rw [List.map_cons, List.any_cons, ih]
    have : eqV (.str y) (.str z) = decide (z = y) := by
      show (y == z) = _
      by_cases h : z = y
      · subst h; simp
      · rw [decide_eq_false h]; exact beq_eq_false_iff_ne.mpr (Ne.symm h)
    rw [this]
    by_cases h : z = y <;> simp [h]
theorem inV_int (z : Int) : ∀ zs : List Int, inV (.int z) (zs.map V.int) = decide (z ∈ zs)
  | [] => rfl
  | y :: r => by
    have ih := inV_int z r
    unfold inV at ih ⊢
    rw [List.map_cons, List.any_cons, ih]
    have : eqV (.int y) (.int z) = decide (z = y) := by
      show (y == z) = _
      by_cases h : z = y
      · subst h; simp
      · rw [decide_eq_false h]; exact beq_eq_false_iff_ne.mpr (Ne.symm h)
    rw [this]
    by_cases h : z = y <;> simp [h]
def fIn (neg : Bool) (x : S) (y : S) (Q : S → Prop) : Prop := match x, seqOf y with
  | .d (.str z), some ys => (match strsOf ys with
    | some zs => Q (.d (.bl (if neg then !decide (z ∈ zs) else decide (z ∈ zs))))
    | none => False)
  | .d (.int z), some ys => (match intsOf ys with
    | some zs => Q (.d (.bl (if neg then !decide (z ∈ zs) else decide (z ∈ zs))))
    | none => False)
  | _, _ => False
theorem all_flat_str (zs : List Str) : (zs.map V.str).all flatV = true := by
  rw [List.all_map]; exact List.all_eq_true.mpr fun _ _ => rfl
theorem all_flat_int (zs : List Int) : (zs.map V.int).all flatV = true := by
  rw [List.all_map]; exact List.all_eq_true.mpr fun _ _ => rfl
theorem fIn_ok {K : PySem.W.Frag} {neg : Bool} : OpD K (rIn K neg) (fIn neg) := fun B H x y sx sy QD Q rx ry h p => by
  unfold fIn at h
  split at h
  · rename_i z ys e
    split at h
    · rename_i zs e2
      obtain ⟨a, vs, rfl, r, q⟩ := seqOf_ok ry e
      have ev := strsOf_ok q e2
      subst ev
      rw [Rp.str_inv rx]
      exact ⟨a, _, rfl, r, rfl, all_flat_str zs, by rw [inV_str]; exact p.d (.bl _) h⟩
    · exact h.elim
  · rename_i z ys e
    split at h
    · rename_i zs e2
      obtain ⟨a, vs, rfl, r, q⟩ := seqOf_ok ry e
      have ev := intsOf_ok q e2
      subst ev
      rw [Rp.int_inv rx]
      exact ⟨a, _, rfl, r, rfl, all_flat_int zs, by rw [inV_int]; exact p.d (.bl _) h⟩
    · exact h.elim
  · exact h.elim
/-! ### comparisons, as values and as tests -/
section
variable {X : Cx} {a b : Expr} {Ta Tb T : TDE} {pos : Pos}
theorem pd_eq {k : Nat} (hr : Room k X.A) (ha : PED X a Ta) (hb : PED X b Tb) : PED X (.Compare a [.Eq] [b] pos) (d2 fEq Ta Tb) := pd_cmp (op_eqAll hr.units) fEq_ok ha hb (nomark _)
theorem pt_eq {k : Nat} (hr : Room k X.A) (ha : PED X a Ta) (hb : PED X b Tb) : PTD X (.Compare a [.Eq] [b] pos) (dB (d2 fEq Ta Tb)) := pt_cmpD (op_eqAll hr.units) fEq_ok ha hb (nomark _)
theorem pd_ne (ha : PED X a Ta) (hb : PED X b Tb) : PED X (.Compare a [.NotEq] [b] pos) (d2 fNe Ta Tb) := pd_cmp op_ne fNe_ok ha hb (nomark _)
theorem pt_ne (ha : PED X a Ta) (hb : PED X b Tb) : PTD X (.Compare a [.NotEq] [b] pos) (dB (d2 fNe Ta Tb)) := pt_cmpD op_ne fNe_ok ha hb (nomark _)
theorem pd_lt (ha : PED X a Ta) (hb : PED X b Tb) : PED X (.Compare a [.Lt] [b] pos) (d2 fLt Ta Tb) := pd_cmp op_ltAll fOrd_ok ha hb (nomark _)
theorem pt_lt (ha : PED X a Ta) (hb : PED X b Tb) : PTD X (.Compare a [.Lt] [b] pos) (dB (d2 fLt Ta Tb)) := pt_cmpD op_ltAll fOrd_ok ha hb (nomark _)
theorem pd_le (ha : PED X a Ta) (hb : PED X b Tb) : PED X (.Compare a [.LtE] [b] pos) (d2 fLe Ta Tb) := pd_cmp op_leAll fOrd_ok ha hb (nomark _)
theorem pt_le (ha : PED X a Ta) (hb : PED X b Tb) : PTD X (.Compare a [.LtE] [b] pos) (dB (d2 fLe Ta Tb)) := pt_cmpD op_leAll fOrd_ok ha hb (nomark _)
theorem pd_gt (ha : PED X a Ta) (hb : PED X b Tb) : PED X (.Compare a [.Gt] [b] pos) (d2 fGt Ta Tb) := pd_cmp op_gtAll fOrd_ok ha hb (nomark _)
theorem pt_gt (ha : PED X a Ta) (hb : PED X b Tb) : PTD X (.Compare a [.Gt] [b] pos) (dB (d2 fGt Ta Tb)) := pt_cmpD op_gtAll fOrd_ok ha hb (nomark _)
theorem pd_ge (ha : PED X a Ta) (hb : PED X b Tb) : PED X (.Compare a [.GtE] [b] pos) (d2 fGe Ta Tb) := pd_cmp op_geAll fOrd_ok ha hb (nomark _)
theorem pt_ge (ha : PED X a Ta) (hb : PED X b Tb) : PTD X (.Compare a [.GtE] [b] pos) (dB (d2 fGe Ta Tb)) := pt_cmpD op_geAll fOrd_ok ha hb (nomark _)
theorem pd_in (ha : PED X a Ta) (hb : PED X b Tb) (hm : behindInMarks .In b = false := by rfl) : PED X (.Compare a [.In] [b] pos) (d2 (fIn false) Ta Tb) := pd_cmp op_in_seq fIn_ok ha hb hm
theorem pt_in (ha : PED X a Ta) (hb : PED X b Tb) (hm : behindInMarks .In b = false := by rfl) : PTD X (.Compare a [.In] [b] pos) (dB (d2 (fIn false) Ta Tb)) := pt_cmpD op_in_seq fIn_ok ha hb hm
theorem pd_ni (ha : PED X a Ta) (hb : PED X b Tb) (hm : behindInMarks .NotIn b = false := by rfl) : PED X (.Compare a [.NotIn] [b] pos) (d2 (fIn true) Ta Tb) := pd_cmp op_notIn_seq fIn_ok ha hb hm
theorem pt_ni (ha : PED X a Ta) (hb : PED X b Tb) (hm : behindInMarks .NotIn b = false := by rfl) : PTD X (.Compare a [.NotIn] [b] pos) (dB (d2 (fIn true) Ta Tb)) := pt_cmpD op_notIn_seq fIn_ok ha hb hm
/-- is None -/
def isN : S → Bool
  | .d .non => true
  | _ => false
theorem isN_ok {K : PySem.W.Frag} {B H : Hp} {v : V} {s : S} (h : RV K B H v s) : decide (v = .non) = isN s := by
  cases s with
  | d x => cases h <;> rfl
  | lst xs => obtain ⟨a, vs, rfl, _⟩ := h; rfl
  | own xs => obtain ⟨a, vs, rfl, _⟩ := h; rfl
  | fz xs => obtain ⟨a, vs, rfl, _⟩ := h; rfl
  | src => obtain ⟨a, vs, rfl, _⟩ := h; rfl
@[simp] def dIsN (T : TDE) (ρ : DE) (Q : S → Prop) : Prop := T ρ fun s => Q (.d (.bl (isN s)))
@[simp] def dNotN (T : TDE) (ρ : DE) (Q : S → Prop) : Prop := T ρ fun s => Q (.d (.bl (!isN s)))
theorem pd_isN {j pos'} (ha : PED X a Ta) : PED X (.Compare a [.Is] [.Constant .none j pos'] pos) (dIsN Ta) := pe_imp (pe_cmp (pc_isN ha)) fun σ H Q ⟨B, ρ, QD, k, r, h, p⟩ =>
  ⟨B, ρ, _, k, r, h, fun v H' s e rv q => by dsimp only; rw [isN_ok rv]; exact p.da e (.bl _) q⟩
theorem pd_notN {j pos'} (ha : PED X a Ta) : PED X (.Compare a [.IsNot] [.Constant .none j pos'] pos) (dNotN Ta) := pe_imp (pe_cmp (pc_notN ha)) fun σ H Q ⟨B, ρ, QD, k, r, h, p⟩ =>
  ⟨B, ρ, _, k, r, h, fun v H' s e rv q => by dsimp only; rw [isN_ok rv]; exact p.da e (.bl _) q⟩
@[simp] def dIsNT (T : TDE) (ρ : DE) (Q : Bool → Prop) : Prop := T ρ fun s => Q (isN s)
@[simp] def dNotNT (T : TDE) (ρ : DE) (Q : Bool → Prop) : Prop := T ρ fun s => Q (!isN s)
theorem pt_isN {j pos'} (ha : PED X a Ta) : PTD X (.Compare a [.Is] [.Constant .none j pos'] pos) (dIsNT Ta) := pt_imp (pt_cmp (pc_isN ha)) fun σ H Q ⟨B, ρ, QD, k, r, h, p⟩ =>
  ⟨B, ρ, _, k, r, h, fun v H' s e rv q => ⟨_, rfl, by rw [isN_ok rv]; exact p _ _ e q⟩⟩
theorem pt_notN {j pos'} (ha : PED X a Ta) : PTD X (.Compare a [.IsNot] [.Constant .none j pos'] pos) (dNotNT Ta) := pt_imp (pt_cmp (pc_notN ha)) fun σ H Q ⟨B, ρ, QD, k, r, h, p⟩ =>
  ⟨B, ρ, _, k, r, h, fun v H' s e rv q => ⟨_, rfl, by rw [isN_ok rv]; exact p _ _ e q⟩⟩
/-! ### and, or, not -/
variable {tA tB' : TDT} {rest : List Expr}
@[simp] def dAndT (t u : TDT) (ρ : DE) (Q : Bool → Prop) : Prop := t ρ fun c => if c = true then u ρ Q else Q false
@[simp] def dOrT (t u : TDT) (ρ : DE) (Q : Bool → Prop) : Prop := t ρ fun c => if c = true then Q true else u ρ Q
@[simp] def dNotT (t : TDT) (ρ : DE) (Q : Bool → Prop) : Prop := t ρ fun c => Q (!c)
theorem pwd_and1 (ha : PTD X a tA) : PWD X (.BoolOp .And [a] pos) tA := pw_and1 ha
theorem pwd_or1 (ha : PTD X a tA) : PWD X (.BoolOp .Or [a] pos) tA := pw_or1 ha
theorem pwd_and (ha : PTD X a tA) (hb : PWD X (.BoolOp .And (b :: rest) pos) tB') : PWD X (.BoolOp .And (a :: b :: rest) pos) (dAndT tA tB') := pw_imp (pw_and ha hb) fun σ H Q ⟨B, ρ, QD, k, r, h, p⟩ => by
  refine ⟨B, ρ, _, k, r, h, fun c H' e q => ?_⟩
  cases c with
  | true => exact ⟨B, ρ, QD, k.trans e, r.mono e, q, fun b H2 e2 q2 => p b H2 (e.trans e2) q2⟩
  | false => exact p false H' e q
theorem pwd_or (ha : PTD X a tA) (hb : PWD X (.BoolOp .Or (b :: rest) pos) tB') : PWD X (.BoolOp .Or (a :: b :: rest) pos) (dOrT tA tB') := pw_imp (pw_or ha hb) fun σ H Q ⟨B, ρ, QD, k, r, h, p⟩ => by
  refine ⟨B, ρ, _, k, r, h, fun c H' e q => ?_⟩
  cases c with
  | false => exact ⟨B, ρ, QD, k.trans e, r.mono e, q, fun b H2 e2 q2 => p b H2 (e.trans e2) q2⟩
  | true => exact p true H' e q
theorem ptd_not (ha : PTD X a tA) : PTD X (.UnaryOp .Not a pos) (dNotT tA) := pt_imp (pt_not ha) fun σ H Q ⟨B, ρ, QD, k, r, h, p⟩ => ⟨B, ρ, _, k, r, h, fun c H' e q => p _ _ e q⟩
@[simp] def dAndV (t u : TDE) (ρ : DE) (Q : S → Prop) : Prop := t ρ fun s => match s with
  | .d (.bl c) => if c = true then u ρ Q else Q (.d (.bl false))
  | _ => False
@[simp] def dOrV (t u : TDE) (ρ : DE) (Q : S → Prop) : Prop := t ρ fun s => match s with
  | .d (.bl c) => if c = true then Q (.d (.bl true)) else u ρ Q
  | _ => False
@[simp] def dNotV (t : TDE) (ρ : DE) (Q : S → Prop) : Prop := t ρ fun s => match s with
  | .d (.bl c) => Q (.d (.bl (!c)))
  | _ => False
theorem ped_one {op} (ha : PED X a Ta) : PED X (.BoolOp op [a] pos) Ta := pe_one ha
theorem ped_and (ha : PED X a Ta) (hb : PED X (.BoolOp .And (b :: rest) pos) Tb) : PED X (.BoolOp .And (a :: b :: rest) pos) (dAndV Ta Tb) := pe_imp (pe_and ha hb) fun σ H Q ⟨B, ρ, QD, k, r, h, p⟩ => by
  refine ⟨B, ρ, _, k, r, h, fun v H' s e rv q => ?_⟩
  split at q
  · rename_i c
    refine ⟨c, Rp.bl_inv rv, ?_⟩
    cases c with
    | true => exact ⟨B, ρ, QD, k.trans e, r.mono e, q, p.after e⟩
    | false => exact p.da e (.bl _) q
  · exact q.elim
theorem ped_or (ha : PED X a Ta) (hb : PED X (.BoolOp .Or (b :: rest) pos) Tb) : PED X (.BoolOp .Or (a :: b :: rest) pos) (dOrV Ta Tb) := pe_imp (pe_or ha hb) fun σ H Q ⟨B, ρ, QD, k, r, h, p⟩ => by
  refine ⟨B, ρ, _, k, r, h, fun v H' s e rv q => ?_⟩
  split at q
  · rename_i c
    refine ⟨c, Rp.bl_inv rv, ?_⟩
    cases c with
    | false => exact ⟨B, ρ, QD, k.trans e, r.mono e, q, p.after e⟩
    | true => exact p.da e (.bl _) q
  · exact q.elim
theorem ped_not (ha : PED X a Ta) : PED X (.UnaryOp .Not a pos) (dNotV Ta) := pe_imp (pe_not ha) fun σ H Q ⟨B, ρ, QD, k, r, h, p⟩ => by
  refine ⟨B, ρ, _, k, r, h, fun v H' s e rv q => ?_⟩
  split at q
  · rename_i c
    exact ⟨c, Rp.bl_inv rv, p.da e (.bl _) q⟩
  · exact q.elim
/-- -n -/
@[simp] def dNeg (t : TDE) (ρ : DE) (Q : S → Prop) : Prop := t ρ fun s => match s with
  | .d (.int i) => Q (.d (.int (-i)))
  | _ => False
theorem pd_neg (ha : PED X a Ta) : PED X (.UnaryOp .USub a pos) (dNeg Ta) := pe_imp (pe_un un_neg ha) fun σ H Q ⟨B, ρ, QD, k, r, h, p⟩ => by
  refine ⟨B, ρ, _, k, r, h, fun v H' s e rv q => ?_⟩
  split at q
  · exact ⟨_, Rp.int_inv rv, p.da e (.int _) q⟩
  · exact q.elim
end
/-! ### items, slices -/
def fIx (x : S) (y : S) (Q : S → Prop) : Prop := match x, y with
  | .d (.str z), .d (.int i) => z.length ≤ 1000000 ∧ (match atI z.cps.toList i with
    | some c => Q (.d (.str ⟨#[c]⟩))
    | none => False)
  | x, .d (.int i) => (match seqOf x with
    | some xs => (match atI xs i with
      | some d => Q (.d d)
      | none => False)
    | none => False)
  | _, _ => False
theorem atI_rp {K : PySem.W.Frag} {H : Hp} {vs : List V} {xs : List D} {i : Int} {d : D} (r : RpA K H vs xs) (h : atI xs i = some d) : ∃ v, atI vs i = some v ∧ Rp K H v d := by
  unfold atI at h ⊢
  rw [r.length]
  cases e : ixN xs.length i with
  | none => rw [e] at h; cases h
  | some j =>
    rw [e] at h
    obtain ⟨v, a, b⟩ := r.get (show xs[j]? = some d from h)
    exact ⟨v, a, b⟩
theorem fIx_ok {K : PySem.W.Frag} : OpD K (rIx K) fIx := fun B H x y sx sy QD Q rx ry h p => by
  unfold fIx at h
  split at h
  · obtain ⟨h1, h2⟩ := h
    split at h2
    · rename_i c e
      exact .inr (.inr ⟨_, _, c, Rp.str_inv rx, Rp.int_inv ry, szL h1, e, p.d (.str _) h2⟩)
    · exact h2.elim
  · split at h
    · rename_i xs e
      split at h
      · rename_i d e2
        obtain ⟨a, vs, rfl, r, q⟩ := seqOf_ok rx e
        obtain ⟨v, e3, rv⟩ := atI_rp q e2
        rw [Rp.int_inv ry]
        rcases r with r | r
        · exact .inl ⟨a, vs, _, v, rfl, rfl, r, e3, p.d rv h⟩
        · exact .inr (.inl ⟨a, vs, _, v, rfl, rfl, r, e3, p.d rv h⟩)
      · exact h.elim
    · exact h.elim
  · exact h.elim
abbrev TDO := DE → (Option Int → Prop) → Prop
def liftO (K : PySem.W.Frag) (T : TDO) : TO := fun σ H Q => ∃ B ρ QD, Keep B H ∧ RS K B H σ ρ ∧ T ρ QD ∧ ∀ o H', Keep H H' → QD o → Q o H'
abbrev POD (X : Cx) (e : Option Expr) (T : TDO) : Prop := PO X e (liftO X.K T)
theorem po_imp {X : Cx} {e : Option Expr} {t u : TO} (h : PO X e t) (i : ∀ σ H Q, u σ H Q → t σ H Q) : PO X e u := by
  constructor
  intro pins s σ H Q I q
  exact h.run pins s σ H Q I (i _ _ _ q)
@[simp] def dNoPart (_ρ : DE) (Q : Option Int → Prop) : Prop := Q none
@[simp] def dPart (T : TDE) (ρ : DE) (Q : Option Int → Prop) : Prop := T ρ fun s => match s with
  | .d (.int i) => Q (some i)
  | _ => False
def cutD (xs : List D) (lo hi : Option Int) : List D := (xs.drop (HT.sIx xs.length 0 lo)).take (HT.sIx xs.length xs.length hi - HT.sIx xs.length 0 lo)
def fSl (x : S) (i j : Option Int) (Q : S → Prop) : Prop := match x with
  | .d (.tup xs) => Q (.d (.tup (cutD xs i j)))
  | .d (.str z) => z.length ≤ 1000000 ∧ Q (.d (.str (cutS z i j)))
  | _ => False
@[simp] def dSl (T : TDE) (l h : TDO) (ρ : DE) (Q : S → Prop) : Prop := T ρ fun x => l ρ fun i => h ρ fun j => fSl x i j Q
section
variable {X : Cx} {e a b : Expr} {es : List Expr} {Ta Tb T : TDE} {TA : TDA} {lo hi : Option Expr} {tl th : TDO} {pos p2 : Pos}
theorem pd_ix (ha : PED X a Ta) (hb : PED X b Tb) (hs : PlainIx b := by intro _ _; rfl) : PED X (.Subscript a b pos) (d2 fIx Ta Tb) := pe_imp (pe_ix ix_seq ha hb hs) fun _ _ _ h => d2_ok fIx_ok h
theorem pod_none : POD X none dNoPart := po_imp po_none fun σ H Q ⟨B, ρ, QD, k, r, h, p⟩ => p none H (Keep.refl H) h
theorem pod_some (h : PED X e T) : POD X (some e) (dPart T) := po_imp (po_some h) fun σ H Q ⟨B, ρ, QD, k, r, h, p⟩ => by
  refine ⟨B, ρ, _, k, r, h, fun v H' s e rv q => ?_⟩
  split at q
  · exact ⟨_, Rp.int_inv rv, p _ _ e q⟩
  · exact q.elim
theorem cutD_rp {K : PySem.W.Frag} {H : Hp} {vs : List V} {xs : List D} {i j : Option Int} (r : RpA K H vs xs) : RpA K H (cutV vs i j) (cutD xs i j) := by
  unfold cutV cutD
  rw [r.length]
  exact (r.drop _).take _
theorem pd_slice (he : PED X e T) (hl : POD X lo tl) (hh : POD X hi th) : PED X (.Subscript e (.Slice lo hi none p2) pos) (dSl T tl th) := pe_imp (pe_slice (sl_tupA.or sl_str) he hl hh) fun σ H Q ⟨B, ρ, QD, k, r, h, p⟩ => by
  refine ⟨B, ρ, _, k, r, h, fun v H1 s e1 rv q => ?_⟩
  refine ⟨B, ρ, _, k.trans e1, r.mono e1, q, fun i H2 e2 q => ?_⟩
  refine ⟨B, ρ, _, (k.trans e1).trans e2, (r.mono e1).mono e2, q, fun j H3 e3 q => ?_⟩
  cases s with
  | d x =>
    cases x with
    | tup xs =>
      have rv' : Rp X.K H3 v (.tup xs) := Rp.mono (Rp.mono rv e2) e3
      obtain ⟨a, vs, rfl, ht, ra⟩ := rv'.tup_inv
      refine .inl ⟨a, vs, rfl, ht, fun w => ?_, fun w q' hq => ?_⟩
      · have ec : cutD xs i j = xs := by
          unfold cutD
          rw [ra.length] at w
          rw [w.1, w.2, List.drop_zero, Nat.sub_zero, List.take_length]
        refine p.da ((e1.trans e2).trans e3) (x := .tup (cutD xs i j)) ?_ q
        rw [ec]
        exact rv'
      · exact p.da (((e1.trans e2).trans e3).trans (Keep.new hq)) (x := .tup (cutD xs i j)) (.tup (SqT.of upd_same) ((cutD_rp ra).mono (Keep.new hq))) q
    | str z =>
      have ev : v = .str z := Rp.str_inv rv
      exact .inr ⟨z, ev, szL q.1, p.da ((e1.trans e2).trans e3) (.str _) q.2⟩
    | _ => exact q.elim
  | _ => exact q.elim
/-! ### displays -/
@[simp] def aNil (_ρ : DE) (Q : List S → Prop) : Prop := Q []
@[simp] def aCons (T : TDE) (TA : TDA) (ρ : DE) (Q : List S → Prop) : Prop := T ρ fun x => TA ρ fun xs => Q (x :: xs)
theorem pad_nil : PAD X [] aNil := pa_imp pa_nil fun σ H Q ⟨B, ρ, QD, k, r, h, p⟩ => p [] H [] (Keep.refl H) .nil h
theorem pad_cons (ha : PED X e T) (hr : PAD X es TA) (hs : starEach (e :: es) X.env = (false, eval e X.env) :: starEach es X.env := by rfl) : PAD X (e :: es) (aCons T TA) := pa_imp (pa_cons ha hr hs) fun σ H Q ⟨B, ρ, QD, k, r, h, p⟩ => by
  refine ⟨B, ρ, _, k, r, h, fun v H1 s e1 rv q => ?_⟩
  refine ⟨B, ρ, _, k.trans e1, r.mono e1, q, fun vs H2 ss e2 rvs q => ?_⟩
  exact p _ _ _ (e1.trans e2) (.cons (rv.mono e2) (rvs.base fun a z => e1.free z)) q
@[simp] def dTup (TA : TDA) (ρ : DE) (Q : S → Prop) : Prop := TA ρ fun ss => match datas ss with
  | some ds => ds.length ≤ 1000000 ∧ Q (.d (.tup ds))
  | none => False
@[simp] def dLst (TA : TDA) (ρ : DE) (Q : S → Prop) : Prop := TA ρ fun ss => match datas ss with
  | some ds => ds.length ≤ 1000000 ∧ nsrcD ds ∧ Q (.own ds)
  | none => False
theorem pd_tup {x1} (h : PAD X es TA) : PED X (.Tuple es x1 pos) (dTup TA) := pe_imp (pe_tup h) fun σ H Q ⟨B, ρ, QD, k, r, h, p⟩ => by
  refine ⟨B, ρ, _, k, r, h, fun vs H1 ss e1 rv q => ?_⟩
  split at q
  · rename_i ds e
    have ra := datas_ok rv e
    exact ⟨szL (by rw [ra.length]; exact q.1), fun a ha => p.da (e1.trans (Keep.new ha)) (x := .tup ds) (.tup (SqT.of upd_same) (ra.mono (Keep.new ha))) q.2⟩
  · exact q.elim
theorem pd_lst (h : PAD X es TA) : PED X (.List es pos) (dLst TA) := pe_imp (pe_lst h) fun σ H Q ⟨B, ρ, QD, k, r, h, p⟩ => by
  refine ⟨B, ρ, _, k, r, h, fun vs H1 ss e1 rv q => ?_⟩
  split at q
  · rename_i ds e
    have ra := datas_ok rv e
    exact ⟨szL (by rw [ra.length]; exact q.1), fun a ha => p _ _ _ (e1.trans (Keep.new ha)) ((rv_own ha ra q.2.1).base fun a z => e1.free z) q.2.2⟩
  · exact q.elim
end
end Pk

/-! ## D4 -/
set_option Elab.async false
set_option linter.all false
set_option maxRecDepth 100000
set_option maxHeartbeats 4000000
namespace Pk
open PySem PySem.Spec PyProof.Rows L2
/-! ### calls of built-ins -/
abbrev FC := List S → (S → Prop) → Prop
def CallD (K : PySem.W.Frag) (r : List V → Hp → VK → Prop) (f : FC) : Prop := ∀ B H vs ss QD Q, RVs K B H vs ss → f ss QD → PostE K H QD Q → r vs H Q
@[simp] def dCB (f : FC) (TA : TDA) (ρ : DE) (Q : S → Prop) : Prop := TA ρ fun ss => f ss Q
theorem dCB_ok {K : PySem.W.Frag} {r : List V → Hp → VK → Prop} {f : FC} (o : CallD K r f) {TA : TDA} {σ : L2.St} {H : Hp} {Q : VK} (h : liftE K (dCB f TA) σ H Q) : tCB r (liftA K TA) σ H Q := by
  obtain ⟨B, ρ, QD, k, r0, h, p⟩ := h
  exact ⟨B, ρ, _, k, r0, h, fun vs H1 ss e1 rv q => o H H1 vs ss QD Q rv q (p.after e1)⟩
section
variable {X : Cx} {x : Str} {p pos : Pos} {e : Expr} {es : List Expr} {TA : TDA} {id T : String} {r : List V → Hp → VK → Prop} {f : FC}
theorem pd_callB (hc : CallR X (.builtin id) r) (o : CallD X.K r f) (hm : X.mg x = none) (ha : PAD X (e :: es) TA) (hv : bootBuiltins x = some (.builtin id) := by decide +kernel) (hg : Gl X x := by rfl) (hn : x ≠ "__name__" := by decide +kernel) (hdb : (x == ("__debug__" : Str)) = false := by decide +kernel)
    (he : starEach (e :: es) X.env = (false, eval e X.env) :: starEach es X.env := by rfl) (hpl : (backTo pos (starEach es X.env)).any (·.1) = false := by rfl) : PED X (.Call (.Name x p) (e :: es) [] pos) (dCB f TA) :=
  pe_imp (pe_callB hc hg hm hv ha hn hdb he hpl) fun _ _ _ h => dCB_ok o h
theorem pd_callTy (hc : CallR X (.type T) r) (o : CallD X.K r f) (hm : X.mg x = none) (ha : PAD X (e :: es) TA) (hv : bootBuiltins x = some (.type T) := by decide +kernel) (hg : Gl X x := by rfl) (hn : x ≠ "__name__" := by decide +kernel) (hdb : (x == ("__debug__" : Str)) = false := by decide +kernel)
    (he : starEach (e :: es) X.env = (false, eval e X.env) :: starEach es X.env := by rfl) (hpl : (backTo pos (starEach es X.env)).any (·.1) = false := by rfl) : PED X (.Call (.Name x p) (e :: es) [] pos) (dCB f TA) :=
  pe_imp (pe_callTy hc hg hm hv ha hn hdb he hpl) fun _ _ _ h => dCB_ok o h
end
theorem rvs1 {K : PySem.W.Frag} {B H : Hp} {vs : List V} {s : S} (h : RVs K B H vs [s]) : ∃ v, vs = [v] ∧ RV K B H v s := by
  cases h with
  | cons a t => cases t; exact ⟨_, rfl, a⟩
theorem rvs2 {K : PySem.W.Frag} {B H : Hp} {vs : List V} {s t : S} (h : RVs K B H vs [s, t]) : ∃ v w, vs = [v, w] ∧ RV K B H v s ∧ RV K B H w t := by
  cases h with
  | cons a t =>
    cases t with
    | cons b t => cases t; exact ⟨_, _, rfl, a, b⟩
/-- len -/
def fLen (ss : List S) (Q : S → Prop) : Prop := match ss with
  | [.d (.str z)] => z.length ≤ 1000000 ∧ Q (.d (.int z.length))
  | [s] => (match seqOf s with
    | some xs => Q (.d (.int xs.length))
    | none => False)
  | _ => False
def rLen (K : PySem.W.Frag) : List V → Hp → VK → Prop := fun xs H Q => (∃ p ys, xs = [.ref p] ∧ (SqL K H p ys ∨ SqT K H p ys) ∧ Q (.int ys.length) H) ∨ ∃ z, xs = [.str z] ∧ z.length ≤ sizeLine ∧ Q (.int z.length) H
theorem call_lenAll {X : Cx} : CallR X (.builtin "len") (rLen X.K) := call_len_seq.or call_len_str
theorem fLen_ok {K : PySem.W.Frag} : CallD K (rLen K) fLen := fun B H vs ss QD Q r h p => by
  unfold fLen at h
  split at h
  · obtain ⟨v, rfl, rv⟩ := rvs1 r
    rw [Rp.str_inv rv]
    exact .inr ⟨_, rfl, szL h.1, p.d (.int _) h.2⟩
  · obtain ⟨v, rfl, rv⟩ := rvs1 r
    split at h
    · rename_i xs e
      obtain ⟨a, ws, rfl, q, ra⟩ := seqOf_ok rv e
      exact .inl ⟨a, ws, rfl, q, by rw [ra.length]; exact p.d (.int _) h⟩
    · exact h.elim
  · exact h.elim
/-- all, any -/
def fBools (g : List Bool → Bool) (ss : List S) (Q : S → Prop) : Prop := match ss with
  | [s] => (match (listOf s).bind bools with
    | some bs => Q (.d (.bl (g bs)))
    | none => False)
  | _ => False
theorem fAll_ok {K : PySem.W.Frag} : CallD K (rAll K) (fBools fun bs => bs.all id) := fun B H vs ss QD Q r h p => by
  unfold fBools at h
  split at h
  · obtain ⟨v, rfl, rv⟩ := rvs1 r
    split at h
    · rename_i bs e
      obtain ⟨xs, e1, e2⟩ := Option.bind_eq_some_iff.mp e
      obtain ⟨a, ws, rfl, q, ra⟩ := listOf_ok rv e1
      have ew := bools_ok ra e2
      subst ew
      exact ⟨a, bs, rfl, q, p.d (.bl _) h⟩
    · exact h.elim
  · exact h.elim
theorem fAny_ok {K : PySem.W.Frag} : CallD K (rAny K) (fBools fun bs => bs.any id) := fun B H vs ss QD Q r h p => by
  unfold fBools at h
  split at h
  · obtain ⟨v, rfl, rv⟩ := rvs1 r
    split at h
    · rename_i bs e
      obtain ⟨xs, e1, e2⟩ := Option.bind_eq_some_iff.mp e
      obtain ⟨a, ws, rfl, q, ra⟩ := listOf_ok rv e1
      have ew := bools_ok ra e2
      subst ew
      exact ⟨a, bs, rfl, q, p.d (.bl _) h⟩
    · exact h.elim
  · exact h.elim
/-- tuple(xs) -/
def fTuple (ss : List S) (Q : S → Prop) : Prop := match ss with
  | [s] => (match seqOf s with
    | some xs => Q (.d (.tup xs))
    | none => False)
  | _ => False
def rTuple (K : PySem.W.Frag) : List V → Hp → VK → Prop := fun xs H Q => ∃ p ys, xs = [.ref p] ∧ ((SqL K H p ys ∧ ∀ l, H l = none → Q (.ref l) (upd H l (.tup ys))) ∨ (SqT K H p ys ∧ Q (.ref p) H))
theorem fTuple_ok {K : PySem.W.Frag} : CallD K (rTuple K) fTuple := fun B H vs ss QD Q r h p => by
  unfold fTuple at h
  split at h
  · obtain ⟨v, rfl, rv⟩ := rvs1 r
    split at h
    · rename_i xs e
      obtain ⟨a, ws, rfl, q, ra⟩ := seqOf_ok rv e
      refine ⟨a, ws, rfl, ?_⟩
      rcases q with q | q
      · exact .inl ⟨q, fun l hl => p.da (Keep.new hl) (x := .tup xs) (.tup (SqT.of upd_same) (ra.mono (Keep.new hl))) h⟩
      · exact .inr ⟨q, p.d (x := .tup xs) (.tup q ra) h⟩
    · exact h.elim
  · exact h.elim
/-- list(xs) -/
def fList (ss : List S) (Q : S → Prop) : Prop := match ss with
  | [s] => (match seqOf s with
    | some xs => nsrcD xs ∧ Q (.own xs)
    | none => False)
  | _ => False
def rList (K : PySem.W.Frag) : List V → Hp → VK → Prop := fun xs H Q => ∃ p ys, xs = [.ref p] ∧ (SqL K H p ys ∨ SqT K H p ys) ∧ ∀ l, H l = none → Q (.ref l) (upd H l (.lst ys))
theorem fList_ok {K : PySem.W.Frag} : CallD K (rList K) fList := fun B H vs ss QD Q r h p => by
  unfold fList at h
  split at h
  · obtain ⟨v, rfl, rv⟩ := rvs1 r
    split at h
    · rename_i xs e
      obtain ⟨a, ws, rfl, q, ra⟩ := seqOf_ok rv e
      exact ⟨a, ws, rfl, q, fun l hl => p _ _ _ (Keep.new hl) (rv_own hl ra h.1) h.2⟩
    · exact h.elim
  · exact h.elim
/-- int(x) -/
def fInt (ss : List S) (Q : S → Prop) : Prop := match ss with
  | [.d (.int i)] => Q (.d (.int i))
  | [.d (.bl b)] => Q (.d (.int (if b then 1 else 0)))
  | _ => False
theorem fInt_ok {K : PySem.W.Frag} : CallD K (fun xs H Q => (∃ i, xs = [.int i] ∧ Q (.int i) H) ∨ ∃ k, xs = [.bl k] ∧ Q (.int (if k then 1 else 0)) H) fInt := fun B H vs ss QD Q r h p => by
  unfold fInt at h
  split at h
  · obtain ⟨v, rfl, rv⟩ := rvs1 r
    rw [Rp.int_inv rv]
    exact .inl ⟨_, rfl, p.d (.int _) h⟩
  · obtain ⟨v, rfl, rv⟩ := rvs1 r
    rw [Rp.bl_inv rv]
    exact .inr ⟨_, rfl, p.d (.int _) h⟩
  · exact h.elim
/-- min, max of two ints -/
def f2I (g : Int → Int → Int) (ss : List S) (Q : S → Prop) : Prop := match ss with
  | [.d (.int i), .d (.int j)] => Q (.d (.int (g i j)))
  | _ => False
theorem f2I_ok {K : PySem.W.Frag} {g : Int → Int → Int} : CallD K (fun xs H Q => ∃ i j, xs = [.int i, .int j] ∧ Q (.int (g i j)) H) (f2I g) := fun B H vs ss QD Q r h p => by
  unfold f2I at h
  split at h
  · obtain ⟨v, w, rfl, rv, rw'⟩ := rvs2 r
    rw [Rp.int_inv rv, Rp.int_inv rw']
    exact ⟨_, _, rfl, p.d (.int _) h⟩
  · exact h.elim
def fOrd1 (ss : List S) (Q : S → Prop) : Prop := match ss with
  | [.d (.str z)] => z.length = 1 ∧ Q (.d (.int (z.cps.getD 0 0 : Nat)))
  | _ => False
theorem fOrd1_ok {K : PySem.W.Frag} : CallD K (fun xs H Q => ∃ x, xs = [.str x] ∧ x.length = 1 ∧ Q (.int (x.cps.getD 0 0 : Nat)) H) fOrd1 := fun B H vs ss QD Q r h p => by
  unfold fOrd1 at h
  split at h
  · obtain ⟨v, rfl, rv⟩ := rvs1 r
    rw [Rp.str_inv rv]
    exact ⟨_, rfl, h.1, p.d (.int _) h.2⟩
  · exact h.elim
/-- isinstance(x, T) -/
@[simp] def tyD : D → String
  | .non => "NoneType"
  | .bl _ => "bool"
  | .int _ => "int"
  | .str _ => "str"
  | .tup _ => "tuple"
@[simp] def isiD (n : String) (x : D) : Option Bool := kitB (tyD x) n
@[simp] def dIsi (n : String) (T : TDE) (ρ : DE) (Q : S → Prop) : Prop := T ρ fun s => match s with
  | .d x => (match isiD n x with
    | some b => Q (.d (.bl b))
    | none => False)
  | _ => False
theorem tyx_of {K : PySem.W.Frag} {H : Hp} {v : V} {d : D} (h : Rp K H v d) : TyX K H v (.type (tyD d)) := by
  cases h with
  | non => exact .base .non
  | bl b => exact .base (.bl b)
  | int i => exact .base (.int i)
  | str s => exact .base (.str s)
  | tup h r =>
    rcases h with (h | ⟨o, h⟩) | ⟨o, its, n, hk, hc, _⟩
    · exact .base (.tup h)
    · exact .fTuple h
    · exact .kTuple hk hc
section
variable {X : Cx} {x y : Str} {p pos p2 : Pos} {e : Expr} {es : List Expr} {T : TDE} {TA : TDA} {n : String}
theorem pd_isi (hm : X.mg "isinstance" = none) (hm2 : X.mg y = none) (ha : PED X e T) (hv2 : bootBuiltins y = some (.type n) := by decide +kernel) (hg2 : Gl X y := by rfl) (hg : Gl X "isinstance" := by rfl) (hn2 : y ≠ "__name__" := by decide +kernel) (hd2 : (y == ("__debug__" : Str)) = false := by decide +kernel)
    (he : starEach [e, .Name y p2] X.env = (false, eval e X.env) :: starEach [.Name y p2] X.env := by rfl) (he2 : starEach [.Name y p2] X.env = (false, eval (.Name y p2) X.env) :: starEach [] X.env := by rfl) (hpl : (backTo pos (starEach [.Name y p2] X.env)).any (·.1) = false := by rfl) :
    PED X (.Call (.Name "isinstance" p) [e, .Name y p2] [] pos) (dIsi n T) :=
  pe_imp (pe_callB call_isi hg hm (by decide +kernel) (pa_cons ha (pa_cons (pe_bltn (v := .ty n) hg2 hm2 hv2 rfl hn2 hd2) pa_nil he2) he) (by decide) (by decide) he hpl) fun σ H Q ⟨B, ρ, QD, k, r, h, p⟩ => by
    refine ⟨B, ρ, _, k, r, h, fun v H1 s e1 rv q => ?_⟩
    cases s with
    | d x =>
      have q' : (match isiD n x with | some b => QD (.d (.bl b)) | none => False) := q
      split at q'
      · rename_i b eb
        exact ⟨v, .ty n, _, _, b, rfl, .ty n, tyx_of rv, kit_ty eb, p.da e1 (.bl _) q'⟩
      · exact q'.elim
    | _ => exact q.elim
/-! ### calls of the text's own defs -/
/-- a def's promise by data -/
abbrev SD := List S → (S → Prop) → Prop
def spD (K : PySem.W.Frag) (sd : SD) : Sp := fun vs H Q _ => ∃ ss QD, RVs K H H vs ss ∧ sd ss QD ∧ PostE K H QD Q
structure DefOk (P : Program) (w : World) (K : PySem.W.Frag) (mg : Str → Option Value) (base : Heap) (x : Str) (k : Nat) (ps : List Str) (sd : SD) : Prop where
  ex : ∃ f fd, mg x = some (.ref f) ∧ PySem.W.keepIn K (.ref f) = true ∧ Binds K fd ps [] ∧ FnOk P w K mg base CX0 k f fd ps (spD K sd)
theorem DefOk.mono {P : Program} {w : World} {K : PySem.W.Frag} {mg : Str → Option Value} {base : Heap} {x : Str} {k j : Nat} {ps : List Str} {sd : SD} (h : DefOk P w K mg base x k ps sd) (l : k ≤ j) : DefOk P w K mg base x j ps sd := by
  obtain ⟨f, fd, a, b, c, d⟩ := h.ex
  exact ⟨f, fd, a, b, c, d.mono l⟩
@[simp] def dCall (sd : SD) (TA : TDA) (ρ : DE) (Q : S → Prop) : Prop := TA ρ fun ss => sd (ss.map view) Q
theorem pd_call {k : Nat} {ps : List Str} {sd : SD} (G : DefOk X.prog X.w X.K X.mg X.base x k ps sd) (hr : Room k X.A) (ha : PAD X (e :: es) TA) (hg : Gl X x := by rfl) (hdb : (x == ("__debug__" : Str)) = false := by decide +kernel)
    (he : starEach (e :: es) X.env = (false, eval e X.env) :: starEach es X.env := by rfl) (hpl : (backTo pos (starEach es X.env)).any (·.1) = false := by rfl) : PED X (.Call (.Name x p) (e :: es) [] pos) (dCall sd TA) := by
  obtain ⟨f, fd, a, b, c, d⟩ := G.ex
  refine pe_imp (pe_call d hr hg a b c .nil pass0 ha hdb he hpl) fun σ H Q ⟨B, ρ, QD, k, r, h, p⟩ => ?_
  refine ⟨B, ρ, _, k, r, h, fun vs H1 ss e1 rv q => ?_⟩
  show spD X.K sd (vs ++ []) H1 Q E0
  rw [List.append_nil]
  exact ⟨_, QD, rv.view, q, p.after e1⟩
/-- sep.join(xs) -/
@[simp] def dJoin (T U : TDE) (ρ : DE) (Q : S → Prop) : Prop := T ρ fun a => match a with
  | .d (.str z) => U ρ fun b => (match (seqOf b).bind strsOf with
    | some ys => (ys.map (·.length)).sum + ys.length * z.length ≤ 1000000 ∧ Q (.d (.str (Txt.join z ys)))
    | none => False)
  | _ => False
theorem pd_join {o : Expr} {apos : Pos} {U : TDE} (ho : PED X o T) (ha : PED X e U) (hs : starEach [e] X.env = [(false, eval e X.env)] := by rfl) (hbase : attributeBase o "join" X.env (eval o X.env) = eval o X.env := by rfl) (hline : (apos.endLine == pos.line) = true := by rfl) :
    PED X (.Call (.Attribute o "join" apos) [e] [] pos) (dJoin T U) := pe_imp (pe_join ho ha hs hbase hline) fun σ H Q ⟨B, ρ, QD, k, r, h, p⟩ => by
  refine ⟨B, ρ, _ , k, r, h, fun v H1 s e1 rv q => ?_⟩
  cases s with
  | d x =>
    cases x with
    | str z =>
      refine ⟨⟨z, Rp.str_inv rv⟩, B, ρ, _, k.trans e1, r.mono e1, q, fun w H2 t e2 rw' q => ?_⟩
      split at q
      · rename_i ys e6
        obtain ⟨xs, e7, e8⟩ := Option.bind_eq_some_iff.mp e6
        obtain ⟨a, ws, rfl, qq, ra⟩ := seqOf_ok rw' e7
        have ew := strsOf_ok ra e8
        subst ew
        exact ⟨z, a, ys, Rp.str_inv rv, rfl, qq, by have := q.1; omega, p.da (e1.trans e2) (.str _) q.2⟩
      · exact q.elim
    | _ => exact q.elim
  | _ => exact q.elim
end
end Pk

/-! ## D5 -/
set_option Elab.async false
set_option linter.all false
set_option maxRecDepth 100000
set_option maxHeartbeats 4000000
namespace Pk
open PySem PySem.Spec PyProof.Rows L2
/-! ### what is walked -/
structure WalkD (K : PySem.W.Frag) (J : It) (B : Hp) (xs : List D) : Prop where
  go : ∀ i H, Keep B H → i < xs.length → J.go i H
  yld : ∀ i H x H', Keep B H → J.yld i H x H' → ∀ d, xs[i]? = some d → H' = H ∧ Rp K H x d
  stop : ∀ H, Keep B H → J.stop xs.length H
abbrev TDI := DE → (List D → Prop) → Prop
def liftI (K : PySem.W.Frag) (T : TDI) : TI := fun σ H R => ∃ B ρ QD, Keep B H ∧ RS K B H σ ρ ∧ T ρ QD ∧ ∀ J H' xs, Keep H H' → WalkD K J H' xs → QD xs → R J H'
abbrev PID (X : Cx) (tg iter : Expr) (T : TDI) : Prop := PI X tg iter (liftI X.K T)
theorem pi_imp {X : Cx} {tg e : Expr} {t u : TI} (h : PI X tg e t) (i : ∀ σ H Q, u σ H Q → t σ H Q) : PI X tg e u := by
  constructor
  intro pins s σ H Q I q
  exact h.run pins s σ H Q I (i _ _ _ q)
theorem listOf_keep {K : PySem.W.Frag} {B H : Hp} {v : V} {s : S} {xs : List D} (h : RV K B H v s) (e : listOf s = some xs) : ∃ a vs, v = .ref a ∧ (∀ H', Keep H H' → SqL K H' a vs) ∧ RpA K H vs xs := by
  cases s with
  | d x => cases e
  | src => cases e
  | lst ys => cases e; obtain ⟨a, vs, rfl, r, z⟩ := h; exact ⟨a, vs, rfl, fun H' k => (k.rl r).sql, z⟩
  | own ys => cases e; obtain ⟨a, vs, rfl, _, r, z⟩ := h; exact ⟨a, vs, rfl, fun H' k => (k.rl r).sql, z⟩
  | fz ys => cases e; obtain ⟨a, vs, rfl, r, z⟩ := h; exact ⟨a, vs, rfl, fun H' k => (k.rz r).sql, z⟩
theorem walk_list {K : PySem.W.Frag} {B : Hp} {a : Addr} {vs : List V} {xs : List D} (h : ∀ H', Keep B H' → SqL K H' a vs) (r : RpA K B vs xs) : WalkD K (Itl K a) B xs where
  go := fun i H k hi => ⟨vs, vs[i]'(by rw [r.length]; exact hi), h H k, by simp⟩
  yld := fun i H x H' k y d e => by
    obtain ⟨e1, e2⟩ := y
    obtain ⟨v, a1, a2⟩ := r.get e
    have := e2 vs (h H k)
    rw [a1] at this
    cases this
    exact ⟨e1, a2.mono k⟩
  stop := fun H k => ⟨vs, h H k, by rw [r.length]; exact Nat.le_refl _⟩
theorem walk_tup {K : PySem.W.Frag} {B : Hp} {a : Addr} {vs : List V} {xs : List D} (h : SqT K B a vs) (r : RpA K B vs xs) : WalkD K (Itt K a) B xs where
  go := fun i H k hi => ⟨vs, vs[i]'(by rw [r.length]; exact hi), k.sqt h, by simp⟩
  yld := fun i H x H' k y d e => by
    obtain ⟨e1, e2⟩ := y
    obtain ⟨v, a1, a2⟩ := r.get e
    have := e2 vs (k.sqt h)
    rw [a1] at this
    cases this
    exact ⟨e1, a2.mono k⟩
  stop := fun H k => ⟨vs, k.sqt h, by rw [r.length]; exact Nat.le_refl _⟩
def rngD (lo : Int) (n : Nat) : List D := (List.range n).map fun (i : Nat) => D.int (lo + i)
theorem walk_range {K : PySem.W.Frag} {B : Hp} {lo : Int} {n : Nat} : WalkD K (Itr lo n) B (rngD lo n) where
  go := fun i H k hi => by
    unfold rngD at hi
    rw [List.length_map, List.length_range] at hi
    exact hi
  yld := fun i H x H' k y d e => by
    obtain ⟨e1, e2⟩ := y
    subst e2
    unfold rngD at e
    rw [List.getElem?_map] at e
    obtain ⟨j, ej, rfl⟩ := Option.map_eq_some_iff.mp e
    obtain ⟨hl, ej⟩ := List.getElem?_eq_some_iff.mp ej
    rw [List.getElem_range] at ej
    subst ej
    exact ⟨e1, .int _⟩
  stop := fun H k => by
    unfold rngD
    rw [List.length_map, List.length_range]
    exact Nat.le_refl _
def signsD (z : Str) : List D := z.cps.toList.map fun c => D.str ⟨#[c]⟩
theorem walk_str {K : PySem.W.Frag} {B : Hp} {z : Str} : WalkD K (Its z) B (signsD z) where
  go := fun i H k hi => by
    unfold signsD at hi
    rw [List.length_map, Array.length_toList] at hi
    exact hi
  yld := fun i H x H' k y d e => by
    obtain ⟨e1, c, e2, rfl⟩ := y
    unfold signsD at e
    rw [List.getElem?_map, Array.getElem?_toList, e2] at e
    cases e
    exact ⟨e1, .str _⟩
  stop := fun H k => by
    unfold signsD
    rw [List.length_map, Array.length_toList]
    exact Nat.le_refl _
@[simp] def iTupD (T : TDE) (ρ : DE) (Q : List D → Prop) : Prop := T ρ fun s => match s with
  | .d (.tup xs) => Q xs
  | _ => False
@[simp] def iListD (T : TDE) (ρ : DE) (Q : List D → Prop) : Prop := T ρ fun s => match listOf s with
  | some xs => Q xs
  | none => False
@[simp] def iRng1D (TA : TDA) (ρ : DE) (Q : List D → Prop) : Prop := TA ρ fun ss => match ss with
  | [.d (.int j)] => (-(2 ^ 62) ≤ j ∧ j < 2 ^ 62) ∧ Q (rngD 0 j.toNat)
  | _ => False
@[simp] def iRng2D (TA : TDA) (ρ : DE) (Q : List D → Prop) : Prop := TA ρ fun ss => match ss with
  | [.d (.int i), .d (.int j)] => (-(2 ^ 62) ≤ i ∧ i < 2 ^ 62 ∧ -(2 ^ 62) ≤ j ∧ j < 2 ^ 62) ∧ Q (rngD i (j - i).toNat)
  | _ => False
@[simp] def iStrD (T : TDE) (ρ : DE) (Q : List D → Prop) : Prop := T ρ fun s => match s with
  | .d (.str z) => Q (signsD z)
  | _ => False
section
variable {X : Cx} {tg e a b : Expr} {T : TDE} {TA : TDA} {p pos : Pos}
theorem pid_tup (h : PED X e T) : PID X tg e (iTupD T) := pi_imp (pi_tup h) fun σ H R ⟨B, ρ, QD, k, r, h, p⟩ => by
  refine ⟨B, ρ, _, k, r, h, fun v H1 s e1 rv q => ?_⟩
  split at q
  · rename_i xs
    obtain ⟨a, vs, rfl, ht, ra⟩ := Rp.tup_inv rv
    exact ⟨a, rfl, ⟨vs, ht⟩, p _ H1 xs e1 (walk_tup ht ra) q⟩
  · exact q.elim
theorem pid_list (h : PED X e T) : PID X tg e (iListD T) := pi_imp (pi_list h) fun σ H R ⟨B, ρ, QD, k, r, h, p⟩ => by
  refine ⟨B, ρ, _, k, r, h, fun v H1 s e1 rv q => ?_⟩
  split at q
  · rename_i xs es
    obtain ⟨a, vs, rfl, ht, ra⟩ := listOf_keep rv es
    exact ⟨a, rfl, ⟨vs, ht H1 (Keep.refl H1)⟩, p _ H1 xs e1 (walk_list ht ra) q⟩
  · exact q.elim
theorem pid_range1 (hm : X.mg "range" = none) (ha : PAD X [a] TA) (hg : Gl X "range" := by rfl) (hs : starEach [a] X.env = [(false, eval a X.env)] := by rfl) : PID X tg (.Call (.Name "range" p) [a] [] pos) (iRng1D TA) := pi_imp (pi_range1 hg hm ha hs) fun σ H R ⟨B, ρ, QD, k, r, h, p⟩ => by
  refine ⟨B, ρ, _, k, r, h, fun vs H1 ss e1 rv q => ?_⟩
  split at q
  · obtain ⟨v, rfl, rv1⟩ := rvs1 rv
    exact ⟨_, by rw [Rp.int_inv rv1], q.1.1, q.1.2, p _ H1 _ e1 walk_range q.2⟩
  · exact q.elim
theorem pid_range2 (hm : X.mg "range" = none) (ha : PAD X [a, b] TA) (hg : Gl X "range" := by rfl) (hs : starEach [a, b] X.env = [(false, eval a X.env), (false, eval b X.env)] := by rfl) (hs2 : starEach [b] X.env = [(false, eval b X.env)] := by rfl) :
    PID X tg (.Call (.Name "range" p) [a, b] [] pos) (iRng2D TA) := pi_imp (pi_range2 hg hm ha hs hs2) fun σ H R ⟨B, ρ, QD, k, r, h, p⟩ => by
  refine ⟨B, ρ, _, k, r, h, fun vs H1 ss e1 rv q => ?_⟩
  split at q
  · obtain ⟨v, w, rfl, rv1, rv2⟩ := rvs2 rv
    exact ⟨_, _, by rw [Rp.int_inv rv1, Rp.int_inv rv2], q.1, p _ H1 _ e1 walk_range q.2⟩
  · exact q.elim
theorem pid_str (h : PED X e T) : PID X tg e (iStrD T) := pi_imp (pi_str h) fun σ H R ⟨B, ρ, QD, k, r, h, p⟩ => by
  refine ⟨B, ρ, _, k, r, h, fun v H1 s e1 rv q => ?_⟩
  split at q
  · exact ⟨_, Rp.str_inv rv, p _ H1 _ e1 walk_str q⟩
  · exact q.elim
end
/-! ### comprehensions -/
@[simp] def lcD (i : Nat) (Tt : TDT) (Te : TDE) (ρ : DE) : List D → List D → (List D → Prop) → Prop
  | [], acc, Q => Q acc
  | x :: r, acc, Q => Tt (ρ.set i (some (.d x))) fun b => if b = true then Te (ρ.set i (some (.d x))) fun s => (match s with
    | .d y => noInt y ∧ acc.length < 1000000 ∧ lcD i Tt Te ρ r (acc ++ [y]) Q
    | _ => False) else lcD i Tt Te ρ r acc Q
@[simp] def dLc (i : Nat) (Ti : TDI) (Tt : TDT) (Te : TDE) (ρ : DE) (Q : S → Prop) : Prop := Ti ρ fun xs => lcD i Tt Te ρ xs [] fun ys => Q (.own ys)
@[simp] def dYes (_ρ : DE) (Q : Bool → Prop) : Prop := Q true
theorem Keep.updL {K : PySem.W.Frag} {H : Hp} {a : Addr} {vs : List V} {o : HO} (h : H a = some (.lst vs)) : ∀ b ws, SqT K H b ws → SqT K (upd H a o) b ws := fun b ws z => by
  rcases z with (z | ⟨ob, z⟩) | z
  · exact .inl (.inl (by rw [upd_ne (ne_of z h (by intro q; cases q))]; exact z))
  · exact .inl (.inr ⟨ob, by rw [upd_ne (ne_of z h (by intro q; cases q))]; exact z⟩)
  · exact .inr z
theorem lc_ok {K : PySem.W.Frag} {i : Nat} {Ti : TDI} {Tt : TDT} {Te : TDE} {σ : L2.St} {H : Hp} {Q : VK} (h : liftE K (dLc i Ti Tt Te) σ H Q) : tLc (liftI K Ti) (gName i) (liftT K Tt) (liftE K Te) [i] σ H Q := by
  obtain ⟨B, ρ, QD, k, r, h, p⟩ := h
  refine ⟨B, ρ, _, k, r, h, fun J H1 xs e1 wk q Dl hD => ?_⟩
  refine ⟨fun n m H' => m = xs.length - n ∧ n ≤ xs.length ∧ Keep H1 H' ∧ ∃ acc vacc, H' Dl = some (.lst vacc) ∧ nsrc vacc ∧ RpA K H' vacc acc ∧ lcD i Tt Te ρ (xs.drop n) acc fun ys => QD (.own ys),
    ⟨xs.length, by simp, Nat.zero_le _, Keep.new hD, [], [], upd_same, fun _ _ _ z => (nomatch z), .nil, q⟩, ?_⟩
  rintro n m H' ⟨rfl, hn, kk, acc, vacc, hDl, hns, hra, hl⟩
  by_cases hlt : n < xs.length
  · refine .inr ⟨wk.go n H' kk hlt, fun H2 => n + 1 ≤ xs.length ∧ Keep H1 H2 ∧ ∃ acc vacc, H2 Dl = some (.lst vacc) ∧ nsrc vacc ∧ RpA K H2 vacc acc ∧ lcD i Tt Te ρ (xs.drop (n + 1)) acc fun ys => QD (.own ys), fun H2 z => ⟨xs.length - (n + 1), by omega, rfl, z⟩, fun x H2 y => ?_⟩
    have hd : xs[n]? = some xs[n] := by simp [hlt]
    obtain ⟨rfl, rx⟩ := wk.yld n H' x H2 kk y _ hd
    rw [List.drop_eq_getElem_cons hlt] at hl
    have kB : Keep B H2 := (k.trans e1).trans kk
    have r2 : RS K B H2 σ ρ := (r.mono e1).mono kk
    have rs : RS K B H2 ((wipe σ [i]).set i (some x)) (ρ.set i (some (.d xs[n]))) := by
      have e : (wipe σ [i]).set i (some x) = σ.set i (some x) := by
        show (σ.set i none).set i (some x) = _
        rw [List.set_set]
      rw [e]
      exact r2.set (Keep.refl H2) r2 kB trivial rx
    refine ⟨by show (((σ.set i none).set i (some x)).set i none) = σ.set i none; rw [List.set_set, List.set_set], ?_⟩
    refine ⟨B, _, _, kB, rs, hl, fun b H3 e3 hb => ?_⟩
    cases b with
    | false =>
      rw [if_neg Bool.false_ne_true] at hb ⊢
      exact ⟨hlt, kk.trans e3, acc, vacc, e3.at hDl (nsrc_not hns), hns, hra.mono e3, hb⟩
    | true =>
      rw [if_pos rfl] at hb ⊢
      refine ⟨B, _, _, kB.trans e3, rs.mono e3, hb, fun v H4 s e4 rv hs => ?_⟩
      cases s with
      | d y =>
        obtain ⟨n1, n2, n3⟩ := hs
        have hD4 : H4 Dl = some (.lst vacc) := (e3.trans e4).at hDl (nsrc_not hns)
        have ra4 : RpA K H4 (vacc ++ [v]) (acc ++ [y]) := (hra.mono (e3.trans e4)).append (.cons rv .nil)
        refine ⟨vacc, hD4, szLt (by rw [hra.length]; exact n2), hlt, ((kk.trans e3).trans e4).mut hD, acc ++ [y], vacc ++ [v], upd_same, nsrcD_ok ra4 (nsrcD_snoc n1), ra4.to (Keep.updL hD4), n3⟩
      | _ => exact hs.elim
  · have e : n = xs.length := by omega
    subst e
    rw [List.drop_length] at hl
    exact .inl ⟨wk.stop H' kk, p _ H' (.own acc) (e1.trans kk) ⟨Dl, vacc, rfl, e1.free hD, ⟨hDl, hns⟩, hra⟩ hl⟩
section
variable {X : Cx} {elt tg iter : Expr} {ifs : List Expr} {scope : Scope} {pos spos : Pos} {Ti : TDI} {Tt : TDT} {Te : TDE}
theorem ptsd_nil : PTs X [] (liftT X.K dYes) := ⟨fun pins s σ H Q I ⟨B, ρ, QD, k, r, h, p⟩ => pts_nil.run pins s σ H Q I (p true H (Keep.refl H) h)⟩
theorem ptsd_one {c : Expr} (h : PTD X c Tt) : PTs X [c] (liftT X.K Tt) := pts_one h
theorem pd_lc (i : Nat) {x : Str} (hN : X.N.Nodup) (hi : PID X tg iter Ti) (ok : BlkOk X.N X.env.scope scope [(x, i)])
    (hg : ∀ (s : Shared) (H : Hp) (C : Addr) (cl : List (Str × Addr)) (fp : List Addr), PG (X.blk s H scope (compEnvC scope cl C X.env) fp) tg (gName i))
    (ht : ∀ (s : Shared) (H : Hp) (C : Addr) (cl : List (Str × Addr)) (fp : List Addr), PTs (X.blk s H scope (compEnvC scope cl C X.env) fp) ifs (liftT X.K Tt))
    (he : ∀ (s : Shared) (H : Hp) (C : Addr) (cl : List (Str × Addr)) (fp : List Addr), PED (X.blk s H scope (compEnvC scope cl C X.env) fp) elt Te) (hc : X.calm = true := by rfl) (hs : ∀ x, foldedSetIterable iter X.env x = pure x := by intro _; rfl) :
    PED X (.ListComp elt [⟨tg, iter, ifs, 0⟩] scope pos) (dLc i Ti Tt Te) := pe_imp (pe_lc (own := [(x, i)]) hc hN hi ok hg ht he hs) fun _ _ _ h => lc_ok h
end
end Pk

/-! ## D6 -/
set_option Elab.async false
set_option linter.all false
set_option maxRecDepth 100000
set_option maxHeartbeats 4000000
namespace Pk
open PySem PySem.Spec PyProof.Rows L2
/-! ### statements -/
@[simp] def dNext (DD : EndsD) (ρ : DE) : Prop := DD.nx ρ
@[simp] def dSeq (t u : TDS) (DD : EndsD) (ρ : DE) : Prop := t { DD with nx := u DD } ρ
@[simp] def dIf (c : TDT) (t u : TDS) (DD : EndsD) (ρ : DE) : Prop := c ρ fun b => if b = true then t DD ρ else u DD ρ
@[simp] def dRet (T : TDE) (DD : EndsD) (ρ : DE) : Prop := T ρ DD.rt
@[simp] def dSet (i : Nat) (T : TDE) (DD : EndsD) (ρ : DE) : Prop := T ρ fun s => stor s ∧ DD.nx (ρ.set i (some s))
@[simp] def dNever (_DD : EndsD) (_ρ : DE) : Prop := False
section
variable {X : Cx} {st : Stmt} {rest : List Stmt} {t u : TDS} {e : Expr} {T : TDE} {pos : Pos}
theorem psd_nil : PSsD X [] dNext := pss_imp pss_nil fun D σ H ⟨B, ρ, DD, k, r, h, p⟩ => p.nx σ H ρ k r h
theorem psd_cons (h1 : PSD X st t) (h2 : PSsD X rest u) : PSsD X (st :: rest) (dSeq t u) := pss_imp (pss_cons h1 h2) fun D σ H ⟨B, ρ, DD, k, r, h, p⟩ =>
  ⟨B, ρ, { DD with nx := u DD }, k, r, h, ⟨fun σ H ρ k r h => ⟨B, ρ, DD, k, r, h, p⟩, p.rt, p.bk, p.ct⟩⟩
theorem psd_one (h1 : PSD X st t) : PSsD X [st] t := pss_one h1
theorem psd_if {c : Expr} {a b : List Stmt} {tc : TDT} (hc : PTD X c tc) (ha : PSsD X a t) (hb : PSsD X b u) : PSD X (.If c a b pos) (dIf tc t u) := ps_imp (ps_if hc ha hb) fun D σ H ⟨B, ρ, DD, k, r, h, p⟩ =>
  ⟨B, ρ, _, k, r, h, fun b H1 e1 q => by
    cases b with
    | true => exact ⟨B, ρ, DD, k.trans e1, r.mono e1, q, p⟩
    | false => exact ⟨B, ρ, DD, k.trans e1, r.mono e1, q, p⟩⟩
theorem psd_ret (he : PED X e T) : PSD X (.Return (some e) pos) (dRet T) := ps_imp (ps_ret he) fun D σ H ⟨B, ρ, DD, k, r, h, p⟩ =>
  ⟨B, ρ, _, k, r, h, fun v H1 s e1 rv q => p.rt v H1 s (k.trans e1) (rv.base fun a z => k.free z) q⟩
theorem psd_never : PSD X st dNever := ps_imp ps_never fun D σ H ⟨B, ρ, DD, k, r, h, p⟩ => h
theorem pssd_never {sts : List Stmt} : PSsD X sts dNever := pss_imp pss_never fun D σ H ⟨B, ρ, DD, k, r, h, p⟩ => h
theorem set_ok {K : PySem.W.Frag} {i : Nat} {σ : L2.St} {H : Hp} {D : Ends} (h : liftS K (dSet i T) D σ H) : liftE K T σ H fun x H1 => gName i x σ H1 D.nx := by
  obtain ⟨B, ρ, DD, k, r, h, p⟩ := h
  exact ⟨B, ρ, _, k, r, h, fun v H1 s e1 rv q => p.nx _ H1 _ (k.trans e1) ((r.mono e1).set e1 r k q.1 rv) q.2⟩
theorem psd_set (i : Nat) {x : Str} {pos' : Pos} (hN : X.N.Nodup) (he : PED X e T) (hi : X.N[i]? = some x := by rfl) (hx : Loc X.env.scope x := by first | exact .inl rfl | exact .inr rfl) (hs : swapsWith e (some (.Name x pos')) pos.line X.env = pure false := by rfl)
    (hf : X.fn x = true ∨ X.env.scope.names.lookup x = some .local := by first | exact .inl rfl | exact .inr rfl) : PSD X (.Assign [.Name x pos'] e pos) (dSet i T) := ps_imp (ps_set hN hi hx he hs hf) fun D σ H h => set_ok h
theorem psd_setLc (i j : Nat) {x y : Str} {py spos : Pos} {elt tg iter : Expr} {ifs : List Expr} {scope : Scope} {Ti : TDI} {Tt : TDT} {Te : TDE} (hN : X.N.Nodup) (hi : PID X tg iter Ti) (ok : BlkOk X.N X.env.scope scope [(x, i)])
    (hg : ∀ (s : Shared) (H : Hp) (C : Addr) (cl : List (Str × Addr)) (fp : List Addr), PG (X.blk s H scope (compEnvC scope cl C X.env) fp) tg (gName i))
    (ht : ∀ (s : Shared) (H : Hp) (C : Addr) (cl : List (Str × Addr)) (fp : List Addr), PTs (X.blk s H scope (compEnvC scope cl C X.env) fp) ifs (liftT X.K Tt))
    (he : ∀ (s : Shared) (H : Hp) (C : Addr) (cl : List (Str × Addr)) (fp : List Addr), PED (X.blk s H scope (compEnvC scope cl C X.env) fp) elt Te)
    (hsw : swapsWith (.ListComp elt [⟨tg, iter, ifs, 0⟩] scope pos) (some (.Name y py)) spos.line X.env = pure true) (hc : X.calm = true := by rfl) (hy : X.N[j]? = some y := by rfl) (hyl : X.env.scope.names.lookup y = some .local := by rfl) (hs : ∀ x, foldedSetIterable iter X.env x = pure x := by intro _; rfl) :
    PSD X (.Assign [.Name y py] (.ListComp elt [⟨tg, iter, ifs, 0⟩] scope pos) spos) (dSet j (dLc i Ti Tt Te)) :=
  ps_imp (ps_setLc (own := [(x, i)]) hc hN hy hyl hsw hi ok hg ht he hs) fun D σ H h => lc_ok (set_ok h)
end
/-! ### own lists -/
theorem Rp.updL {K : PySem.W.Frag} {H : Hp} {a : Addr} {vs : List V} {o : HO} {v : V} {d : D} (h : H a = some (.lst vs)) (r : Rp K H v d) : Rp K (upd H a o) v d := r.to (Keep.updL h)
/-- an own list has grown -/
theorem RS.grow {K : PySem.W.Frag} {B H : Hp} {σ : L2.St} {ρ : DE} (r : RS K B H σ ρ) {i : Nat} {xs zs : List D} {a : Addr} {vs ws : List V} (hi : ρ[i]? = some (some (.own xs))) (hv : σ[i]? = some (some (.ref a))) (ha : B a = none) (hl : RL H a vs) (rw' : RpA K H ws zs) (nw : nsrc ws) :
    RS K B (upd H a (.lst ws)) σ (ρ.set i (some (.own zs))) := by
  have getr : ∀ {j : Nat} {w : S}, (ρ.set i (some (.own zs)))[j]? = some (some w) → (j = i ∧ w = .own zs) ∨ (j ≠ i ∧ ρ[j]? = some (some w)) := fun {j w} e => by
    by_cases hj : j = i
    · subst hj
      by_cases hl : j < ρ.length
      · rw [List.getElem?_set_self hl] at e; cases e; exact .inl ⟨rfl, rfl⟩
      · rw [List.getElem?_eq_none (by simpa using hl)] at e; cases e
    · rw [List.getElem?_set_ne (Ne.symm hj)] at e; exact .inr ⟨hj, e⟩
  refine ⟨by simpa using r.len, fun j s e => ?_, fun j k ys s v w hjk e1 e2 l e3 e4 => ?_⟩
  · rcases getr e with ⟨ej, es⟩ | ⟨nj, e'⟩
    · subst es
      rw [ej]
      exact ⟨.ref a, hv, a, ws, rfl, ha, ⟨upd_same, nw⟩, rw'.to (Keep.updL hl.1)⟩
    · obtain ⟨v, e1, e2⟩ := r.rep j s e'
      refine ⟨v, e1, ?_⟩
      cases s with
      | d x => exact Rp.updL hl.1 e2
      | fz x =>
        obtain ⟨b, us, rfl, q, z⟩ := e2
        refine ⟨b, us, rfl, ?_, z.to (Keep.updL hl.1)⟩
        rcases q with ⟨o, q⟩ | q
        · exact .inl ⟨o, by rw [upd_ne (ne_of q hl.1 (by intro z; cases z))]; exact q⟩
        · exact .inr q
      | lst x =>
        have ne := r.sep i j xs _ _ _ (Ne.symm nj) hi e' trivial hv e1
        obtain ⟨b, us, rfl, q, z⟩ := e2
        have nb : b ≠ a := fun z => ne (by rw [z])
        exact ⟨b, us, rfl, ⟨by rw [upd_ne nb]; exact q.1, q.2⟩, z.to (Keep.updL hl.1)⟩
      | own x =>
        have ne := r.sep i j xs _ _ _ (Ne.symm nj) hi e' trivial hv e1
        obtain ⟨b, us, rfl, hb, q, z⟩ := e2
        have nb : b ≠ a := fun z => ne (by rw [z])
        exact ⟨b, us, rfl, hb, ⟨by rw [upd_ne nb]; exact q.1, q.2⟩, z.to (Keep.updL hl.1)⟩
      | src =>
        obtain ⟨b, o, rfl, q, z⟩ := e2
        have nb : b ≠ a := fun y => by
          subst y
          rw [hl.1] at q
          cases q
          exact nsrc_not hl.2 z
        exact ⟨b, o, rfl, by rw [upd_ne nb]; exact q, z⟩
  · have old : ∀ {j : Nat} {w : S}, (ρ.set i (some (.own zs)))[j]? = some (some w) → isL w → ∃ w', ρ[j]? = some (some w') ∧ isL w' := fun {j w} e l => by
      rcases getr e with ⟨ej, es⟩ | ⟨nj, e'⟩
      · rw [ej]; exact ⟨_, hi, trivial⟩
      · exact ⟨_, e', l⟩
    have oldo : ∃ ys', ρ[j]? = some (some (.own ys')) := by
      rcases getr e1 with ⟨ej, es⟩ | ⟨nj, e'⟩
      · rw [ej]; exact ⟨_, hi⟩
      · exact ⟨_, e'⟩
    obtain ⟨ys', f1⟩ := oldo
    obtain ⟨w', f2, l'⟩ := old e2 l
    exact r.sep j k ys' w' v w hjk f1 f2 l' e3 e4
@[simp] def dApp (i : Nat) (T : TDE) (DD : EndsD) (ρ : DE) : Prop := match ρ[i]? with
  | some (some (.own xs)) => T ρ fun s => (match s with
    | .d x => noInt x ∧ xs.length < 1000000 ∧ DD.nx (ρ.set i (some (.own (xs ++ [x]))))
    | _ => False)
  | _ => False
@[simp] def dExt (i : Nat) (T : TDE) (DD : EndsD) (ρ : DE) : Prop := match ρ[i]? with
  | some (some (.own xs)) => T ρ fun s => (match s with
    | .own ys => nsrcD (xs ++ ys) ∧ xs.length + ys.length ≤ 1000000 ∧ DD.nx (ρ.set i (some (.own (xs ++ ys))))
    | _ => False)
  | _ => False
/-- xs.extend(ys), ys a name -/
@[simp] def dExtV (i j : Nat) (DD : EndsD) (ρ : DE) : Prop := match ρ[i]?, ρ[j]? with
  | some (some (.own xs)), some (some s) => (match plainOf s with
    | some ys => nsrcD (xs ++ ys) ∧ xs.length + ys.length ≤ 1000000 ∧ DD.nx (ρ.set i (some (.own (xs ++ ys))))
    | none => False)
  | _, _ => False
section
variable {X : Cx} {e : Expr} {T : TDE} {apos cpos pos pos' pos2 : Pos} {x y : Str}
theorem psd_app (i : Nat) (he : PED X e T) (hN : X.N[i]? = some x := by rfl) (hv : Vis X.env.scope x := by first | exact Or.inl rfl | exact Or.inr (Or.inl rfl) | exact Or.inr (Or.inr rfl)) (hd : (x == ("__debug__" : Str)) = false := by decide +kernel) (hcd : (x == ("__classdict__" : Str)) = false := by decide +kernel)
    (hbase : attributeBase (.Name x pos') "append" X.env (eval (.Name x pos') X.env) = eval (.Name x pos') X.env := by rfl)
    (hfew : ((backTo cpos (starEach [e] X.env)).all (fun x => !x.1) && (backToKw cpos (keywordEach [] X.env)).all (fun x => x.1.isSome) && decide ([e].length + ([] : List Keyword).length + (if ([] : List Keyword).isEmpty then 0 else 1) < 30)) = true := by rfl)
    (hline : (apos.endLine == cpos.line) = true := by rfl) (hs : starEach [e] X.env = (false, eval e X.env) :: starEach [] X.env := by rfl) (hplain : (backTo cpos (starEach [] X.env)).any (·.1) = false := by rfl)
    (hsw : swapsWith (.Call (.Attribute (.Name x pos') "append" apos) [e] [] cpos) none pos.line X.env = pure false := by rfl) :
    PSD X (.Expr (.Call (.Attribute (.Name x pos') "append" apos) [e] [] cpos) pos) (dApp i T) :=
  ps_imp (ps_expr (pe_bm PySem.F.plainAttrs_list PySem.F.slot_list_append PySem.F.type_list_append mt_append (pe_var (i := i) hN hv hd hcd) (pa_cons he pa_nil hs) hbase hfew hline hs hplain) hsw) fun D σ H ⟨B, ρ, DD, k, r, h, p⟩ => by
    unfold dApp at h
    split at h
    · rename_i xs ei
      obtain ⟨v, e1, e2⟩ := r.rep i _ ei
      obtain ⟨a, vs, rfl, ha, hl, hra⟩ := e2
      refine ⟨.ref a, e1, .inl ⟨rfl, _, hl.sql⟩, B, ρ, _, k, r, h, fun v H1 s e3 rv q => ?_⟩
      cases s with
      | d y =>
        obtain ⟨q1, q2, q3⟩ := q
        have hl1 := e3.rl hl
        have ra : RpA X.K H1 (vs ++ [v]) (xs ++ [y]) := (hra.mono e3).append (.cons rv .nil)
        exact ⟨a, vs, v, rfl, rfl, hl1.1, szLt (by rw [hra.length]; exact q2), p.nx _ _ _ ((k.trans e3).mut ha) ((r.mono e3).grow ei e1 ha hl1 ra (nsrcD_ok ra (nsrcD_snoc q1))) q3⟩
      | _ => exact q.elim
    · exact h.elim
theorem psd_ext (i : Nat) (he : PED X e T) (hN : X.N[i]? = some x := by rfl) (hv : Vis X.env.scope x := by first | exact Or.inl rfl | exact Or.inr (Or.inl rfl) | exact Or.inr (Or.inr rfl)) (hd : (x == ("__debug__" : Str)) = false := by decide +kernel) (hcd : (x == ("__classdict__" : Str)) = false := by decide +kernel)
    (hbase : attributeBase (.Name x pos') "extend" X.env (eval (.Name x pos') X.env) = eval (.Name x pos') X.env := by rfl)
    (hfew : ((backTo cpos (starEach [e] X.env)).all (fun x => !x.1) && (backToKw cpos (keywordEach [] X.env)).all (fun x => x.1.isSome) && decide ([e].length + ([] : List Keyword).length + (if ([] : List Keyword).isEmpty then 0 else 1) < 30)) = true := by rfl)
    (hline : (apos.endLine == cpos.line) = true := by rfl) (hs : starEach [e] X.env = (false, eval e X.env) :: starEach [] X.env := by rfl) (hplain : (backTo cpos (starEach [] X.env)).any (·.1) = false := by rfl)
    (hsw : swapsWith (.Call (.Attribute (.Name x pos') "extend" apos) [e] [] cpos) none pos.line X.env = pure false := by rfl) :
    PSD X (.Expr (.Call (.Attribute (.Name x pos') "extend" apos) [e] [] cpos) pos) (dExt i T) :=
  ps_imp (ps_expr (pe_bm PySem.F.plainAttrs_list PySem.F.slot_list_extend PySem.F.type_list_extend mt_extend (pe_var (i := i) hN hv hd hcd) (pa_cons he pa_nil hs) hbase hfew hline hs hplain) hsw) fun D σ H ⟨B, ρ, DD, k, r, h, p⟩ => by
    unfold dExt at h
    split at h
    · rename_i xs ei
      obtain ⟨v, e1, e2⟩ := r.rep i _ ei
      obtain ⟨a, vs, rfl, ha, hl, hra⟩ := e2
      refine ⟨.ref a, e1, .inl ⟨rfl, _, hl.sql⟩, B, ρ, _, k, r, h, fun v H1 s e3 rv q => ?_⟩
      cases s with
      | own ys =>
        obtain ⟨q1, q2, q3⟩ := q
        obtain ⟨b, ws, rfl, hb, hlb, hrb⟩ := rv
        have hl1 := e3.rl hl
        have ra : RpA X.K H1 (vs ++ ws) (xs ++ ys) := (hra.mono e3).append hrb
        exact ⟨a, b, vs, ws, rfl, rfl, hl1.1, hlb.1, szL (by rw [hra.length, hrb.length]; exact q2), p.nx _ _ _ ((k.trans e3).mut ha) ((r.mono e3).grow ei e1 ha hl1 ra (nsrcD_ok ra q1)) q3⟩
      | _ => exact q.elim
    · exact h.elim
theorem psd_extV (i j : Nat) (hN : X.N[i]? = some x := by rfl) (hv : Vis X.env.scope x := by first | exact Or.inl rfl | exact Or.inr (Or.inl rfl) | exact Or.inr (Or.inr rfl)) (hd : (x == ("__debug__" : Str)) = false := by decide +kernel) (hcd : (x == ("__classdict__" : Str)) = false := by decide +kernel)
    (hN2 : X.N[j]? = some y := by rfl) (hv2 : Vis X.env.scope y := by first | exact Or.inl rfl | exact Or.inr (Or.inl rfl) | exact Or.inr (Or.inr rfl)) (hd2 : (y == ("__debug__" : Str)) = false := by decide +kernel) (hcd2 : (y == ("__classdict__" : Str)) = false := by decide +kernel)
    (hbase : attributeBase (.Name x pos') "extend" X.env (eval (.Name x pos') X.env) = eval (.Name x pos') X.env := by rfl)
    (hfew : ((backTo cpos (starEach [.Name y pos2] X.env)).all (fun x => !x.1) && (backToKw cpos (keywordEach [] X.env)).all (fun x => x.1.isSome) && decide ([Expr.Name y pos2].length + ([] : List Keyword).length + (if ([] : List Keyword).isEmpty then 0 else 1) < 30)) = true := by rfl)
    (hline : (apos.endLine == cpos.line) = true := by rfl) (hs : starEach [.Name y pos2] X.env = (false, eval (.Name y pos2) X.env) :: starEach [] X.env := by rfl) (hplain : (backTo cpos (starEach [] X.env)).any (·.1) = false := by rfl)
    (hsw : swapsWith (.Call (.Attribute (.Name x pos') "extend" apos) [.Name y pos2] [] cpos) none pos.line X.env = pure false := by rfl) :
    PSD X (.Expr (.Call (.Attribute (.Name x pos') "extend" apos) [.Name y pos2] [] cpos) pos) (dExtV i j) :=
  ps_imp (ps_expr (pe_bm PySem.F.plainAttrs_list PySem.F.slot_list_extend PySem.F.type_list_extend mt_extend (pe_var (i := i) hN hv hd hcd) (pa_cons (pe_var (i := j) hN2 hv2 hd2 hcd2) pa_nil hs) hbase hfew hline hs hplain) hsw) fun D σ H ⟨B, ρ, DD, k, r, h, p⟩ => by
    unfold dExtV at h
    split at h
    · rename_i xs s ei ej
      split at h
      · rename_i ys es
        obtain ⟨v, e1, e2⟩ := r.rep i _ ei
        obtain ⟨a, vs, rfl, ha, hl, hra⟩ := e2
        obtain ⟨w, e3, e4⟩ := r.rep j _ ej
        obtain ⟨b, ws, rfl, hlb, hrb⟩ := plainOf_ok e4 es
        obtain ⟨q1, q2, q3⟩ := h
        have ra : RpA X.K H (vs ++ ws) (xs ++ ys) := hra.append hrb
        exact ⟨.ref a, e1, .inl ⟨rfl, _, hl.sql⟩, .ref b, e3, a, b, vs, ws, rfl, rfl, hl.1, hlb.1, szL (by rw [hra.length, hrb.length]; exact q2), p.nx _ _ _ (k.mut ha) (r.grow ei e1 ha hl ra (nsrcD_ok ra q1)) q3⟩
      · exact h.elim
    · exact h.elim
end
/-- x = y, y an own list that is not used under that name any more -/
@[simp] def dMove (i j : Nat) (DD : EndsD) (ρ : DE) : Prop := match ρ[j]? with
  | some (some (.own xs)) => i ≠ j ∧ DD.nx ((ρ.set j none).set i (some (.own xs)))
  | _ => False
theorem RS.move {K : PySem.W.Frag} {B H : Hp} {σ : L2.St} {ρ : DE} (r : RS K B H σ ρ) {i j : Nat} {xs : List D} {v : V} (hij : i ≠ j) (hj : ρ[j]? = some (some (.own xs))) (hv : σ[j]? = some (some v)) : RS K B H (σ.set i (some v)) ((ρ.set j none).set i (some (.own xs))) := by
  obtain ⟨v', ev, rv⟩ := r.rep j _ hj
  rw [hv] at ev; cases ev
  have getr : ∀ {k : Nat} {w : S}, ((ρ.set j none).set i (some (.own xs)))[k]? = some (some w) → (k = i ∧ w = .own xs) ∨ (k ≠ i ∧ k ≠ j ∧ ρ[k]? = some (some w)) := fun {k w} e => by
    by_cases hk : k = i
    · subst hk
      by_cases hl : k < (ρ.set j none).length
      · rw [List.getElem?_set_self hl] at e; cases e; exact .inl ⟨rfl, rfl⟩
      · rw [List.getElem?_eq_none (by simpa using hl)] at e; cases e
    · rw [List.getElem?_set_ne (Ne.symm hk)] at e
      by_cases hk2 : k = j
      · subst hk2
        by_cases hl : k < ρ.length
        · rw [List.getElem?_set_self hl] at e; cases e
        · rw [List.getElem?_eq_none (by simpa using hl)] at e; cases e
      · rw [List.getElem?_set_ne (Ne.symm hk2)] at e; exact .inr ⟨hk, hk2, e⟩
  have get : ∀ {k : Nat} {w : V}, (σ.set i (some v))[k]? = some (some w) → (k = i ∧ w = v) ∨ (k ≠ i ∧ σ[k]? = some (some w)) := fun {k w} e => by
    by_cases hk : k = i
    · subst hk
      by_cases hl : k < σ.length
      · rw [List.getElem?_set_self hl] at e; cases e; exact .inl ⟨rfl, rfl⟩
      · rw [List.getElem?_eq_none (by simpa using hl)] at e; cases e
    · rw [List.getElem?_set_ne (Ne.symm hk)] at e; exact .inr ⟨hk, e⟩
  refine ⟨by simpa using r.len, fun k w e => ?_, fun k l ys s a b hkl e1 e2 il e3 e4 => ?_⟩
  · rcases getr e with ⟨ek, es⟩ | ⟨nk, nk2, e'⟩
    · subst es
      rw [ek]
      have hl : i < σ.length := by
        rw [r.len]
        by_cases hl : i < ρ.length
        · exact hl
        · rw [ek, List.getElem?_eq_none (by simpa using hl)] at e; cases e
      exact ⟨v, List.getElem?_set_self hl, rv⟩
    · obtain ⟨w', a, b⟩ := r.rep k w e'
      exact ⟨w', by rw [List.getElem?_set_ne (Ne.symm nk)]; exact a, b⟩
  · rcases getr e1 with ⟨ek, es⟩ | ⟨nk, nk2, e1'⟩
    · rcases get e3 with ⟨_, ea⟩ | ⟨n, _⟩
      · rcases getr e2 with ⟨el, _⟩ | ⟨nl, nl2, e2'⟩
        · exact absurd (ek.trans el.symm) hkl
        · rcases get e4 with ⟨q, _⟩ | ⟨_, e4'⟩
          · exact absurd q nl
          · rw [ea]; exact r.sep j l xs s v b (Ne.symm nl2) hj e2' il hv e4'
      · exact absurd ek n
    · rcases get e3 with ⟨q, _⟩ | ⟨_, e3'⟩
      · exact absurd q nk
      · rcases getr e2 with ⟨el, es⟩ | ⟨nl, nl2, e2'⟩
        · rcases get e4 with ⟨_, eb⟩ | ⟨n, _⟩
          · rw [eb]; exact r.sep k j ys (.own xs) a v nk2 e1' hj trivial e3' hv
          · exact absurd el n
        · rcases get e4 with ⟨q, _⟩ | ⟨_, e4'⟩
          · exact absurd q nl
          · exact r.sep k l ys s a b hkl e1' e2' il e3' e4'
theorem psd_move {X : Cx} (i j : Nat) {x y : Str} {pos pos' pos2 : Pos} (hN : X.N.Nodup) (hi : X.N[i]? = some x := by rfl) (hx : Loc X.env.scope x := by first | exact .inl rfl | exact .inr rfl) (hj : X.N[j]? = some y := by rfl)
    (hv : Vis X.env.scope y := by first | exact Or.inl rfl | exact Or.inr (Or.inl rfl) | exact Or.inr (Or.inr rfl)) (hd : (y == ("__debug__" : Str)) = false := by decide +kernel) (hcd : (y == ("__classdict__" : Str)) = false := by decide +kernel) (hs : swapsWith (.Name y pos2) (some (.Name x pos')) pos.line X.env = pure false := by rfl)
    (hf : X.fn x = true ∨ X.env.scope.names.lookup x = some .local := by first | exact .inl rfl | exact .inr rfl) : PSD X (.Assign [.Name x pos'] (.Name y pos2) pos) (dMove i j) :=
  ps_imp (ps_set hN hi hx (pe_var (i := j) hj hv hd hcd) hs hf) fun D σ H ⟨B, ρ, DD, k, r, h, p⟩ => by
    unfold dMove at h
    split at h
    · rename_i xs ej
      obtain ⟨v, e1, e2⟩ := r.rep j _ ej
      exact ⟨v, e1, p.nx _ H _ k (r.move h.1 ej e1) h.2⟩
    · exact h.elim
/-! ### for -/
/-- a loop's base: what stands ahead of it, but one's own lists; q: the list that is walked -/
def extB (B H : Hp) (q : Option Addr) : Hp := fun a => if some a = q then H a else match H a with
  | some (.lst _) => B a
  | o => o
section
variable {K : PySem.W.Frag} {B H H' : Hp} {q : Option Addr} {σ : L2.St} {ρ : DE} {DD : EndsD} {D0 : Ends}
def NoS (H : Hp) (q : Option Addr) : Prop := ∀ a o, q = some a → H a = some o → ¬ isSrc o
theorem extB_le (k : Keep B H) (hq : NoS H q) {a : Addr} {o : HO} (h : B a = some o) : extB B H q a = some o := by
  unfold extB
  by_cases c : some a = q
  · rw [if_pos c]
    rcases k a o h with z | ⟨_, o', z, s⟩
    · exact z
    · exact absurd s (hq a o' c.symm z)
  · rw [if_neg c]
    rcases k a o h with z | ⟨s, o', z, ⟨c1, f1, n1, s'⟩⟩
    · rw [z]
      split
      · exact h
      · rfl
    · rw [z, s']
      exact h
theorem extB_keep (k : Keep B H) : Keep (extB B H q) H := fun a o h => by
  unfold extB at h
  by_cases c : some a = q
  · rw [if_pos c] at h; exact .inl h
  · rw [if_neg c] at h
    split at h
    · exact k a o h
    · rename_i n; exact .inl h
theorem extB_back (k : Keep B H) (hq : NoS H q) (h : Keep (extB B H q) H') : Keep B H' := fun a o e => h a o (extB_le k hq e)
theorem extB_free (k : Keep B H) (hq : NoS H q) {a : Addr} (h : extB B H q a = none) : B a = none := by
  cases e : B a with
  | none => rfl
  | some o => rw [extB_le k hq e] at h; cases h
theorem extB_sqt {a : Addr} {vs : List V} (h : SqT K H a vs) : SqT K (extB B H q) a vs := by
  have key : ∀ {o : HO}, H a = some o → (∀ ws, o ≠ .lst ws) → extB B H q a = some o := fun {o} e n => by
    unfold extB
    split
    · exact e
    · rw [e]
      split
      · rename_i z; cases z; exact absurd rfl (n _)
      · rfl
  rcases h with (h | ⟨o, h⟩) | h
  · exact .inl (.inl (key h fun ws z => nomatch z))
  · exact .inl (.inr ⟨o, key h fun ws z => nomatch z⟩)
  · exact .inr h
theorem extB_rz {a : Addr} {vs : List V} (h : RZ K H a vs) : RZ K (extB B H q) a vs := by
  rcases h with ⟨o, h⟩ | h
  · refine .inl ⟨o, ?_⟩
    unfold extB
    split
    · exact h
    · rw [h]
  · exact .inr h
theorem extB_rs (r : RS K B H σ ρ) (hn : ∀ (i : Nat) (xs : List D) (v : V), ρ[i]? = some (some (S.own xs)) → σ[i]? = some (some v) → ∀ a : Addr, q = some a → v ≠ V.ref a) : RS K (extB B H q) H σ ρ := by
  refine ⟨r.len, fun i s e => ?_, r.sep⟩
  obtain ⟨v, e1, e2⟩ := r.rep i s e
  refine ⟨v, e1, ?_⟩
  cases s with
  | own xs =>
    obtain ⟨a, vs, rfl, ha, hl, hr⟩ := e2
    refine ⟨a, vs, rfl, ?_, hl, hr⟩
    unfold extB
    rw [if_neg (fun z => hn i xs (.ref a) e e1 a z.symm rfl), hl.1]
    exact ha
  | d x => exact e2
  | lst x => exact e2
  | fz x => exact e2
  | src => exact e2
theorem Impl.ext (p : Impl K B DD D0) (k : Keep B H) (hq : NoS H q) : Impl K (extB B H q) DD D0 where
  nx := fun σ H1 ρ k1 r h => p.nx σ H1 ρ (extB_back k hq k1) (r.base fun a z => extB_free k hq z) h
  rt := fun v H1 s k1 r h => p.rt v H1 s (extB_back k hq k1) (r.base fun a z => extB_free k hq z) h
  bk := fun σ H1 ρ k1 r h => p.bk σ H1 ρ (extB_back k hq k1) (r.base fun a z => extB_free k hq z) h
  ct := fun σ H1 ρ k1 r h => p.ct σ H1 ρ (extB_back k hq k1) (r.base fun a z => extB_free k hq z) h
end
@[simp] def forD (i : Nat) (T : TDS) (DD : EndsD) : List D → DE → Prop
  | [], ρ => DD.nx ρ
  | x :: r, ρ => T { nx := forD i T DD r, rt := DD.rt, bk := DD.nx, ct := forD i T DD r } (ρ.set i (some (.d x)))
theorem for_ok {K : PySem.W.Frag} {B H : Hp} {σ : L2.St} {ρ : DE} {DD : EndsD} {D0 : Ends} {i : Nat} {T : TDS} {J : It} {xs : List D} (k : Keep B H) (r : RS K B H σ ρ) (wk : WalkD K J B xs) (h : forD i T DD xs ρ) (p : Impl K B DD D0) :
    ∃ W : Nat → Nat → L2.St → Hp → Prop, (∃ m, W 0 m σ H) ∧ ∀ j m σ H, W j m σ H →
      (J.stop j H ∧ D0.nx σ H) ∨ (J.go j H ∧ ∃ N : L2.St → Hp → Prop, (∀ σ' H', N σ' H' → ∃ m', m' < m ∧ W (j + 1) m' σ' H') ∧ ∀ x H', J.yld j H x H' → gName i x σ H' fun σ2 H2 => liftS K T { D0 with nx := N, ct := N, bk := D0.nx } σ2 H2) := by
  refine ⟨fun j m σ H => m = xs.length - j ∧ j ≤ xs.length ∧ ∃ ρ, Keep B H ∧ RS K B H σ ρ ∧ forD i T DD (xs.drop j) ρ, ⟨xs.length, by simp, Nat.zero_le _, ρ, k, r, h⟩, ?_⟩
  rintro j m σ H ⟨rfl, hj, ρ, k, r, h⟩
  by_cases hlt : j < xs.length
  · refine .inr ⟨wk.go j H k hlt, fun σ' H' => j + 1 ≤ xs.length ∧ ∃ ρ, Keep B H' ∧ RS K B H' σ' ρ ∧ forD i T DD (xs.drop (j + 1)) ρ, fun σ' H' z => ⟨xs.length - (j + 1), by omega, rfl, z⟩, fun x H' y => ?_⟩
    have hd : xs[j]? = some xs[j] := by simp [hlt]
    obtain ⟨rfl, rx⟩ := wk.yld j H x H' k y _ hd
    rw [List.drop_eq_getElem_cons hlt] at h
    exact ⟨B, _, _, k, r.set (s := .d xs[j]) (Keep.refl _) r k trivial rx, h, ⟨fun σ' H2 ρ' k' r' h' => ⟨hlt, ρ', k', r', h'⟩, p.rt, p.nx, fun σ' H2 ρ' k' r' h' => ⟨hlt, ρ', k', r', h'⟩⟩⟩
  · have e : j = xs.length := by omega
    subst e
    rw [List.drop_length] at h
    exact .inl ⟨wk.stop H k, p.nx σ H ρ k r h⟩
theorem RS.viewAt {K : PySem.W.Frag} {B H : Hp} {σ : L2.St} {ρ : DE} (r : RS K B H σ ρ) {j : Nat} {s : S} (hj : ρ[j]? = some (some s)) : RS K B H σ (ρ.set j (some (view s))) := by
  have lj : j < ρ.length := by
    by_cases hl : j < ρ.length
    · exact hl
    · rw [List.getElem?_eq_none (by simpa using hl)] at hj; cases hj
  have getr : ∀ {k : Nat} {w : S}, (ρ.set j (some (view s)))[k]? = some (some w) → (k = j ∧ w = view s) ∨ (k ≠ j ∧ ρ[k]? = some (some w)) := fun {k w} e => by
    by_cases hk : k = j
    · subst hk
      rw [List.getElem?_set_self lj] at e; cases e; exact .inl ⟨rfl, rfl⟩
    · rw [List.getElem?_set_ne (Ne.symm hk)] at e; exact .inr ⟨hk, e⟩
  have vo : ∀ ys, view s ≠ .own ys := fun ys z => by cases s <;> cases z
  have vl : isL (view s) → isL s := fun z => by cases s <;> first | exact z | trivial
  refine ⟨by simpa using r.len, fun k w e => ?_, fun k l ys t a b hkl e1 e2 il e3 e4 => ?_⟩
  · rcases getr e with ⟨ek, es⟩ | ⟨nk, e'⟩
    · subst es
      rw [ek]
      obtain ⟨v, a, b⟩ := r.rep j s hj
      exact ⟨v, a, b.view⟩
    · exact r.rep k w e'
  · rcases getr e1 with ⟨ek, es⟩ | ⟨nk, e1'⟩
    · exact absurd es.symm (vo ys)
    · rcases getr e2 with ⟨el, es⟩ | ⟨nl, e2'⟩
      · subst es
        rw [el] at e4
        exact r.sep k j ys s a b nk e1' hj (vl il) e3 e4
      · exact r.sep k l ys t a b hkl e1' e2' il e3 e4
@[simp] def dForTup (i : Nat) (Ti : TDE) (T : TDS) (DD : EndsD) (ρ : DE) : Prop := Ti ρ fun s => match s with
  | .d (.tup xs) => forD i T DD xs ρ
  | _ => False
@[simp] def dForFz (i : Nat) (Ti : TDE) (T : TDS) (DD : EndsD) (ρ : DE) : Prop := Ti ρ fun s => match s with
  | .fz xs => forD i T DD xs ρ
  | _ => False
@[simp] def dForVar (i j : Nat) (T : TDS) (DD : EndsD) (ρ : DE) : Prop := match ρ[j]? with
  | some (some s) => (match listOf s with
    | some xs => forD i T DD xs (ρ.set j (some (view s)))
    | none => False)
  | _ => False
@[simp] def dForRng (i : Nat) (Ti : TDI) (T : TDS) (DD : EndsD) (ρ : DE) : Prop := Ti ρ fun xs => forD i T DD xs ρ
section
variable {X : Cx} {tg e a b : Expr} {body : List Stmt} {Ti : TDE} {TA : TDA} {T : TDS} {p pos pos2 : Pos} {x y : Str}
theorem psd_for_tup (i : Nat) (hp : PassesOwn (model X.prog X.w) X.A X.env X.xe) (he : PED X e Ti) (hg : PG X tg (gName i)) (hb : PSsD X body T) (hc : X.calm = true := by rfl) (hs : ∀ x, foldedSetIterable e X.env x = pure x := by intro _; rfl) : PSD X (.For tg e body [] pos) (dForTup i Ti T) :=
  ps_imp (ps_for hp hc (pi_tup he) hg hb hs) fun D σ H ⟨B, ρ, DD, k, r, h, p⟩ => by
    refine ⟨B, ρ, _, k, r, h, fun v H1 s e1 rv q => ?_⟩
    split at q
    · rename_i xs
      obtain ⟨a, vs, rfl, ht, ra⟩ := Rp.tup_inv rv
      have nq : NoS H1 none := fun a o z => nomatch z
      have k1 := k.trans e1
      exact ⟨a, rfl, ⟨vs, ht⟩, for_ok (extB_keep (q := none) k1) (extB_rs (r.mono e1) fun i xs v _ _ a z => nomatch z) (walk_tup (extB_sqt ht) (ra.to fun a vs z => extB_sqt z)) q (p.ext k1 nq)⟩
    · exact q.elim
theorem psd_for_fz (i : Nat) (hp : PassesOwn (model X.prog X.w) X.A X.env X.xe) (he : PED X e Ti) (hg : PG X tg (gName i)) (hb : PSsD X body T) (hc : X.calm = true := by rfl) (hs : ∀ x, foldedSetIterable e X.env x = pure x := by intro _; rfl) : PSD X (.For tg e body [] pos) (dForFz i Ti T) :=
  ps_imp (ps_for hp hc (pi_list he) hg hb hs) fun D σ H ⟨B, ρ, DD, k, r, h, p⟩ => by
    refine ⟨B, ρ, _, k, r, h, fun v H1 s e1 rv q => ?_⟩
    split at q
    · rename_i xs
      obtain ⟨a, vs, rfl, hz, ra⟩ := rv
      have nq : NoS H1 none := fun a o z => nomatch z
      have k1 := k.trans e1
      exact ⟨a, rfl, ⟨vs, hz.sql⟩, for_ok (extB_keep (q := none) k1) (extB_rs (r.mono e1) fun i xs v _ _ a z => nomatch z) (walk_list (fun H' z => (z.rz (extB_rz hz)).sql) (ra.to fun a vs z => extB_sqt z)) q (p.ext k1 nq)⟩
    · exact q.elim
theorem psd_for_var (i j : Nat) (hp : PassesOwn (model X.prog X.w) X.A X.env X.xe) (hg : PG X tg (gName i)) (hb : PSsD X body T) (hN : X.N[j]? = some y := by rfl) (hv : Vis X.env.scope y := by first | exact Or.inl rfl | exact Or.inr (Or.inl rfl) | exact Or.inr (Or.inr rfl))
    (hd : (y == ("__debug__" : Str)) = false := by decide +kernel) (hcd : (y == ("__classdict__" : Str)) = false := by decide +kernel) (hc : X.calm = true := by rfl) (hs : ∀ x, foldedSetIterable (.Name y pos2) X.env x = pure x := by intro _; rfl) : PSD X (.For tg (.Name y pos2) body [] pos) (dForVar i j T) :=
  ps_imp (ps_for hp hc (pi_list (pe_var (i := j) hN hv hd hcd)) hg hb hs) fun D σ H ⟨B, ρ, DD, k, r, h, p⟩ => by
    unfold dForVar at h
    split at h
    · rename_i s ej
      split at h
      · rename_i xs es
        obtain ⟨v, e1, rv⟩ := r.rep j s ej
        have rw' := r.viewAt ej
        cases s with
        | d x => cases es
        | src => cases es
        | fz ys =>
          cases es
          obtain ⟨a, vs, rfl, hz, ra⟩ := rv
          have nq : NoS H none := fun a o z => nomatch z
          exact ⟨.ref a, e1, a, rfl, ⟨vs, hz.sql⟩, for_ok (extB_keep (q := none) k) (extB_rs rw' fun i xs v _ _ a z => nomatch z) (walk_list (fun H' z => (z.rz (extB_rz hz)).sql) (ra.to fun a vs z => extB_sqt z)) h (p.ext k nq)⟩
        | lst ys =>
          cases es
          obtain ⟨a, vs, rfl, hl, ra⟩ := rv
          have nq : NoS H (some a) := fun b o z e => by cases z; rw [hl.1] at e; cases e; exact nsrc_not hl.2
          have hx : RL (extB B H (some a)) a vs := ⟨by unfold extB; rw [if_pos rfl]; exact hl.1, hl.2⟩
          refine ⟨.ref a, e1, a, rfl, ⟨vs, hl.sql⟩, for_ok (extB_keep (q := some a) k) (extB_rs rw' fun i xs v ei ev b z => ?_) (walk_list (fun H' z => (z.rl hx).sql) (ra.to fun a vs z => extB_sqt z)) h (p.ext k nq)⟩
          cases z
          have hne : i ≠ j := fun z => by
            subst z
            have lj : i < ρ.length := by
              by_cases hl : i < ρ.length
              · exact hl
              · rw [List.getElem?_eq_none (by simpa using hl)] at ej; cases ej
            rw [List.getElem?_set_self lj] at ei; cases ei
          rw [List.getElem?_set_ne (Ne.symm hne)] at ei
          exact r.sep i j xs _ v _ hne ei ej trivial ev e1
        | own ys =>
          cases es
          obtain ⟨a, vs, rfl, ha, hl, ra⟩ := rv
          have nq : NoS H (some a) := fun b o z e => by cases z; rw [hl.1] at e; cases e; exact nsrc_not hl.2
          have hx : RL (extB B H (some a)) a vs := ⟨by unfold extB; rw [if_pos rfl]; exact hl.1, hl.2⟩
          refine ⟨.ref a, e1, a, rfl, ⟨vs, hl.sql⟩, for_ok (extB_keep (q := some a) k) (extB_rs rw' fun i xs v ei ev b z => ?_) (walk_list (fun H' z => (z.rl hx).sql) (ra.to fun a vs z => extB_sqt z)) h (p.ext k nq)⟩
          cases z
          have hne : i ≠ j := fun z => by
            subst z
            have lj : i < ρ.length := by
              by_cases hl : i < ρ.length
              · exact hl
              · rw [List.getElem?_eq_none (by simpa using hl)] at ej; cases ej
            rw [List.getElem?_set_self lj] at ei; cases ei
          rw [List.getElem?_set_ne (Ne.symm hne)] at ei
          exact r.sep i j xs _ v _ hne ei ej trivial ev e1
      · exact h.elim
    · exact h.elim
theorem psd_for_rng (i : Nat) (hp : PassesOwn (model X.prog X.w) X.A X.env X.xe) (hm : X.mg "range" = none) (ha : PAD X [a] TA) (hg : PG X tg (gName i)) (hb : PSsD X body T) (hgl : Gl X "range" := by rfl) (hst : starEach [a] X.env = [(false, eval a X.env)] := by rfl) (hc : X.calm = true := by rfl)
    (hs : ∀ x, foldedSetIterable (.Call (.Name "range" p) [a] [] pos2) X.env x = pure x := by intro _; rfl) : PSD X (.For tg (.Call (.Name "range" p) [a] [] pos2) body [] pos) (dForRng i (iRng1D TA) T) :=
  ps_imp (ps_for hp hc (pi_range1 hgl hm ha hst) hg hb hs) fun D σ H ⟨B, ρ, DD, k, r, h, p⟩ => by
    refine ⟨B, ρ, _, k, r, h, fun vs H1 ss e1 rv q => ?_⟩
    split at q
    · obtain ⟨v, rfl, rv1⟩ := rvs1 rv
      exact ⟨_, by rw [Rp.int_inv rv1], q.1.1, q.1.2, for_ok (k.trans e1) (r.mono e1) walk_range q.2 p⟩
    · exact q.elim
end
/-! ### a locked slice of a list -/
theorem Inv.lock {X : Cx} {pins : List (Addr × Obj)} {σ : L2.St} {H : Hp} {s : Shared} {p : Addr} {xs : List V} (I : L2.Inv X pins σ H s) (h : H p = some (.lst xs)) : ∃ o, L2.Inv X pins σ (upd H p (.frz o (.lst xs))) s := by
  obtain ⟨z, its, n, r, e⟩ := (I.hok p _ h : ObjOk X.prog X.w H s.heap p (.lst xs))
  refine ⟨_, I.un (t' := s.toks) (h' := s.heap) (H' := upd H p (.frz { cls := .type "list", data := .seq its.toArray n } (.lst xs))) ?_ ?_⟩
  · have nb : ∀ b, H b = none → b ≠ p := fun b n z => by rw [z, h] at n; cases n
    refine ⟨fun b o q _ _ _ => q, fun b o q _ _ _ => ⟨o.slots, q⟩, fun b o q n _ => by rw [upd_ne (nb b n)]; exact n, fun b o q _ => ⟨o, q⟩, fun b vs q => ?_, fun b o u q => ?_, fun b ps q => ⟨#[], ?_⟩⟩
    · rw [upd_ne (ne_of q h (by intro z; cases z))]; exact q
    · rw [upd_ne (ne_of q h (by intro z; cases z))]; exact q
    · rw [upd_ne (ne_of q h (by intro z; cases z)), q]; simp
  · intro b u q
    have own : ∀ c, H b = some u → H c = some (.own b) → (upd H p (.frz { cls := .type "list", data := .seq its.toArray n } (.lst xs))) c = some (.own b) := fun c _ k => by
      rw [upd_ne (ne_of k h (by intro z; cases z))]; exact k
    by_cases hb : b = p
    · subst hb
      rw [upd_same] at q
      cases q
      exact ⟨e, z, its, n, r, e⟩
    · rw [upd_ne hb] at q
      refine (I.hok b u q).stay (fun c v _ k => k) (fun c k => own c q k) fun c vs k => ?_
      rw [upd_ne (ne_of k h (by intro z; cases z))]; exact k
@[simp] def dSlFz (T : TDE) (l h : TDO) (ρ : DE) (Q : S → Prop) : Prop := T ρ fun x => l ρ fun i => h ρ fun j => match listOf x with
  | some xs => Q (.fz (cutD xs i j))
  | _ => False
theorem pe_lock {X : Cx} {e : Expr} {t : TE} (h : PE X e t) : PE X e (fun σ H Q => t σ H fun v H' => ∃ p xs, v = .ref p ∧ H' p = some (.lst xs) ∧ ∀ o, Q v (upd H' p (.frz o (.lst xs)))) := by
  refine ⟨fun pins s σ H Q I q => ?_⟩
  refine thn (h.run pins s σ H _ I q) fun u s1 ⟨v, H1, I1, r1, p, xs, e1, e2, q1⟩ => ?_
  obtain ⟨o, I2⟩ := Inv.lock I1 e2
  exact ⟨v, _, I2, r1, q1 o⟩
theorem pd_sliceFz {X : Cx} {e : Expr} {T : TDE} {lo hi : Option Expr} {tl th : TDO} {pos p2 : Pos} (he : PED X e T) (hl : POD X lo tl) (hh : POD X hi th) : PED X (.Subscript e (.Slice lo hi none p2) pos) (dSlFz T tl th) := pe_imp (pe_lock (pe_slice sl_list he hl hh)) fun σ H Q ⟨B, ρ, QD, k, r, h, p⟩ => by
  refine ⟨B, ρ, _, k, r, h, fun v H1 s e1 rv q => ?_⟩
  refine ⟨B, ρ, _, k.trans e1, r.mono e1, q, fun i H2 e2 q => ?_⟩
  refine ⟨B, ρ, _, (k.trans e1).trans e2, (r.mono e1).mono e2, q, fun j H3 e3 q => ?_⟩
  split at q
  · rename_i xs es
    obtain ⟨a, vs, rfl, ht, ra⟩ := listOf_keep rv es
    refine ⟨a, vs, rfl, ht H3 (e2.trans e3), fun b hb => ⟨b, _, rfl, upd_same, fun o => ?_⟩⟩
    have k3 : Keep H (upd (upd H3 b (.lst (cutV vs i j))) b (.frz o (.lst (cutV vs i j)))) := by
      rw [upd_upd]
      exact ((e1.trans e2).trans e3).trans (Keep.new hb)
    refine p _ _ (.fz (cutD xs i j)) k3 ⟨b, cutV vs i j, rfl, .inl ⟨o, upd_same⟩, ?_⟩ q
    have := (cutD_rp (i := i) (j := j) ra).mono (e2.trans e3)
    rw [upd_upd]
    exact this.mono (Keep.new hb)
  · exact q.elim
end Pk

/-! ## D7 -/
set_option Elab.async false
set_option linter.all false
set_option maxRecDepth 100000
set_option maxHeartbeats 4000000
namespace Pk
open PySem PySem.Spec PyProof.Rows L2
/-! ### the text: the top's statements by their places -/
/-- the defs that are reached, with their places -/
def fnT : List (Str × Nat) := [
  (("no" : Str), 11),
  (("both" : Str), 12),
  (("one_of" : Str), 13),
  (("at" : Str), 14),
  (("of_held" : Str), 15),
  (("after_swap" : Str), 29),
  (("touched" : Str), 34),
  (("divided" : Str), 35),
  (("after_simple" : Str), 37),
  (("after_there" : Str), 38),
  (("after_at" : Str), 39),
  (("held_before" : Str), 40),
  (("rewritten" : Str), 41),
  (("success_of" : Str), 44),
  (("before_primitive" : Str), 46),
  (("_law_child" : Str), 49),
  (("_law_lookup" : Str), 51),
  (("_law_with" : Str), 52),
  (("_law_replace" : Str), 53),
  (("_law_put" : Str), 54),
  (("_law_take" : Str), 55),
  (("_law_primitive" : Str), 63),
  (("_law_holds" : Str), 64),
  (("_law_is_integer" : Str), 65),
  (("_law_is_string" : Str), 66),
  (("_law_is_token" : Str), 67),
  (("_law_formula_parts" : Str), 68),
  (("_law_is_formula" : Str), 69),
  (("_law_cell" : Str), 70),
  (("_law_source" : Str), 71),
  (("_law_draw" : Str), 72),
  (("_law_char" : Str), 73),
  (("_law_name" : Str), 74),
  (("_law_number" : Str), 75),
  (("_law_leaf" : Str), 76),
  (("_law_object" : Str), 77),
  (("_law_value" : Str), 78),
  (("_law_wide" : Str), 79),
  (("_law_token" : Str), 80),
  (("_law_path" : Str), 81),
  (("_law_target" : Str), 82),
  (("_law_atom" : Str), 83),
  (("_law_item_of" : Str), 84),
  (("_law_every" : Str), 85),
  (("_law_formula" : Str), 86),
  (("_law_changed" : Str), 87),
  (("_law_near" : Str), 88),
  (("_law_mixed" : Str), 89),
  (("_law_is_exact" : Str), 90),
  (("law" : Str), 91)]
/-- what the top leaves -/
structure Gs (K : PySem.W.Frag) (mg : Str → Option Value) : Prop where
  df : ∀ (j : Nat) (x : Str) (i : Nat), fnT[j]? = some (x, i) → ∃ f fd, mg x = some (.ref f) ∧ FnP K x i f fd
  tt : ∃ g, mg "TRUE" = some (.ref g) ∧ ∀ H, SqT K H g [.str "true"]
  ff : ∃ g, mg "FALSE" = some (.ref g) ∧ ∀ H, SqT K H g [.str "false"]
  z_len : mg "len" = none
  z_isinstance : mg "isinstance" = none
  z_range : mg "range" = none
  z_all : mg "all" = none
  z_any : mg "any" = none
  z_tuple : mg "tuple" = none
  z_list : mg "list" = none
  z_int : mg "int" = none
  z_str : mg "str" = none
  z_bool : mg "bool" = none
  z_min : mg "min" = none
  z_max : mg "max" = none
  z_ord : mg "ord" = none
/-- the slots at a def's entry -/
def entry (N ps : List Str) (ss : List S) : DE := ss.map some ++ List.replicate (N.length - ps.length) none
theorem rs_start {K : PySem.W.Frag} {H : Hp} {N ps : List Str} {vs : List V} {ss : List S} (r : RVs K H H vs ss) (hl : ss.length = ps.length) : RS K H H (L2.start N vs) (entry N ps ss) := by
  have hlen : vs.length = ss.length := Paired.length r
  have noown : ∀ {v : V} {xs : List D}, ¬ RV K H H v (.own xs) := fun {v xs} ⟨a, vs, _, h1, h2, _⟩ => by
    have h3 := h2.1
    rw [h1] at h3; cases h3
  have getv : ∀ {vs : List V} {ss : List S} {i : Nat} {s : S}, RVs K H H vs ss → ss[i]? = some s → ∃ v, vs[i]? = some v ∧ RV K H H v s := by
    intro vs ss i s r
    induction r generalizing i with
    | nil => intro e; simp at e
    | cons h t ih =>
      intro e
      cases i with
      | zero => simp at e; subst e; exact ⟨_, rfl, h⟩
      | succ i =>
        obtain ⟨v, a, b⟩ := ih (i := i) (by simpa using e)
        exact ⟨v, by simpa using a, b⟩
  have rep : ∀ (i : Nat) (s : S), (entry N ps ss)[i]? = some (some s) → ∃ v, (L2.start N vs)[i]? = some (some v) ∧ RV K H H v s := fun i s e => by
    unfold entry at e
    by_cases hi : i < ss.length
    · rw [List.getElem?_append_left (by simpa using hi), List.getElem?_map] at e
      obtain ⟨s', e1, e2⟩ := Option.map_eq_some_iff.mp e
      cases e2
      obtain ⟨v, a, b⟩ := getv r e1
      refine ⟨v, ?_, b⟩
      unfold L2.start
      rw [List.getElem?_append_left (by rw [List.length_map, hlen]; exact hi), List.getElem?_map, a]
      rfl
    · rw [List.getElem?_append_right (by simpa using hi), List.getElem?_replicate] at e
      split at e <;> cases e
  refine ⟨by unfold L2.start entry; simp [hlen, hl], rep, fun i j xs s v w _ e _ _ _ _ => ?_⟩
  obtain ⟨v', _, b⟩ := rep i _ e
  exact absurd b noown
/-- THE RULE for a def -/
theorem ok_def {P : Program} {w : World} {K : PySem.W.Frag} {mg : Str → Option Value} {base : Heap} (G : Gs K mg) {x : Str} {i k : Nat} {N ps : List Str} {sd : SD} (j : Nat) (hj : fnT[j]? = some (x, i)) (sc : FnScope N ps (defScope (top i)))
    (hb : ∀ (kV doc pm : Value) (an : Option Addr) (cdv ct : Value) (us : List Value), us.length = ps.length → bindArgs (PySem.W.fnOf x x (defArgs (top i)) (defBody (top i)) (defScope (top i)) .none kV doc pm an cdv ct) ⟨us, []⟩ = pure (ps.zip us))
    (len : ∀ ss Q, sd ss Q → ss.length = ps.length)
    (body : ∀ (f : Addr) (cdv : Value) (A : Around) (outer : List Env) (s : Shared) (H : Hp) (E : XK), Room k (A.deeper (envOfC x (defScope (top i)) s.heap.objs.size f cdv)) →
      ∃ T, PSsD (cxOf CX0 P w K mg base N x (defScope (top i)) f cdv A outer s H E).nox (defBody (top i)) T ∧ ∀ ss Q, sd ss Q → T { nx := fun _ => Q (.d .non), rt := Q } (entry N ps ss)) :
    DefOk P w K mg base x (k + 1) ps sd := by
  obtain ⟨f, fd, hm, F⟩ := G.df j x i hj
  refine ⟨f, fd, hm, F.kp, F.bindsN hb, F.ok sc (fun vs H Q E h => ?_) fun cdv A outer s H vs Q E hr h => ?_⟩
  · obtain ⟨ss, QD, r, h, _⟩ := h
    rw [← len ss QD h]
    exact Paired.length r
  · obtain ⟨ss, QD, r, h, p⟩ := h
    obtain ⟨T, hT, q⟩ := body f cdv A outer s H E hr
    refine ⟨_, PSs.nox hT, H, entry N ps ss, _, Keep.refl H, rs_start r (len ss QD h), q ss QD h, ⟨fun σ H' ρ k r z => ?_, fun v H' s k r z => p v H' s k r z, fun _ _ _ _ _ z => z.elim, fun _ _ _ _ _ z => z.elim⟩⟩
    exact p _ _ (.d .non) k Rp.non z
end Pk

/-! ## D8 -/
set_option Elab.async false
set_option linter.all false
set_option maxRecDepth 100000
set_option maxHeartbeats 4000000
namespace Pk
open PySem PySem.Spec PyProof.Rows L2
/-! ### two odd forms -/
/-- [None, xs][i] -/
@[simp] def dPick (Tb Ti : TDE) (ρ : DE) (Q : S → Prop) : Prop := Tb ρ fun s => Ti ρ fun t => match s, t with
  | .own xs, .d (.int i) => (if i = 0 then Q (.d .non) else i = 1 ∧ Q (.own xs))
  | _, _ => False
/-- x not in [a, b, c], three ints -/
@[simp] def dNi3 (a b c : Int) (T : TDE) (ρ : DE) (Q : S → Prop) : Prop := T ρ fun s => match s with
  | .d (.int i) => Q (.d (.bl (!decide (i ∈ [a, b, c]))))
  | _ => False
section
variable {X : Cx} {b i e : Expr} {Tb Ti T : TDE} {pos p1 p2 p3 p4 : Pos} {j1 j2 j3 : Option Str}
theorem pd_pick {jn} (hb : PED X b Tb) (hi : PED X i Ti) (hs : PlainIx i := by intro _ _; rfl) (h1 : starEach [.Constant .none jn p1, b] X.env = (false, eval (.Constant .none jn p1) X.env) :: starEach [b] X.env := by rfl) (h2 : starEach [b] X.env = (false, eval b X.env) :: starEach [] X.env := by rfl) :
    PED X (.Subscript (.List [.Constant .none jn p1, b] p2) i pos) (dPick Tb Ti) :=
  pe_imp (pe_ix ix_list (pe_lst (pa_cons pe_non (pa_cons hb pa_nil h2) h1)) hi hs) fun σ H Q ⟨B, ρ, QD, k, r, h, p⟩ => by
    refine ⟨B, ρ, _, k, r, h, fun v H1 s e1 rv q => ?_⟩
    refine ⟨szL (show 2 ≤ 1000000 by decide), fun l hl => ?_⟩
    have k1 : Keep H1 (upd H1 l (.lst [.non, v])) := Keep.new hl
    have hns : nsrc [.non, v] := fun c f n z => nomatch z
    refine ⟨B, ρ, _, (k.trans e1).trans k1, (r.mono e1).mono k1, q, fun w H2 t e2 rw' q => ?_⟩
    cases s with
    | own xs =>
      cases t with
      | d y =>
        cases y with
        | int n =>
          have hl2 : H2 l = some (.lst [.non, v]) := e2.at upd_same (nsrc_not hns)
          have q' : (if n = 0 then QD (.d .non) else n = 1 ∧ QD (.own xs)) := q
          rw [Rp.int_inv rw']
          by_cases c : n = 0
          · rw [if_pos c] at q'
            subst c
            exact ⟨l, _, 0, .non, rfl, rfl, SqL.of hl2, rfl, p _ H2 (.d .non) ((e1.trans k1).trans e2) Rp.non q'⟩
          · rw [if_neg c] at q'
            obtain ⟨c1, q'⟩ := q'
            subst c1
            exact ⟨l, _, 1, v, rfl, rfl, SqL.of hl2, rfl, p _ H2 (.own xs) ((e1.trans k1).trans e2) (RV.mono (RV.mono rv k1) e2) q'⟩
        | _ => exact q.elim
      | _ => exact q.elim
    | _ => exact q.elim
theorem pd_ni3 {a b c : Int} {ja jb jc} (he : PED X e T) (hm : behindInMarks .NotIn (.List [.Constant (.int a) ja p1, .Constant (.int b) jb p2, .Constant (.int c) jc p3] p4) = false := by rfl) :
    PED X (.Compare e [.NotIn] [.List [.Constant (.int a) ja p1, .Constant (.int b) jb p2, .Constant (.int c) jc p3] p4] pos) (dNi3 a b c T) :=
  pe_imp (pe_cmpR op_notIn_seq he (pe_lst (pa_cons pe_int (pa_cons pe_int (pa_cons pe_int pa_nil)))) hm) fun σ H Q ⟨B, ρ, QD, k, r, h, p⟩ => by
    refine ⟨B, ρ, _, k, r, h, fun v H1 s e1 rv q => ?_⟩
    refine ⟨szL (show 3 ≤ 1000000 by decide), fun l hl => ?_⟩
    cases s with
    | d y =>
      cases y with
      | int n =>
        rw [Rp.int_inv rv]
        refine ⟨l, _, rfl, .inl (SqL.of upd_same), rfl, rfl, ?_⟩
        have ei : inV (.int n) [V.int a, V.int b, V.int c] = decide (n ∈ [a, b, c]) := inV_int n [a, b, c]
        rw [ei]
        exact p.da (e1.trans (Keep.new hl)) (.bl _) q
      | _ => exact q.elim
    | _ => exact q.elim
theorem pt_ni3 {a b c : Int} {ja jb jc} (he : PED X e T) (hm : behindInMarks .NotIn (.List [.Constant (.int a) ja p1, .Constant (.int b) jb p2, .Constant (.int c) jc p3] p4) = false := by rfl) :
    PTD X (.Compare e [.NotIn] [.List [.Constant (.int a) ja p1, .Constant (.int b) jb p2, .Constant (.int c) jc p3] p4] pos) (dB (dNi3 a b c T)) :=
  pt_imp (pt_cmpR op_notIn_seq he (pe_lst (pa_cons pe_int (pa_cons pe_int (pa_cons pe_int pa_nil)))) hm) fun σ H Q h => dB_ok (fun σ H Q ⟨B, ρ, QD, k, r, h, p⟩ => by
    refine ⟨B, ρ, _, k, r, h, fun v H1 s e1 rv q => ?_⟩
    refine ⟨szL (show 3 ≤ 1000000 by decide), fun l hl => ?_⟩
    cases s with
    | d y =>
      cases y with
      | int n =>
        rw [Rp.int_inv rv]
        refine ⟨l, _, rfl, .inl (SqL.of upd_same), rfl, rfl, ?_⟩
        have ei : inV (.int n) [V.int a, V.int b, V.int c] = decide (n ∈ [a, b, c]) := inV_int n [a, b, c]
        rw [ei]
        exact p.da (e1.trans (Keep.new hl)) (.bl _) q
      | _ => exact q.elim
    | _ => exact q.elim) h
/-- a source's int -/
@[simp] def dIxS (i : Nat) (ρ : DE) (Q : S → Prop) : Prop := match ρ[i]? with
  | some (some .src) => ∀ n : Int, Q (.d (.int n))
  | _ => False
@[simp] def dSetS (i : Nat) (T : TDE) (DD : EndsD) (ρ : DE) : Prop := match ρ[i]? with
  | some (some .src) => T ρ fun s => (match s with
    | .d (.int _) => DD.nx ρ
    | _ => False)
  | _ => False
@[simp] def dSrc3 (Ta Tb Tc : TDE) (ρ : DE) (Q : S → Prop) : Prop := Ta ρ fun a => Tb ρ fun b => Tc ρ fun c => match a, b, c with
  | .d (.int _), .d (.int _), .d (.int _) => Q .src
  | _, _, _ => False
theorem pd_ixS (i : Nat) {x : Str} {k : Int} {p1 p2 : Pos} {j} (hk : k = 0 ∨ k = 1 ∨ k = 2 := by decide) (hN : X.N[i]? = some x := by rfl) (hv : Vis X.env.scope x := by first | exact Or.inl rfl | exact Or.inr (Or.inl rfl) | exact Or.inr (Or.inr rfl)) (hd : (x == ("__debug__" : Str)) = false := by decide +kernel)
    (hcd : (x == ("__classdict__" : Str)) = false := by decide +kernel) (hs : PlainIx (.Constant (.int k) j p2) := by intro _ _; rfl) : PED X (.Subscript (.Name x p1) (.Constant (.int k) j p2) pos) (dIxS i) :=
  pe_imp (pe_ix ix_list (pe_var (i := i) hN hv hd hcd) pe_int hs) fun σ H Q ⟨B, ρ, QD, kk, r, h, p⟩ => by
    unfold dIxS at h
    split at h
    · rename_i e
      obtain ⟨v, e1, a, o, rfl, e2, c, f, n, rfl⟩ := r.rep i _ e
      rcases hk with rfl | rfl | rfl
      · exact ⟨.ref a, e1, a, _, _, .int c, rfl, rfl, SqL.of e2, rfl, p.d (.int _) (h c)⟩
      · exact ⟨.ref a, e1, a, _, _, .int f, rfl, rfl, SqL.of e2, rfl, p.d (.int _) (h f)⟩
      · exact ⟨.ref a, e1, a, _, _, .int n, rfl, rfl, SqL.of e2, rfl, p.d (.int _) (h n)⟩
    · exact h.elim
theorem psd_setS (i : Nat) {x : Str} {k : Int} {p1 p2 tpos : Pos} {j} (he : PED X e T) (hk : k = 0 ∨ k = 1 ∨ k = 2 := by decide) (hN : X.N[i]? = some x := by rfl) (hv : Vis X.env.scope x := by first | exact Or.inl rfl | exact Or.inr (Or.inl rfl) | exact Or.inr (Or.inr rfl)) (hd : (x == ("__debug__" : Str)) = false := by decide +kernel)
    (hcd : (x == ("__classdict__" : Str)) = false := by decide +kernel)
    (ha : ∀ v, assign (.Subscript (.Name x p1) (.Constant (.int k) j p2) tpos) X.env v = (do
      let ov ← holding [v] (eval (.Name x p1) X.env)
      let iv ← holding [v, ov] (eval (.Constant (.int k) j p2) X.env)
      standAt tpos
      holding [v, ov, iv] (setItem ov iv v)
      release [v, ov, iv] []) := by intro _; rfl) (hs : swapsWithSole [.Subscript (.Name x p1) (.Constant (.int k) j p2) tpos] e pos.line X.env = pure false := by rfl) (hw : swappedStores [.Subscript (.Name x p1) (.Constant (.int k) j p2) tpos] e X.env = pure none := by rfl)
    (h1 : (assignEach [.Subscript (.Name x p1) (.Constant (.int k) j p2) tpos] X.env).map (·.2) = [assign (.Subscript (.Name x p1) (.Constant (.int k) j p2) tpos) X.env] := by rfl) :
    PSD X (.Assign [.Subscript (.Name x p1) (.Constant (.int k) j p2) tpos] e pos) (dSetS i T) :=
  ps_imp (ps_asg he (pg_sub (pe_var (i := i) hN hv hd hcd) pe_int set_list ha) hs hw h1) fun D σ H ⟨B, ρ, DD, kk, r, h, p⟩ => by
    unfold dSetS at h
    split at h
    · rename_i ei
      refine ⟨B, ρ, _, kk, r, h, fun v H1 s e1 rv q => ?_⟩
      cases s with
      | d y =>
        cases y with
        | int m =>
          obtain ⟨w, e2, a, o, rfl, e3, c, f, n, rfl⟩ := (r.mono e1).rep i _ ei
          rw [Rp.int_inv rv]
          have fin : ∀ o', isSrc o' → D.nx σ (upd H1 a o') := fun o' so => by
            have k1 : Keep H1 (upd H1 a o') := fun b u e => by
              by_cases hb : b = a
              · subst hb
                rw [e3] at e; cases e
                exact .inr ⟨⟨c, f, n, rfl⟩, o', upd_same, so⟩
              · exact .inl (by rw [upd_ne hb]; exact e)
            exact p.nx σ _ ρ ((kk.trans e1).trans k1) ((r.mono e1).mono k1) q
          rcases hk with rfl | rfl | rfl
          · exact ⟨.ref a, e2, a, [.int c, .int f, .int n], _, 0, rfl, rfl, e3, rfl, fin _ ⟨m, f, n, rfl⟩⟩
          · exact ⟨.ref a, e2, a, [.int c, .int f, .int n], _, 1, rfl, rfl, e3, rfl, fin _ ⟨c, m, n, rfl⟩⟩
          · exact ⟨.ref a, e2, a, [.int c, .int f, .int n], _, 2, rfl, rfl, e3, rfl, fin _ ⟨c, f, m, rfl⟩⟩
        | _ => exact q.elim
      | _ => exact q.elim
    · exact h.elim
theorem pd_src3 {a b c : Expr} {Ta Tb Tc : TDE} (ha : PED X a Ta) (hb : PED X b Tb) (hc : PED X c Tc) (h1 : starEach [a, b, c] X.env = (false, eval a X.env) :: starEach [b, c] X.env := by rfl) (h2 : starEach [b, c] X.env = (false, eval b X.env) :: starEach [c] X.env := by rfl)
    (h3 : starEach [c] X.env = (false, eval c X.env) :: starEach [] X.env := by rfl) : PED X (.List [a, b, c] pos) (dSrc3 Ta Tb Tc) :=
  pe_imp (pe_lst (pa_cons ha (pa_cons hb (pa_cons hc pa_nil h3) h2) h1)) fun σ H Q ⟨B, ρ, QD, k, r, h, p⟩ => by
    refine ⟨B, ρ, _, k, r, h, fun v H1 s e1 rv q => ⟨B, ρ, _, k.trans e1, r.mono e1, q, fun w H2 t e2 rw' q => ⟨B, ρ, _, (k.trans e1).trans e2, (r.mono e1).mono e2, q, fun u H3 y e3 ru q => ?_⟩⟩⟩
    cases s with
    | d s =>
      cases s with
      | int s =>
        cases t with
        | d t =>
          cases t with
          | int t =>
            cases y with
            | d y =>
              cases y with
              | int y =>
                refine ⟨szL (show 3 ≤ 1000000 by decide), fun l hl => ?_⟩
                refine p _ _ .src (((e1.trans e2).trans e3).trans (Keep.new hl)) ⟨l, _, rfl, upd_same, ⟨s, t, y, ?_⟩⟩ q
                rw [Rp.int_inv rv, Rp.int_inv rw', Rp.int_inv ru]
              | _ => exact q.elim
            | _ => exact q.elim
          | _ => exact q.elim
        | _ => exact q.elim
      | _ => exact q.elim
    | _ => exact q.elim
end
end Pk

/-! ## G0 -/
set_option Elab.async false
set_option linter.all false
set_option maxRecDepth 100000
set_option maxHeartbeats 4000000
namespace Pk
open PySem PySem.Spec PyProof.Rows L2
def N_no : List Str := ["formula"]
theorem sc_no : FnScope N_no ["formula"] (defScope (top 11)) := ⟨rfl, rfl, rfl, by decide +kernel, rfl, by decide +kernel, by decide +kernel⟩
def T_no : TDS := (dSeq (dIf (dB (d2 fEq (d2 fIx (dVar 0) (dC (.d (.int 0)))) (dC (.d (.str "true"))))) (dRet (dC (.d (.tup [.str "false"])))) dNext)
 (dSeq (dIf (dB (d2 fEq (d2 fIx (dVar 0) (dC (.d (.int 0)))) (dC (.d (.str "false"))))) (dRet (dC (.d (.tup [.str "true"])))) dNext)
 (dSeq (dIf (dB (d2 fEq (d2 fIx (dVar 0) (dC (.d (.int 0)))) (dC (.d (.str "not"))))) (dRet (d2 fIx (dVar 0) (dC (.d (.int 1))))) dNext)
 (dRet (dTup (aCons (dC (.d (.str "not"))) (aCons (dVar 0) aNil)))))))
theorem def_no {P : Program} {w : World} {K : PySem.W.Frag} {mg : Str → Option Value} {base : Heap} (G : Gs K mg) {k : Nat} {sd : SD} (len : ∀ ss Q, sd ss Q → ss.length = 1)
    (pure : ∀ ss Q, sd ss Q → T_no { nx := fun _ => Q (.d .non), rt := Q } (ss.map some ++ List.replicate 0 none)) : DefOk P w K mg base "no" (k + 1) ["formula"] sd := by
  obtain ⟨gt, ht1, ht2⟩ := G.tt
  obtain ⟨gf, hf1, hf2⟩ := G.ff
  refine ok_def G 0 rfl sc_no (fun _ _ _ _ _ _ us hl => match us, hl with | [_], _ => rfl) len fun f cdv A outer s H E hr => ⟨_, ?_, pure⟩
  exact (psd_cons (psd_if (pt_eq hr (pd_ix (pd_var 0) pd_int) pd_str) (psd_one (psd_ret (pd_glob1 hf1 hf2))) psd_nil)
 (psd_cons (psd_if (pt_eq hr (pd_ix (pd_var 0) pd_int) pd_str) (psd_one (psd_ret (pd_glob1 ht1 ht2))) psd_nil)
 (psd_cons (psd_if (pt_eq hr (pd_ix (pd_var 0) pd_int) pd_str) (psd_one (psd_ret (pd_ix (pd_var 0) pd_int))) psd_nil)
 (psd_one (psd_ret (pd_tup (pad_cons pd_str (pad_cons (pd_var 0) pad_nil))))))))
def N_both : List Str := ["formulas", "parts", "formula"]
theorem sc_both : FnScope N_both ["formulas"] (defScope (top 12)) := ⟨rfl, rfl, rfl, by decide +kernel, rfl, by decide +kernel, by decide +kernel⟩
def B_both_1 : TDS := (dSeq (dIf (dB (d2 fEq (d2 fIx (dVar 2) (dC (.d (.int 0)))) (dC (.d (.str "false"))))) (dRet (dC (.d (.tup [.str "false"])))) dNext)
 (dIf (dB (d2 fEq (d2 fIx (dVar 2) (dC (.d (.int 0)))) (dC (.d (.str "and"))))) (dExt 1 (dCB fList (aCons (d2 fIx (dVar 2) (dC (.d (.int 1)))) aNil))) (dIf (dB (d2 fNe (d2 fIx (dVar 2) (dC (.d (.int 0)))) (dC (.d (.str "true"))))) (dApp 1 (dVar 2)) dNext)))
def T_both : TDS := (dSeq (dSet 1 (dLst aNil))
 (dSeq (dForVar 2 0 B_both_1)
 (dSeq (dIf (dB (d2 fEq (dCB fLen (aCons (dVar 1) aNil)) (dC (.d (.int 0))))) (dRet (dC (.d (.tup [.str "true"])))) dNext)
 (dSeq (dIf (dB (d2 fEq (dCB fLen (aCons (dVar 1) aNil)) (dC (.d (.int 1))))) (dRet (d2 fIx (dVar 1) (dC (.d (.int 0))))) dNext)
 (dRet (dTup (aCons (dC (.d (.str "and"))) (aCons (dCB fTuple (aCons (dVar 1) aNil)) aNil))))))))
theorem def_both {P : Program} {w : World} {K : PySem.W.Frag} {mg : Str → Option Value} {base : Heap} (G : Gs K mg) {k : Nat} {sd : SD} (len : ∀ ss Q, sd ss Q → ss.length = 1)
    (pure : ∀ ss Q, sd ss Q → T_both { nx := fun _ => Q (.d .non), rt := Q } (ss.map some ++ List.replicate 2 none)) : DefOk P w K mg base "both" (k + 1) ["formulas"] sd := by
  obtain ⟨gt, ht1, ht2⟩ := G.tt
  obtain ⟨gf, hf1, hf2⟩ := G.ff
  refine ok_def G 1 rfl sc_both (fun _ _ _ _ _ _ us hl => match us, hl with | [_], _ => rfl) len fun f cdv A outer s H E hr => ⟨_, ?_, pure⟩
  exact (psd_cons (psd_set 1 sc_both.nd (pd_lst pad_nil))
 (psd_cons (psd_for_var 2 0 PassesOwn.never (pg_name (i := 2) sc_both.nd rfl (by first | exact Or.inl rfl | exact Or.inr rfl)) (psd_cons (psd_if (pt_eq hr (pd_ix (pd_var 2) pd_int) pd_str) (psd_one (psd_ret (pd_glob1 hf1 hf2))) psd_nil)
 (psd_one (psd_if (pt_eq hr (pd_ix (pd_var 2) pd_int) pd_str) (psd_one (psd_ext 1 (pd_callTy call_list_of fList_ok G.z_list (pad_cons (pd_ix (pd_var 2) pd_int) pad_nil)))) (psd_one (psd_if (pt_ne (pd_ix (pd_var 2) pd_int) pd_str) (psd_one (psd_app 1 (pd_var 2))) psd_nil))))))
 (psd_cons (psd_if (pt_eq hr (pd_callB call_lenAll fLen_ok G.z_len (pad_cons (pd_var 1) pad_nil)) pd_int) (psd_one (psd_ret (pd_glob1 ht1 ht2))) psd_nil)
 (psd_cons (psd_if (pt_eq hr (pd_callB call_lenAll fLen_ok G.z_len (pad_cons (pd_var 1) pad_nil)) pd_int) (psd_one (psd_ret (pd_ix (pd_var 1) pd_int))) psd_nil)
 (psd_one (psd_ret (pd_tup (pad_cons pd_str (pad_cons (pd_callTy call_tuple_of fTuple_ok G.z_tuple (pad_cons (pd_var 1) pad_nil)) pad_nil)))))))))
def N_one_of : List Str := ["formulas", "parts", "formula"]
theorem sc_one_of : FnScope N_one_of ["formulas"] (defScope (top 13)) := ⟨rfl, rfl, rfl, by decide +kernel, rfl, by decide +kernel, by decide +kernel⟩
def B_one_of_1 : TDS := (dSeq (dIf (dB (d2 fEq (d2 fIx (dVar 2) (dC (.d (.int 0)))) (dC (.d (.str "true"))))) (dRet (dC (.d (.tup [.str "true"])))) dNext)
 (dIf (dB (d2 fEq (d2 fIx (dVar 2) (dC (.d (.int 0)))) (dC (.d (.str "or"))))) (dExt 1 (dCB fList (aCons (d2 fIx (dVar 2) (dC (.d (.int 1)))) aNil))) (dIf (dB (d2 fNe (d2 fIx (dVar 2) (dC (.d (.int 0)))) (dC (.d (.str "false"))))) (dApp 1 (dVar 2)) dNext)))
def T_one_of : TDS := (dSeq (dSet 1 (dLst aNil))
 (dSeq (dForVar 2 0 B_one_of_1)
 (dSeq (dIf (dB (d2 fEq (dCB fLen (aCons (dVar 1) aNil)) (dC (.d (.int 0))))) (dRet (dC (.d (.tup [.str "false"])))) dNext)
 (dSeq (dIf (dB (d2 fEq (dCB fLen (aCons (dVar 1) aNil)) (dC (.d (.int 1))))) (dRet (d2 fIx (dVar 1) (dC (.d (.int 0))))) dNext)
 (dRet (dTup (aCons (dC (.d (.str "or"))) (aCons (dCB fTuple (aCons (dVar 1) aNil)) aNil))))))))
theorem def_one_of {P : Program} {w : World} {K : PySem.W.Frag} {mg : Str → Option Value} {base : Heap} (G : Gs K mg) {k : Nat} {sd : SD} (len : ∀ ss Q, sd ss Q → ss.length = 1)
    (pure : ∀ ss Q, sd ss Q → T_one_of { nx := fun _ => Q (.d .non), rt := Q } (ss.map some ++ List.replicate 2 none)) : DefOk P w K mg base "one_of" (k + 1) ["formulas"] sd := by
  obtain ⟨gt, ht1, ht2⟩ := G.tt
  obtain ⟨gf, hf1, hf2⟩ := G.ff
  refine ok_def G 2 rfl sc_one_of (fun _ _ _ _ _ _ us hl => match us, hl with | [_], _ => rfl) len fun f cdv A outer s H E hr => ⟨_, ?_, pure⟩
  exact (psd_cons (psd_set 1 sc_one_of.nd (pd_lst pad_nil))
 (psd_cons (psd_for_var 2 0 PassesOwn.never (pg_name (i := 2) sc_one_of.nd rfl (by first | exact Or.inl rfl | exact Or.inr rfl)) (psd_cons (psd_if (pt_eq hr (pd_ix (pd_var 2) pd_int) pd_str) (psd_one (psd_ret (pd_glob1 ht1 ht2))) psd_nil)
 (psd_one (psd_if (pt_eq hr (pd_ix (pd_var 2) pd_int) pd_str) (psd_one (psd_ext 1 (pd_callTy call_list_of fList_ok G.z_list (pad_cons (pd_ix (pd_var 2) pd_int) pad_nil)))) (psd_one (psd_if (pt_ne (pd_ix (pd_var 2) pd_int) pd_str) (psd_one (psd_app 1 (pd_var 2))) psd_nil))))))
 (psd_cons (psd_if (pt_eq hr (pd_callB call_lenAll fLen_ok G.z_len (pad_cons (pd_var 1) pad_nil)) pd_int) (psd_one (psd_ret (pd_glob1 hf1 hf2))) psd_nil)
 (psd_cons (psd_if (pt_eq hr (pd_callB call_lenAll fLen_ok G.z_len (pad_cons (pd_var 1) pad_nil)) pd_int) (psd_one (psd_ret (pd_ix (pd_var 1) pd_int))) psd_nil)
 (psd_one (psd_ret (pd_tup (pad_cons pd_str (pad_cons (pd_callTy call_tuple_of fTuple_ok G.z_tuple (pad_cons (pd_var 1) pad_nil)) pad_nil)))))))))
def N_at : List Str := ["path", "formula"]
theorem sc_at : FnScope N_at ["path", "formula"] (defScope (top 14)) := ⟨rfl, rfl, rfl, by decide +kernel, rfl, by decide +kernel, by decide +kernel⟩
def T_at : TDS := (dSeq (dIf (dB (d2 fEq (dCB fLen (aCons (dVar 0) aNil)) (dC (.d (.int 0))))) (dRet (dVar 1)) dNext)
 (dSeq (dIf (dB (d2 fEq (d2 fIx (dVar 1) (dC (.d (.int 0)))) (dC (.d (.str "false"))))) (dRet (dC (.d (.tup [.str "false"])))) dNext)
 (dSeq (dIf (dB (d2 fEq (d2 fIx (dVar 1) (dC (.d (.int 0)))) (dC (.d (.str "at"))))) (dRet (dTup (aCons (dC (.d (.str "at"))) (aCons (d2 fAdd (dVar 0) (d2 fIx (dVar 1) (dC (.d (.int 1))))) (aCons (d2 fIx (dVar 1) (dC (.d (.int 2)))) aNil))))) dNext)
 (dRet (dTup (aCons (dC (.d (.str "at"))) (aCons (dVar 0) (aCons (dVar 1) aNil))))))))
theorem def_at {P : Program} {w : World} {K : PySem.W.Frag} {mg : Str → Option Value} {base : Heap} (G : Gs K mg) {k : Nat} {sd : SD} (len : ∀ ss Q, sd ss Q → ss.length = 2)
    (pure : ∀ ss Q, sd ss Q → T_at { nx := fun _ => Q (.d .non), rt := Q } (ss.map some ++ List.replicate 0 none)) : DefOk P w K mg base "at" (k + 1) ["path", "formula"] sd := by
  obtain ⟨gf, hf1, hf2⟩ := G.ff
  refine ok_def G 3 rfl sc_at (fun _ _ _ _ _ _ us hl => match us, hl with | [_, _], _ => rfl) len fun f cdv A outer s H E hr => ⟨_, ?_, pure⟩
  exact (psd_cons (psd_if (pt_eq hr (pd_callB call_lenAll fLen_ok G.z_len (pad_cons (pd_var 0) pad_nil)) pd_int) (psd_one (psd_ret (pd_var 1))) psd_nil)
 (psd_cons (psd_if (pt_eq hr (pd_ix (pd_var 1) pd_int) pd_str) (psd_one (psd_ret (pd_glob1 hf1 hf2))) psd_nil)
 (psd_cons (psd_if (pt_eq hr (pd_ix (pd_var 1) pd_int) pd_str) (psd_one (psd_ret (pd_tup (pad_cons pd_str (pad_cons (pd_add (pd_var 0) (pd_ix (pd_var 1) pd_int)) (pad_cons (pd_ix (pd_var 1) pd_int) pad_nil)))))) psd_nil)
 (psd_one (psd_ret (pd_tup (pad_cons pd_str (pad_cons (pd_var 0) (pad_cons (pd_var 1) pad_nil)))))))))
def N_of_held : List Str := ["formula"]
theorem sc_of_held : FnScope N_of_held ["formula"] (defScope (top 15)) := ⟨rfl, rfl, rfl, by decide +kernel, rfl, by decide +kernel, by decide +kernel⟩
def T_of_held : TDS := (dSeq (dIf (dOrT (dB (d2 fEq (d2 fIx (dVar 0) (dC (.d (.int 0)))) (dC (.d (.str "true"))))) (dB (d2 fEq (d2 fIx (dVar 0) (dC (.d (.int 0)))) (dC (.d (.str "false")))))) (dRet (dVar 0)) dNext)
 (dRet (dTup (aCons (dC (.d (.str "held"))) (aCons (dVar 0) aNil)))))
theorem def_of_held {P : Program} {w : World} {K : PySem.W.Frag} {mg : Str → Option Value} {base : Heap} (G : Gs K mg) {k : Nat} {sd : SD} (len : ∀ ss Q, sd ss Q → ss.length = 1)
    (pure : ∀ ss Q, sd ss Q → T_of_held { nx := fun _ => Q (.d .non), rt := Q } (ss.map some ++ List.replicate 0 none)) : DefOk P w K mg base "of_held" (k + 1) ["formula"] sd := by
  refine ok_def G 4 rfl sc_of_held (fun _ _ _ _ _ _ us hl => match us, hl with | [_], _ => rfl) len fun f cdv A outer s H E hr => ⟨_, ?_, pure⟩
  exact (psd_cons (psd_if (PW.pt (pwd_or (pt_eq hr (pd_ix (pd_var 0) pd_int) pd_str) (pwd_or1 (pt_eq hr (pd_ix (pd_var 0) pd_int) pd_str)))) (psd_one (psd_ret (pd_var 0))) psd_nil)
 (psd_one (psd_ret (pd_tup (pad_cons pd_str (pad_cons (pd_var 0) pad_nil))))))
def N_after_swap : List Str := ["target", "path", "formula"]
theorem sc_after_swap : FnScope N_after_swap ["target", "path", "formula"] (defScope (top 29)) := ⟨rfl, rfl, rfl, by decide +kernel, rfl, by decide +kernel, by decide +kernel⟩
def T_after_swap (s_at s_of_held : SD) : TDS := (dSeq (dIf (dB (d2 fEq (dSl (dVar 1) dNoPart (dPart (dCB fLen (aCons (dVar 0) aNil)))) (dVar 0))) (dRet (dCall s_of_held (aCons (dCall s_at (aCons (dSl (dVar 1) (dPart (dCB fLen (aCons (dVar 0) aNil))) dNoPart) (aCons (dVar 2) aNil))) aNil))) dNext)
 (dRet (dCall s_at (aCons (dVar 1) (aCons (dVar 2) aNil)))))
theorem def_after_swap {P : Program} {w : World} {K : PySem.W.Frag} {mg : Str → Option Value} {base : Heap} (G : Gs K mg) {k : Nat} {k_at k_of_held : Nat} {s_at s_of_held : SD} (h_at : DefOk P w K mg base "at" k_at ["path", "formula"] s_at) (l_at : k_at ≤ k) (h_of_held : DefOk P w K mg base "of_held" k_of_held ["formula"] s_of_held) (l_of_held : k_of_held ≤ k) {sd : SD} (len : ∀ ss Q, sd ss Q → ss.length = 3)
    (pure : ∀ ss Q, sd ss Q → T_after_swap s_at s_of_held { nx := fun _ => Q (.d .non), rt := Q } (ss.map some ++ List.replicate 0 none)) : DefOk P w K mg base "after_swap" (k + 1) ["target", "path", "formula"] sd := by
  refine ok_def G 5 rfl sc_after_swap (fun _ _ _ _ _ _ us hl => match us, hl with | [_, _, _], _ => rfl) len fun f cdv A outer s H E hr => ⟨_, ?_, pure⟩
  exact (psd_cons (psd_if (pt_eq hr (pd_slice (pd_var 1) pod_none (pod_some (pd_callB call_lenAll fLen_ok G.z_len (pad_cons (pd_var 0) pad_nil)))) (pd_var 0)) (psd_one (psd_ret (pd_call h_of_held (hr.mono l_of_held) (pad_cons (pd_call h_at (hr.mono l_at) (pad_cons (pd_slice (pd_var 1) (pod_some (pd_callB call_lenAll fLen_ok G.z_len (pad_cons (pd_var 0) pad_nil))) pod_none) (pad_cons (pd_var 2) pad_nil))) pad_nil)))) psd_nil)
 (psd_one (psd_ret (pd_call h_at (hr.mono l_at) (pad_cons (pd_var 1) (pad_cons (pd_var 2) pad_nil))))))
def N_touched : List Str := ["primitive"]
theorem sc_touched : FnScope N_touched ["primitive"] (defScope (top 34)) := ⟨rfl, rfl, rfl, by decide +kernel, rfl, by decide +kernel, by decide +kernel⟩
def T_touched : TDS := (dSeq (dIf (dOrT (dB (d2 fEq (d2 fIx (dVar 0) (dC (.d (.int 0)))) (dC (.d (.str "put"))))) (dB (d2 fEq (d2 fIx (dVar 0) (dC (.d (.int 0)))) (dC (.d (.str "take")))))) (dRet (dSl (d2 fIx (dVar 0) (dC (.d (.int 1)))) dNoPart (dPart (dNeg (dC (.d (.int 1))))))) dNext)
 (dRet (d2 fIx (dVar 0) (dC (.d (.int 1))))))
theorem def_touched {P : Program} {w : World} {K : PySem.W.Frag} {mg : Str → Option Value} {base : Heap} (G : Gs K mg) {k : Nat} {sd : SD} (len : ∀ ss Q, sd ss Q → ss.length = 1)
    (pure : ∀ ss Q, sd ss Q → T_touched { nx := fun _ => Q (.d .non), rt := Q } (ss.map some ++ List.replicate 0 none)) : DefOk P w K mg base "touched" (k + 1) ["primitive"] sd := by
  refine ok_def G 6 rfl sc_touched (fun _ _ _ _ _ _ us hl => match us, hl with | [_], _ => rfl) len fun f cdv A outer s H E hr => ⟨_, ?_, pure⟩
  exact (psd_cons (psd_if (PW.pt (pwd_or (pt_eq hr (pd_ix (pd_var 0) pd_int) pd_str) (pwd_or1 (pt_eq hr (pd_ix (pd_var 0) pd_int) pd_str)))) (psd_one (psd_ret (pd_slice (pd_ix (pd_var 0) pd_int) pod_none (pod_some (pd_neg pd_int))))) psd_nil)
 (psd_one (psd_ret (pd_ix (pd_var 0) pd_int))))
def N_divided : List Str := ["primitive", "path", "token", "formula", "rest", "parts", "index"]
theorem sc_divided : FnScope N_divided ["primitive", "path", "token", "formula"] (defScope (top 35)) := ⟨rfl, rfl, rfl, by decide +kernel, rfl, by decide +kernel, by decide +kernel⟩
def E_divided_1 (s_at : SD) : TDE := (dCall s_at (aCons (d2 fAdd (dVar 1) (dTup (aCons (dVar 6) aNil))) (aCons (d2 fIx (dVar 3) (dC (.d (.int 2)))) aNil)))
def T_divided (s_at s_both s_after_at : SD) : TDS := (dSeq (dIf (dAndT (dB (d2 fEq (d2 fIx (dVar 3) (dC (.d (.int 0)))) (dC (.d (.str "each_field"))))) (dAndT (dB (dIsi "str" (dVar 2))) (dB (d2 (fIn true) (dVar 2) (d2 fIx (dVar 3) (dC (.d (.int 1)))))))) (dSeq (dSet 4 (dTup (aCons (dC (.d (.str "each_field"))) (aCons (d2 fAdd (d2 fIx (dVar 3) (dC (.d (.int 1)))) (dTup (aCons (dVar 2) aNil))) (aCons (d2 fIx (dVar 3) (dC (.d (.int 2)))) aNil)))))
 (dRet (dCall s_both (aCons (dLst (aCons (dCall s_after_at (aCons (dVar 0) (aCons (d2 fAdd (dVar 1) (dTup (aCons (dVar 2) aNil))) (aCons (d2 fIx (dVar 3) (dC (.d (.int 2)))) aNil)))) (aCons (dCall s_at (aCons (dVar 1) (aCons (dVar 4) aNil))) aNil))) aNil)))) dNext)
 (dSeq (dIf (dAndT (dB (d2 fEq (d2 fIx (dVar 3) (dC (.d (.int 0)))) (dC (.d (.str "each_item"))))) (dAndT (dB (dIsi "int" (dVar 2))) (dB (d2 fGe (dVar 2) (d2 fIx (dVar 3) (dC (.d (.int 1)))))))) (dSeq (dSet 5 (dLc 6 (iRng2D (aCons (d2 fIx (dVar 3) (dC (.d (.int 1)))) (aCons (dVar 2) aNil))) dYes (E_divided_1 s_at)))
 (dSeq (dApp 5 (dCall s_after_at (aCons (dVar 0) (aCons (d2 fAdd (dVar 1) (dTup (aCons (dVar 2) aNil))) (aCons (d2 fIx (dVar 3) (dC (.d (.int 2)))) aNil)))))
 (dSeq (dApp 5 (dCall s_at (aCons (dVar 1) (aCons (dTup (aCons (dC (.d (.str "each_item"))) (aCons (d2 fAdd (dVar 2) (dC (.d (.int 1)))) (aCons (d2 fIx (dVar 3) (dC (.d (.int 2)))) aNil)))) aNil))))
 (dRet (dCall s_both (aCons (dVar 5) aNil)))))) dNext)
 (dRet (dCall s_at (aCons (dVar 1) (aCons (dVar 3) aNil))))))
theorem def_divided {P : Program} {w : World} {K : PySem.W.Frag} {mg : Str → Option Value} {base : Heap} (G : Gs K mg) {k : Nat} {k_at k_both k_after_at : Nat} {s_at s_both s_after_at : SD} (h_at : DefOk P w K mg base "at" k_at ["path", "formula"] s_at) (l_at : k_at ≤ k) (h_both : DefOk P w K mg base "both" k_both ["formulas"] s_both) (l_both : k_both ≤ k) (h_after_at : DefOk P w K mg base "after_at" k_after_at ["primitive", "path", "formula"] s_after_at) (l_after_at : k_after_at ≤ k) {sd : SD} (len : ∀ ss Q, sd ss Q → ss.length = 4)
    (pure : ∀ ss Q, sd ss Q → T_divided s_at s_both s_after_at { nx := fun _ => Q (.d .non), rt := Q } (ss.map some ++ List.replicate 3 none)) : DefOk P w K mg base "divided" (k + 1) ["primitive", "path", "token", "formula"] sd := by
  refine ok_def G 7 rfl sc_divided (fun _ _ _ _ _ _ us hl => match us, hl with | [_, _, _, _], _ => rfl) len fun f cdv A outer s H E hr => ⟨_, ?_, pure⟩
  exact (psd_cons (psd_if (PW.pt (pwd_and (pt_eq hr (pd_ix (pd_var 3) pd_int) pd_str) (pwd_and (pt_e (pd_isi G.z_isinstance G.z_str (pd_var 2))) (pwd_and1 (pt_ni (pd_var 2) (pd_ix (pd_var 3) pd_int)))))) (psd_cons (psd_set 4 sc_divided.nd (pd_tup (pad_cons pd_str (pad_cons (pd_add (pd_ix (pd_var 3) pd_int) (pd_tup (pad_cons (pd_var 2) pad_nil))) (pad_cons (pd_ix (pd_var 3) pd_int) pad_nil)))))
 (psd_one (psd_ret (pd_call h_both (hr.mono l_both) (pad_cons (pd_lst (pad_cons (pd_call h_after_at (hr.mono l_after_at) (pad_cons (pd_var 0) (pad_cons (pd_add (pd_var 1) (pd_tup (pad_cons (pd_var 2) pad_nil))) (pad_cons (pd_ix (pd_var 3) pd_int) pad_nil)))) (pad_cons (pd_call h_at (hr.mono l_at) (pad_cons (pd_var 1) (pad_cons (pd_var 4) pad_nil))) pad_nil))) pad_nil))))) psd_nil)
 (psd_cons (psd_if (PW.pt (pwd_and (pt_eq hr (pd_ix (pd_var 3) pd_int) pd_str) (pwd_and (pt_e (pd_isi G.z_isinstance G.z_int (pd_var 2))) (pwd_and1 (pt_ge (pd_var 2) (pd_ix (pd_var 3) pd_int)))))) (psd_cons (psd_setLc 6 5 sc_divided.nd (pid_range2 G.z_range (pad_cons (pd_ix (pd_var 3) pd_int) (pad_cons (pd_var 2) pad_nil))) (blkOk_by (own := [(("index" : Str), 6)]) (N := N_divided) (sc := defScope (top 35)) (by decide +kernel)) (fun _ _ _ _ _ => pg_name (i := 6) sc_divided.nd rfl (Or.inl rfl)) (fun _ _ _ _ _ => ptsd_nil) (fun _ _ _ _ _ => (pd_call h_at (hr.mono l_at) (pad_cons (pd_add (pd_var 1) (pd_tup (pad_cons (pd_var 6) pad_nil))) (pad_cons (pd_ix (pd_var 3) pd_int) pad_nil)))) (sw_true rfl rfl rfl (by decide +kernel)))
 (psd_cons (psd_app 5 (pd_call h_after_at (hr.mono l_after_at) (pad_cons (pd_var 0) (pad_cons (pd_add (pd_var 1) (pd_tup (pad_cons (pd_var 2) pad_nil))) (pad_cons (pd_ix (pd_var 3) pd_int) pad_nil)))))
 (psd_cons (psd_app 5 (pd_call h_at (hr.mono l_at) (pad_cons (pd_var 1) (pad_cons (pd_tup (pad_cons pd_str (pad_cons (pd_add (pd_var 2) pd_int) (pad_cons (pd_ix (pd_var 3) pd_int) pad_nil)))) pad_nil))))
 (psd_one (psd_ret (pd_call h_both (hr.mono l_both) (pad_cons (pd_var 5) pad_nil))))))) psd_nil)
 (psd_one (psd_ret (pd_call h_at (hr.mono l_at) (pad_cons (pd_var 1) (pad_cons (pd_var 3) pad_nil)))))))
def N_after_simple : List Str := ["primitive", "path", "formula", "word", "place", "target"]
theorem sc_after_simple : FnScope N_after_simple ["primitive", "path", "formula"] (defScope (top 37)) := ⟨rfl, rfl, rfl, by decide +kernel, rfl, by decide +kernel, by decide +kernel⟩
def T_after_simple (s_after_swap s_divided s_touched s_at : SD) : TDS := (dSeq (dSet 3 (d2 fIx (dVar 0) (dC (.d (.int 0)))))
 (dSeq (dIf (dOrT (dB (d2 fEq (dVar 3) (dC (.d (.str "load"))))) (dOrT (dB (d2 fEq (dVar 3) (dC (.d (.str "look"))))) (dB (d2 fEq (dVar 3) (dC (.d (.str "check"))))))) (dRet (dCall s_at (aCons (dVar 1) (aCons (dVar 2) aNil)))) dNext)
 (dSeq (dSet 4 (dCall s_touched (aCons (dVar 0) aNil)))
 (dSeq (dIf (dAndT (dB (d2 fLt (dCB fLen (aCons (dVar 1) aNil)) (dCB fLen (aCons (dVar 4) aNil)))) (dB (d2 fEq (dSl (dVar 4) dNoPart (dPart (dCB fLen (aCons (dVar 1) aNil)))) (dVar 1)))) (dRet (dCall s_divided (aCons (dVar 0) (aCons (dVar 1) (aCons (d2 fIx (dVar 4) (dCB fLen (aCons (dVar 1) aNil))) (aCons (dVar 2) aNil)))))) dNext)
 (dSeq (dSet 5 (d2 fIx (dVar 0) (dC (.d (.int 1)))))
 (dSeq (dIf (dB (d2 fEq (dVar 3) (dC (.d (.str "put"))))) dNever dNext)
 (dSeq (dIf (dB (d2 fEq (dVar 3) (dC (.d (.str "take"))))) dNever dNext)
 (dSeq (dIf (dB (d2 fEq (dVar 3) (dC (.d (.str "swap"))))) (dRet (dCall s_after_swap (aCons (dVar 5) (aCons (dVar 1) (aCons (dVar 2) aNil))))) dNext)
 (dSeq (dIf (dB (d2 fEq (dVar 3) (dC (.d (.str "increase"))))) dNever dNext)
 dNever)))))))))
theorem def_after_simple {P : Program} {w : World} {K : PySem.W.Frag} {mg : Str → Option Value} {base : Heap} (G : Gs K mg) {k : Nat} {k_after_swap k_divided k_touched k_at : Nat} {s_after_swap s_divided s_touched s_at : SD} (h_after_swap : DefOk P w K mg base "after_swap" k_after_swap ["target", "path", "formula"] s_after_swap) (l_after_swap : k_after_swap ≤ k) (h_divided : DefOk P w K mg base "divided" k_divided ["primitive", "path", "token", "formula"] s_divided) (l_divided : k_divided ≤ k) (h_touched : DefOk P w K mg base "touched" k_touched ["primitive"] s_touched) (l_touched : k_touched ≤ k) (h_at : DefOk P w K mg base "at" k_at ["path", "formula"] s_at) (l_at : k_at ≤ k) {sd : SD} (len : ∀ ss Q, sd ss Q → ss.length = 3)
    (pure : ∀ ss Q, sd ss Q → T_after_simple s_after_swap s_divided s_touched s_at { nx := fun _ => Q (.d .non), rt := Q } (ss.map some ++ List.replicate 3 none)) : DefOk P w K mg base "after_simple" (k + 1) ["primitive", "path", "formula"] sd := by
  refine ok_def G 8 rfl sc_after_simple (fun _ _ _ _ _ _ us hl => match us, hl with | [_, _, _], _ => rfl) len fun f cdv A outer s H E hr => ⟨_, ?_, pure⟩
  exact (psd_cons (psd_set 3 sc_after_simple.nd (pd_ix (pd_var 0) pd_int))
 (psd_cons (psd_if (PW.pt (pwd_or (pt_eq hr (pd_var 3) pd_str) (pwd_or (pt_eq hr (pd_var 3) pd_str) (pwd_or1 (pt_eq hr (pd_var 3) pd_str))))) (psd_one (psd_ret (pd_call h_at (hr.mono l_at) (pad_cons (pd_var 1) (pad_cons (pd_var 2) pad_nil))))) psd_nil)
 (psd_cons (psd_set 4 sc_after_simple.nd (pd_call h_touched (hr.mono l_touched) (pad_cons (pd_var 0) pad_nil)))
 (psd_cons (psd_if (PW.pt (pwd_and (pt_lt (pd_callB call_lenAll fLen_ok G.z_len (pad_cons (pd_var 1) pad_nil)) (pd_callB call_lenAll fLen_ok G.z_len (pad_cons (pd_var 4) pad_nil))) (pwd_and1 (pt_eq hr (pd_slice (pd_var 4) pod_none (pod_some (pd_callB call_lenAll fLen_ok G.z_len (pad_cons (pd_var 1) pad_nil)))) (pd_var 1))))) (psd_one (psd_ret (pd_call h_divided (hr.mono l_divided) (pad_cons (pd_var 0) (pad_cons (pd_var 1) (pad_cons (pd_ix (pd_var 4) (pd_callB call_lenAll fLen_ok G.z_len (pad_cons (pd_var 1) pad_nil))) (pad_cons (pd_var 2) pad_nil))))))) psd_nil)
 (psd_cons (psd_set 5 sc_after_simple.nd (pd_ix (pd_var 0) pd_int))
 (psd_cons (psd_if (pt_eq hr (pd_var 3) pd_str) (psd_one psd_never) psd_nil)
 (psd_cons (psd_if (pt_eq hr (pd_var 3) pd_str) (psd_one psd_never) psd_nil)
 (psd_cons (psd_if (pt_eq hr (pd_var 3) pd_str) (psd_one (psd_ret (pd_call h_after_swap (hr.mono l_after_swap) (pad_cons (pd_var 5) (pad_cons (pd_var 1) (pad_cons (pd_var 2) pad_nil)))))) psd_nil)
 (psd_cons (psd_if (pt_eq hr (pd_var 3) pd_str) (psd_one psd_never) psd_nil)
 (psd_one psd_never))))))))))
def N_after_there : List Str := ["primitive", "path", "formula", "word", "part"]
theorem sc_after_there : FnScope N_after_there ["primitive", "path", "formula"] (defScope (top 38)) := ⟨rfl, rfl, rfl, by decide +kernel, rfl, by decide +kernel, by decide +kernel⟩
def E_after_there_1 (s_after_there : SD) : TDE := (dCall s_after_there (aCons (dVar 0) (aCons (dVar 1) (aCons (dVar 4) aNil))))
def E_after_there_2 (s_after_there : SD) : TDE := (dCall s_after_there (aCons (dVar 0) (aCons (dVar 1) (aCons (dVar 4) aNil))))
def T_after_there (s_after_simple s_after_at s_after_there s_one_of s_both s_no : SD) : TDS := (dSeq (dSet 3 (d2 fIx (dVar 2) (dC (.d (.int 0)))))
 (dSeq (dIf (dB (d2 fEq (dVar 3) (dC (.d (.str "false"))))) (dRet (dC (.d (.tup [.str "false"])))) dNext)
 (dSeq (dIf (dB (d2 fEq (dVar 3) (dC (.d (.str "not"))))) (dRet (dCall s_no (aCons (dCall s_after_there (aCons (dVar 0) (aCons (dVar 1) (aCons (d2 fIx (dVar 2) (dC (.d (.int 1)))) aNil)))) aNil))) dNext)
 (dSeq (dIf (dB (d2 fEq (dVar 3) (dC (.d (.str "and"))))) (dRet (dCall s_both (aCons (dLc 4 (iTupD (d2 fIx (dVar 2) (dC (.d (.int 1))))) dYes (E_after_there_2 s_after_there)) aNil))) dNext)
 (dSeq (dIf (dB (d2 fEq (dVar 3) (dC (.d (.str "or"))))) (dRet (dCall s_one_of (aCons (dLc 4 (iTupD (d2 fIx (dVar 2) (dC (.d (.int 1))))) dYes (E_after_there_1 s_after_there)) aNil))) dNext)
 (dSeq (dIf (dB (d2 fEq (dVar 3) (dC (.d (.str "at"))))) (dRet (dCall s_after_at (aCons (dVar 0) (aCons (d2 fAdd (dVar 1) (d2 fIx (dVar 2) (dC (.d (.int 1))))) (aCons (d2 fIx (dVar 2) (dC (.d (.int 2)))) aNil))))) dNext)
 (dRet (dCall s_after_simple (aCons (dVar 0) (aCons (dVar 1) (aCons (dVar 2) aNil)))))))))))
theorem def_after_there {P : Program} {w : World} {K : PySem.W.Frag} {mg : Str → Option Value} {base : Heap} (G : Gs K mg) {k : Nat} {k_after_simple k_after_at k_after_there k_one_of k_both k_no : Nat} {s_after_simple s_after_at s_after_there s_one_of s_both s_no : SD} (h_after_simple : DefOk P w K mg base "after_simple" k_after_simple ["primitive", "path", "formula"] s_after_simple) (l_after_simple : k_after_simple ≤ k) (h_after_at : DefOk P w K mg base "after_at" k_after_at ["primitive", "path", "formula"] s_after_at) (l_after_at : k_after_at ≤ k) (h_after_there : DefOk P w K mg base "after_there" k_after_there ["primitive", "path", "formula"] s_after_there) (l_after_there : k_after_there ≤ k) (h_one_of : DefOk P w K mg base "one_of" k_one_of ["formulas"] s_one_of) (l_one_of : k_one_of ≤ k) (h_both : DefOk P w K mg base "both" k_both ["formulas"] s_both) (l_both : k_both ≤ k) (h_no : DefOk P w K mg base "no" k_no ["formula"] s_no) (l_no : k_no ≤ k) {sd : SD} (len : ∀ ss Q, sd ss Q → ss.length = 3)
    (pure : ∀ ss Q, sd ss Q → T_after_there s_after_simple s_after_at s_after_there s_one_of s_both s_no { nx := fun _ => Q (.d .non), rt := Q } (ss.map some ++ List.replicate 2 none)) : DefOk P w K mg base "after_there" (k + 1) ["primitive", "path", "formula"] sd := by
  obtain ⟨gf, hf1, hf2⟩ := G.ff
  refine ok_def G 9 rfl sc_after_there (fun _ _ _ _ _ _ us hl => match us, hl with | [_, _, _], _ => rfl) len fun f cdv A outer s H E hr => ⟨_, ?_, pure⟩
  exact (psd_cons (psd_set 3 sc_after_there.nd (pd_ix (pd_var 2) pd_int))
 (psd_cons (psd_if (pt_eq hr (pd_var 3) pd_str) (psd_one (psd_ret (pd_glob1 hf1 hf2))) psd_nil)
 (psd_cons (psd_if (pt_eq hr (pd_var 3) pd_str) (psd_one (psd_ret (pd_call h_no (hr.mono l_no) (pad_cons (pd_call h_after_there (hr.mono l_after_there) (pad_cons (pd_var 0) (pad_cons (pd_var 1) (pad_cons (pd_ix (pd_var 2) pd_int) pad_nil)))) pad_nil)))) psd_nil)
 (psd_cons (psd_if (pt_eq hr (pd_var 3) pd_str) (psd_one (psd_ret (pd_call h_both (hr.mono l_both) (pad_cons (pd_lc 4 sc_after_there.nd (pid_tup (pd_ix (pd_var 2) pd_int)) (blkOk_by (own := [(("part" : Str), 4)]) (N := N_after_there) (sc := defScope (top 38)) (by decide +kernel)) (fun _ _ _ _ _ => pg_name (i := 4) sc_after_there.nd rfl (Or.inl rfl)) (fun _ _ _ _ _ => ptsd_nil) (fun _ _ _ _ _ => (pd_call h_after_there (hr.mono l_after_there) (pad_cons (pd_var 0) (pad_cons (pd_var 1) (pad_cons (pd_var 4) pad_nil)))))) pad_nil)))) psd_nil)
 (psd_cons (psd_if (pt_eq hr (pd_var 3) pd_str) (psd_one (psd_ret (pd_call h_one_of (hr.mono l_one_of) (pad_cons (pd_lc 4 sc_after_there.nd (pid_tup (pd_ix (pd_var 2) pd_int)) (blkOk_by (own := [(("part" : Str), 4)]) (N := N_after_there) (sc := defScope (top 38)) (by decide +kernel)) (fun _ _ _ _ _ => pg_name (i := 4) sc_after_there.nd rfl (Or.inl rfl)) (fun _ _ _ _ _ => ptsd_nil) (fun _ _ _ _ _ => (pd_call h_after_there (hr.mono l_after_there) (pad_cons (pd_var 0) (pad_cons (pd_var 1) (pad_cons (pd_var 4) pad_nil)))))) pad_nil)))) psd_nil)
 (psd_cons (psd_if (pt_eq hr (pd_var 3) pd_str) (psd_one (psd_ret (pd_call h_after_at (hr.mono l_after_at) (pad_cons (pd_var 0) (pad_cons (pd_add (pd_var 1) (pd_ix (pd_var 2) pd_int)) (pad_cons (pd_ix (pd_var 2) pd_int) pad_nil)))))) psd_nil)
 (psd_one (psd_ret (pd_call h_after_simple (hr.mono l_after_simple) (pad_cons (pd_var 0) (pad_cons (pd_var 1) (pad_cons (pd_var 2) pad_nil))))))))))))
def N_after_at : List Str := ["primitive", "path", "formula"]
theorem sc_after_at : FnScope N_after_at ["primitive", "path", "formula"] (defScope (top 39)) := ⟨rfl, rfl, rfl, by decide +kernel, rfl, by decide +kernel, by decide +kernel⟩
def T_after_at (s_after_there s_after_simple s_both : SD) : TDS := (dRet (dCall s_both (aCons (dLst (aCons (dCall s_after_simple (aCons (dVar 0) (aCons (dVar 1) (aCons (dC (.d (.tup [.str "true"]))) aNil)))) (aCons (dCall s_after_there (aCons (dVar 0) (aCons (dVar 1) (aCons (dVar 2) aNil)))) aNil))) aNil)))
theorem def_after_at {P : Program} {w : World} {K : PySem.W.Frag} {mg : Str → Option Value} {base : Heap} (G : Gs K mg) {k : Nat} {k_after_there k_after_simple k_both : Nat} {s_after_there s_after_simple s_both : SD} (h_after_there : DefOk P w K mg base "after_there" k_after_there ["primitive", "path", "formula"] s_after_there) (l_after_there : k_after_there ≤ k) (h_after_simple : DefOk P w K mg base "after_simple" k_after_simple ["primitive", "path", "formula"] s_after_simple) (l_after_simple : k_after_simple ≤ k) (h_both : DefOk P w K mg base "both" k_both ["formulas"] s_both) (l_both : k_both ≤ k) {sd : SD} (len : ∀ ss Q, sd ss Q → ss.length = 3)
    (pure : ∀ ss Q, sd ss Q → T_after_at s_after_there s_after_simple s_both { nx := fun _ => Q (.d .non), rt := Q } (ss.map some ++ List.replicate 0 none)) : DefOk P w K mg base "after_at" (k + 1) ["primitive", "path", "formula"] sd := by
  obtain ⟨gt, ht1, ht2⟩ := G.tt
  refine ok_def G 10 rfl sc_after_at (fun _ _ _ _ _ _ us hl => match us, hl with | [_, _, _], _ => rfl) len fun f cdv A outer s H E hr => ⟨_, ?_, pure⟩
  exact (psd_one (psd_ret (pd_call h_both (hr.mono l_both) (pad_cons (pd_lst (pad_cons (pd_call h_after_simple (hr.mono l_after_simple) (pad_cons (pd_var 0) (pad_cons (pd_var 1) (pad_cons (pd_glob1 ht1 ht2) pad_nil)))) (pad_cons (pd_call h_after_there (hr.mono l_after_there) (pad_cons (pd_var 0) (pad_cons (pd_var 1) (pad_cons (pd_var 2) pad_nil)))) pad_nil))) pad_nil))))
def N_held_before : List Str := ["primitive", "formula", "word"]
theorem sc_held_before : FnScope N_held_before ["primitive", "formula"] (defScope (top 40)) := ⟨rfl, rfl, rfl, by decide +kernel, rfl, by decide +kernel, by decide +kernel⟩
def T_held_before (s_at : SD) : TDS := (dSeq (dSet 2 (d2 fIx (dVar 0) (dC (.d (.int 0)))))
 (dSeq (dIf (dB (d2 fEq (dVar 2) (dC (.d (.str "load"))))) (dSeq dNever
 (dRet (dC (.d (.tup [.str "false"]))))) dNext)
 (dSeq (dIf (dOrT (dB (d2 fEq (dVar 2) (dC (.d (.str "look"))))) (dB (d2 fEq (dVar 2) (dC (.d (.str "take")))))) (dRet (dCall s_at (aCons (d2 fIx (dVar 0) (dC (.d (.int 1)))) (aCons (d2 fIx (dVar 1) (dC (.d (.int 1)))) aNil)))) dNext)
 (dRet (dVar 1)))))
theorem def_held_before {P : Program} {w : World} {K : PySem.W.Frag} {mg : Str → Option Value} {base : Heap} (G : Gs K mg) {k : Nat} {k_at : Nat} {s_at : SD} (h_at : DefOk P w K mg base "at" k_at ["path", "formula"] s_at) (l_at : k_at ≤ k) {sd : SD} (len : ∀ ss Q, sd ss Q → ss.length = 2)
    (pure : ∀ ss Q, sd ss Q → T_held_before s_at { nx := fun _ => Q (.d .non), rt := Q } (ss.map some ++ List.replicate 1 none)) : DefOk P w K mg base "held_before" (k + 1) ["primitive", "formula"] sd := by
  obtain ⟨gf, hf1, hf2⟩ := G.ff
  refine ok_def G 11 rfl sc_held_before (fun _ _ _ _ _ _ us hl => match us, hl with | [_, _], _ => rfl) len fun f cdv A outer s H E hr => ⟨_, ?_, pure⟩
  exact (psd_cons (psd_set 2 sc_held_before.nd (pd_ix (pd_var 0) pd_int))
 (psd_cons (psd_if (pt_eq hr (pd_var 2) pd_str) (psd_cons psd_never
 (psd_one (psd_ret (pd_glob1 hf1 hf2)))) psd_nil)
 (psd_cons (psd_if (PW.pt (pwd_or (pt_eq hr (pd_var 2) pd_str) (pwd_or1 (pt_eq hr (pd_var 2) pd_str)))) (psd_one (psd_ret (pd_call h_at (hr.mono l_at) (pad_cons (pd_ix (pd_var 0) pd_int) (pad_cons (pd_ix (pd_var 1) pd_int) pad_nil))))) psd_nil)
 (psd_one (psd_ret (pd_var 1))))))
def N_rewritten : List Str := ["primitive", "formula", "word", "part"]
theorem sc_rewritten : FnScope N_rewritten ["primitive", "formula"] (defScope (top 41)) := ⟨rfl, rfl, rfl, by decide +kernel, rfl, by decide +kernel, by decide +kernel⟩
def E_rewritten_1 (s_rewritten : SD) : TDE := (dCall s_rewritten (aCons (dVar 0) (aCons (dVar 3) aNil)))
def E_rewritten_2 (s_rewritten : SD) : TDE := (dCall s_rewritten (aCons (dVar 0) (aCons (dVar 3) aNil)))
def T_rewritten (s_after_at s_held_before s_rewritten s_one_of s_both s_no : SD) : TDS := (dSeq (dSet 2 (d2 fIx (dVar 1) (dC (.d (.int 0)))))
 (dSeq (dIf (dB (d2 fEq (dVar 2) (dC (.d (.str "not"))))) (dRet (dCall s_no (aCons (dCall s_rewritten (aCons (dVar 0) (aCons (d2 fIx (dVar 1) (dC (.d (.int 1)))) aNil))) aNil))) dNext)
 (dSeq (dIf (dB (d2 fEq (dVar 2) (dC (.d (.str "and"))))) (dRet (dCall s_both (aCons (dLc 3 (iTupD (d2 fIx (dVar 1) (dC (.d (.int 1))))) dYes (E_rewritten_2 s_rewritten)) aNil))) dNext)
 (dSeq (dIf (dB (d2 fEq (dVar 2) (dC (.d (.str "or"))))) (dRet (dCall s_one_of (aCons (dLc 3 (iTupD (d2 fIx (dVar 1) (dC (.d (.int 1))))) dYes (E_rewritten_1 s_rewritten)) aNil))) dNext)
 (dSeq (dIf (dB (d2 fEq (dVar 2) (dC (.d (.str "held"))))) (dRet (dCall s_held_before (aCons (dVar 0) (aCons (dVar 1) aNil)))) dNext)
 (dRet (dCall s_after_at (aCons (dVar 0) (aCons (dTup aNil) (aCons (dVar 1) aNil))))))))))
theorem def_rewritten {P : Program} {w : World} {K : PySem.W.Frag} {mg : Str → Option Value} {base : Heap} (G : Gs K mg) {k : Nat} {k_after_at k_held_before k_rewritten k_one_of k_both k_no : Nat} {s_after_at s_held_before s_rewritten s_one_of s_both s_no : SD} (h_after_at : DefOk P w K mg base "after_at" k_after_at ["primitive", "path", "formula"] s_after_at) (l_after_at : k_after_at ≤ k) (h_held_before : DefOk P w K mg base "held_before" k_held_before ["primitive", "formula"] s_held_before) (l_held_before : k_held_before ≤ k) (h_rewritten : DefOk P w K mg base "rewritten" k_rewritten ["primitive", "formula"] s_rewritten) (l_rewritten : k_rewritten ≤ k) (h_one_of : DefOk P w K mg base "one_of" k_one_of ["formulas"] s_one_of) (l_one_of : k_one_of ≤ k) (h_both : DefOk P w K mg base "both" k_both ["formulas"] s_both) (l_both : k_both ≤ k) (h_no : DefOk P w K mg base "no" k_no ["formula"] s_no) (l_no : k_no ≤ k) {sd : SD} (len : ∀ ss Q, sd ss Q → ss.length = 2)
    (pure : ∀ ss Q, sd ss Q → T_rewritten s_after_at s_held_before s_rewritten s_one_of s_both s_no { nx := fun _ => Q (.d .non), rt := Q } (ss.map some ++ List.replicate 2 none)) : DefOk P w K mg base "rewritten" (k + 1) ["primitive", "formula"] sd := by
  refine ok_def G 12 rfl sc_rewritten (fun _ _ _ _ _ _ us hl => match us, hl with | [_, _], _ => rfl) len fun f cdv A outer s H E hr => ⟨_, ?_, pure⟩
  exact (psd_cons (psd_set 2 sc_rewritten.nd (pd_ix (pd_var 1) pd_int))
 (psd_cons (psd_if (pt_eq hr (pd_var 2) pd_str) (psd_one (psd_ret (pd_call h_no (hr.mono l_no) (pad_cons (pd_call h_rewritten (hr.mono l_rewritten) (pad_cons (pd_var 0) (pad_cons (pd_ix (pd_var 1) pd_int) pad_nil))) pad_nil)))) psd_nil)
 (psd_cons (psd_if (pt_eq hr (pd_var 2) pd_str) (psd_one (psd_ret (pd_call h_both (hr.mono l_both) (pad_cons (pd_lc 3 sc_rewritten.nd (pid_tup (pd_ix (pd_var 1) pd_int)) (blkOk_by (own := [(("part" : Str), 3)]) (N := N_rewritten) (sc := defScope (top 41)) (by decide +kernel)) (fun _ _ _ _ _ => pg_name (i := 3) sc_rewritten.nd rfl (Or.inl rfl)) (fun _ _ _ _ _ => ptsd_nil) (fun _ _ _ _ _ => (pd_call h_rewritten (hr.mono l_rewritten) (pad_cons (pd_var 0) (pad_cons (pd_var 3) pad_nil))))) pad_nil)))) psd_nil)
 (psd_cons (psd_if (pt_eq hr (pd_var 2) pd_str) (psd_one (psd_ret (pd_call h_one_of (hr.mono l_one_of) (pad_cons (pd_lc 3 sc_rewritten.nd (pid_tup (pd_ix (pd_var 1) pd_int)) (blkOk_by (own := [(("part" : Str), 3)]) (N := N_rewritten) (sc := defScope (top 41)) (by decide +kernel)) (fun _ _ _ _ _ => pg_name (i := 3) sc_rewritten.nd rfl (Or.inl rfl)) (fun _ _ _ _ _ => ptsd_nil) (fun _ _ _ _ _ => (pd_call h_rewritten (hr.mono l_rewritten) (pad_cons (pd_var 0) (pad_cons (pd_var 3) pad_nil))))) pad_nil)))) psd_nil)
 (psd_cons (psd_if (pt_eq hr (pd_var 2) pd_str) (psd_one (psd_ret (pd_call h_held_before (hr.mono l_held_before) (pad_cons (pd_var 0) (pad_cons (pd_var 1) pad_nil))))) psd_nil)
 (psd_one (psd_ret (pd_call h_after_at (hr.mono l_after_at) (pad_cons (pd_var 0) (pad_cons (pd_tup pad_nil) (pad_cons (pd_var 1) pad_nil)))))))))))
def N_success_of : List Str := ["primitive", "word", "target", "inner"]
theorem sc_success_of : FnScope N_success_of ["primitive"] (defScope (top 44)) := ⟨rfl, rfl, rfl, by decide +kernel, rfl, by decide +kernel, by decide +kernel⟩
def T_success_of (s_at s_one_of : SD) : TDS := (dSeq (dSet 1 (d2 fIx (dVar 0) (dC (.d (.int 0)))))
 (dSeq (dIf (dB (d2 fEq (dVar 1) (dC (.d (.str "load"))))) (dRet (dC (.d (.tup [.str "true"])))) dNext)
 (dSeq (dIf (dB (d2 fEq (dVar 1) (dC (.d (.str "when"))))) dNever dNext)
 (dSeq (dSet 2 (d2 fIx (dVar 0) (dC (.d (.int 1)))))
 (dSeq (dIf (dB (d2 fEq (dVar 1) (dC (.d (.str "put"))))) dNever dNext)
 (dSeq (dIf (dAndT (dB (d2 fEq (dVar 1) (dC (.d (.str "take"))))) (dB (d2 fEq (dCB fLen (aCons (dVar 2) aNil)) (dC (.d (.int 0)))))) (dRet (dC (.d (.tup [.str "false"])))) dNext)
 (dSeq (dIf (dB (d2 fEq (dVar 1) (dC (.d (.str "check"))))) dNever dNext)
 (dSeq (dIf (dB (d2 fEq (dVar 1) (dC (.d (.str "increase"))))) (dRet (dCall s_at (aCons (dVar 2) (aCons (dTup (aCons (dC (.d (.str "kind"))) (aCons (dC (.d (.str "int"))) aNil))) aNil)))) dNext)
 (dSeq (dIf (dB (d2 fEq (dVar 1) (dC (.d (.str "each"))))) (dSeq dNever
 (dRet (dCall s_at (aCons (dVar 2) (aCons (dCall s_one_of (aCons (dLst (aCons (dTup (aCons (dC (.d (.str "each_item"))) (aCons (dC (.d (.int 0))) (aCons (dVar 3) aNil)))) (aCons (dTup (aCons (dC (.d (.str "each_field"))) (aCons (dTup aNil) (aCons (dVar 3) aNil)))) aNil))) aNil)) aNil))))) dNext)
 (dRet (dCall s_at (aCons (dVar 2) (aCons (dC (.d (.tup [.str "true"]))) aNil)))))))))))))
theorem def_success_of {P : Program} {w : World} {K : PySem.W.Frag} {mg : Str → Option Value} {base : Heap} (G : Gs K mg) {k : Nat} {k_at k_one_of : Nat} {s_at s_one_of : SD} (h_at : DefOk P w K mg base "at" k_at ["path", "formula"] s_at) (l_at : k_at ≤ k) (h_one_of : DefOk P w K mg base "one_of" k_one_of ["formulas"] s_one_of) (l_one_of : k_one_of ≤ k) {sd : SD} (len : ∀ ss Q, sd ss Q → ss.length = 1)
    (pure : ∀ ss Q, sd ss Q → T_success_of s_at s_one_of { nx := fun _ => Q (.d .non), rt := Q } (ss.map some ++ List.replicate 3 none)) : DefOk P w K mg base "success_of" (k + 1) ["primitive"] sd := by
  obtain ⟨gt, ht1, ht2⟩ := G.tt
  obtain ⟨gf, hf1, hf2⟩ := G.ff
  refine ok_def G 13 rfl sc_success_of (fun _ _ _ _ _ _ us hl => match us, hl with | [_], _ => rfl) len fun f cdv A outer s H E hr => ⟨_, ?_, pure⟩
  exact (psd_cons (psd_set 1 sc_success_of.nd (pd_ix (pd_var 0) pd_int))
 (psd_cons (psd_if (pt_eq hr (pd_var 1) pd_str) (psd_one (psd_ret (pd_glob1 ht1 ht2))) psd_nil)
 (psd_cons (psd_if (pt_eq hr (pd_var 1) pd_str) (psd_one psd_never) psd_nil)
 (psd_cons (psd_set 2 sc_success_of.nd (pd_ix (pd_var 0) pd_int))
 (psd_cons (psd_if (pt_eq hr (pd_var 1) pd_str) (psd_one psd_never) psd_nil)
 (psd_cons (psd_if (PW.pt (pwd_and (pt_eq hr (pd_var 1) pd_str) (pwd_and1 (pt_eq hr (pd_callB call_lenAll fLen_ok G.z_len (pad_cons (pd_var 2) pad_nil)) pd_int)))) (psd_one (psd_ret (pd_glob1 hf1 hf2))) psd_nil)
 (psd_cons (psd_if (pt_eq hr (pd_var 1) pd_str) (psd_one psd_never) psd_nil)
 (psd_cons (psd_if (pt_eq hr (pd_var 1) pd_str) (psd_one (psd_ret (pd_call h_at (hr.mono l_at) (pad_cons (pd_var 2) (pad_cons (pd_tup (pad_cons pd_str (pad_cons pd_str pad_nil))) pad_nil))))) psd_nil)
 (psd_cons (psd_if (pt_eq hr (pd_var 1) pd_str) (psd_cons psd_never
 (psd_one (psd_ret (pd_call h_at (hr.mono l_at) (pad_cons (pd_var 2) (pad_cons (pd_call h_one_of (hr.mono l_one_of) (pad_cons (pd_lst (pad_cons (pd_tup (pad_cons pd_str (pad_cons pd_int (pad_cons (pd_var 3) pad_nil)))) (pad_cons (pd_tup (pad_cons pd_str (pad_cons (pd_tup pad_nil) (pad_cons (pd_var 3) pad_nil)))) pad_nil))) pad_nil)) pad_nil)))))) psd_nil)
 (psd_one (psd_ret (pd_call h_at (hr.mono l_at) (pad_cons (pd_var 2) (pad_cons (pd_glob1 ht1 ht2) pad_nil))))))))))))))
def N_before_primitive : List Str := ["primitive", "formula"]
theorem sc_before_primitive : FnScope N_before_primitive ["primitive", "formula"] (defScope (top 46)) := ⟨rfl, rfl, rfl, by decide +kernel, rfl, by decide +kernel, by decide +kernel⟩
def T_before_primitive (s_rewritten s_success_of s_both : SD) : TDS := (dSeq (dIf (dB (d2 fEq (d2 fIx (dVar 0) (dC (.d (.int 0)))) (dC (.d (.str "when"))))) dNever dNext)
 (dRet (dCall s_both (aCons (dLst (aCons (dCall s_success_of (aCons (dVar 0) aNil)) (aCons (dCall s_rewritten (aCons (dVar 0) (aCons (dVar 1) aNil))) aNil))) aNil))))
theorem def_before_primitive {P : Program} {w : World} {K : PySem.W.Frag} {mg : Str → Option Value} {base : Heap} (G : Gs K mg) {k : Nat} {k_rewritten k_success_of k_both : Nat} {s_rewritten s_success_of s_both : SD} (h_rewritten : DefOk P w K mg base "rewritten" k_rewritten ["primitive", "formula"] s_rewritten) (l_rewritten : k_rewritten ≤ k) (h_success_of : DefOk P w K mg base "success_of" k_success_of ["primitive"] s_success_of) (l_success_of : k_success_of ≤ k) (h_both : DefOk P w K mg base "both" k_both ["formulas"] s_both) (l_both : k_both ≤ k) {sd : SD} (len : ∀ ss Q, sd ss Q → ss.length = 2)
    (pure : ∀ ss Q, sd ss Q → T_before_primitive s_rewritten s_success_of s_both { nx := fun _ => Q (.d .non), rt := Q } (ss.map some ++ List.replicate 0 none)) : DefOk P w K mg base "before_primitive" (k + 1) ["primitive", "formula"] sd := by
  refine ok_def G 14 rfl sc_before_primitive (fun _ _ _ _ _ _ us hl => match us, hl with | [_, _], _ => rfl) len fun f cdv A outer s H E hr => ⟨_, ?_, pure⟩
  exact (psd_cons (psd_if (pt_eq hr (pd_ix (pd_var 0) pd_int) pd_str) (psd_one psd_never) psd_nil)
 (psd_one (psd_ret (pd_call h_both (hr.mono l_both) (pad_cons (pd_lst (pad_cons (pd_call h_success_of (hr.mono l_success_of) (pad_cons (pd_var 0) pad_nil)) (pad_cons (pd_call h_rewritten (hr.mono l_rewritten) (pad_cons (pd_var 0) (pad_cons (pd_var 1) pad_nil))) pad_nil))) pad_nil)))))
end Pk

/-! ## G1 -/
set_option Elab.async false
set_option linter.all false
set_option maxRecDepth 100000
set_option maxHeartbeats 4000000
namespace Pk
open PySem PySem.Spec PyProof.Rows L2
def N_child : List Str := ["_law_value_here", "_law_token_here", "_law_field"]
theorem sc_child : FnScope N_child ["_law_value_here", "_law_token_here"] (defScope (top 49)) := ⟨rfl, rfl, rfl, by decide +kernel, rfl, by decide +kernel, by decide +kernel⟩
def B_child_1 : TDS := (dIf (dB (d2 fEq (d2 fIx (dVar 2) (dC (.d (.int 0)))) (dVar 1))) (dRet (d2 fIx (dVar 2) (dC (.d (.int 1))))) dNext)
def T_child : TDS := (dSeq (dIf (dAndT (dB (d2 fEq (d2 fIx (dVar 0) (dC (.d (.int 0)))) (dC (.d (.str "list"))))) (dB (dIsi "int" (dVar 1)))) (dIf (dAndT (dB (d2 fLe (dC (.d (.int 0))) (dVar 1))) (dB (d2 fLt (dVar 1) (dCB fLen (aCons (d2 fIx (dVar 0) (dC (.d (.int 1)))) aNil))))) (dRet (d2 fIx (d2 fIx (dVar 0) (dC (.d (.int 1)))) (dVar 1))) dNext) dNext)
 (dSeq (dIf (dAndT (dB (d2 fEq (d2 fIx (dVar 0) (dC (.d (.int 0)))) (dC (.d (.str "object"))))) (dB (dIsi "str" (dVar 1)))) (dForTup 2 (d2 fIx (dVar 0) (dC (.d (.int 1)))) B_child_1) dNext)
 (dRet (dC (.d .non)))))
theorem def_child {P : Program} {w : World} {K : PySem.W.Frag} {mg : Str → Option Value} {base : Heap} (G : Gs K mg) {k : Nat} {sd : SD} (len : ∀ ss Q, sd ss Q → ss.length = 2)
    (pure : ∀ ss Q, sd ss Q → T_child { nx := fun _ => Q (.d .non), rt := Q } (ss.map some ++ List.replicate 1 none)) : DefOk P w K mg base "_law_child" (k + 1) ["_law_value_here", "_law_token_here"] sd := by
  refine ok_def G 15 rfl sc_child (fun _ _ _ _ _ _ us hl => match us, hl with | [_, _], _ => rfl) len fun f cdv A outer s H E hr => ⟨_, ?_, pure⟩
  exact (psd_cons (psd_if (PW.pt (pwd_and (pt_eq hr (pd_ix (pd_var 0) pd_int) pd_str) (pwd_and1 (pt_e (pd_isi G.z_isinstance G.z_int (pd_var 1)))))) (psd_one (psd_if (PW.pt (pwd_and (pt_le pd_int (pd_var 1)) (pwd_and1 (pt_lt (pd_var 1) (pd_callB call_lenAll fLen_ok G.z_len (pad_cons (pd_ix (pd_var 0) pd_int) pad_nil)))))) (psd_one (psd_ret (pd_ix (pd_ix (pd_var 0) pd_int) (pd_var 1)))) psd_nil)) psd_nil)
 (psd_cons (psd_if (PW.pt (pwd_and (pt_eq hr (pd_ix (pd_var 0) pd_int) pd_str) (pwd_and1 (pt_e (pd_isi G.z_isinstance G.z_str (pd_var 1)))))) (psd_one (psd_for_tup 2 PassesOwn.never (pd_ix (pd_var 0) pd_int) (pg_name (i := 2) sc_child.nd rfl (by first | exact Or.inl rfl | exact Or.inr rfl)) (psd_one (psd_if (pt_eq hr (pd_ix (pd_var 2) pd_int) (pd_var 1)) (psd_one (psd_ret (pd_ix (pd_var 2) pd_int))) psd_nil)))) psd_nil)
 (psd_one (psd_ret pd_non))))
def N_lookup : List Str := ["_law_value_here", "_law_path_here", "_law_token_here"]
theorem sc_lookup : FnScope N_lookup ["_law_value_here", "_law_path_here"] (defScope (top 51)) := ⟨rfl, rfl, rfl, by decide +kernel, rfl, by decide +kernel, by decide +kernel⟩
def B_lookup_1 (s_child : SD) : TDS := (dIf (dNotNT (dVar 0)) (dSet 0 (dCall s_child (aCons (dVar 0) (aCons (dVar 2) aNil)))) dNext)
def T_lookup (s_child : SD) : TDS := (dSeq (dForTup 2 (dVar 1) (B_lookup_1 s_child))
 (dRet (dVar 0)))
theorem def_lookup {P : Program} {w : World} {K : PySem.W.Frag} {mg : Str → Option Value} {base : Heap} (G : Gs K mg) {k : Nat} {k_child : Nat} {s_child : SD} (h_child : DefOk P w K mg base "_law_child" k_child ["_law_value_here", "_law_token_here"] s_child) (l_child : k_child ≤ k) {sd : SD} (len : ∀ ss Q, sd ss Q → ss.length = 2)
    (pure : ∀ ss Q, sd ss Q → T_lookup s_child { nx := fun _ => Q (.d .non), rt := Q } (ss.map some ++ List.replicate 1 none)) : DefOk P w K mg base "_law_lookup" (k + 1) ["_law_value_here", "_law_path_here"] sd := by
  refine ok_def G 16 rfl sc_lookup (fun _ _ _ _ _ _ us hl => match us, hl with | [_, _], _ => rfl) len fun f cdv A outer s H E hr => ⟨_, ?_, pure⟩
  exact (psd_cons (psd_for_tup 2 PassesOwn.never (pd_var 1) (pg_name (i := 2) sc_lookup.nd rfl (by first | exact Or.inl rfl | exact Or.inr rfl)) (psd_one (psd_if (pt_notN (pd_var 0)) (psd_one (psd_set 0 sc_lookup.nd (pd_call h_child (hr.mono l_child) (pad_cons (pd_var 0) (pad_cons (pd_var 2) pad_nil))))) psd_nil)))
 (psd_one (psd_ret (pd_var 0))))
def N_with : List Str := ["_law_value_here", "_law_token_here", "_law_new", "_law_smaller", "_law_field", "_law_greater"]
theorem sc_with : FnScope N_with ["_law_value_here", "_law_token_here", "_law_new"] (defScope (top 52)) := ⟨rfl, rfl, rfl, by decide +kernel, rfl, by decide +kernel, by decide +kernel⟩
def C_with_1 : TDT := (dB (d2 fGt (d2 fIx (dVar 4) (dC (.d (.int 0)))) (dVar 1)))
def E_with_1 : TDE := (dVar 4)
def C_with_2 : TDT := (dB (d2 fLt (d2 fIx (dVar 4) (dC (.d (.int 0)))) (dVar 1)))
def E_with_2 : TDE := (dVar 4)
def T_with : TDS := (dSeq (dIf (dB (d2 fEq (d2 fIx (dVar 0) (dC (.d (.int 0)))) (dC (.d (.str "list"))))) (dRet (dTup (aCons (dC (.d (.str "list"))) (aCons (d2 fAdd (d2 fAdd (dSl (d2 fIx (dVar 0) (dC (.d (.int 1)))) dNoPart (dPart (dVar 1))) (dTup (aCons (dVar 2) aNil))) (dSl (d2 fIx (dVar 0) (dC (.d (.int 1)))) (dPart (d2 fAdd (dVar 1) (dC (.d (.int 1))))) dNoPart)) aNil)))) dNext)
 (dSeq (dSet 3 (dLc 4 (iTupD (d2 fIx (dVar 0) (dC (.d (.int 1))))) C_with_2 E_with_2))
 (dSeq (dSet 5 (dLc 4 (iTupD (d2 fIx (dVar 0) (dC (.d (.int 1))))) C_with_1 E_with_1))
 (dRet (dTup (aCons (dC (.d (.str "object"))) (aCons (d2 fAdd (d2 fAdd (dCB fTuple (aCons (dVar 3) aNil)) (dTup (aCons (dTup (aCons (dVar 1) (aCons (dVar 2) aNil))) aNil))) (dCB fTuple (aCons (dVar 5) aNil))) aNil)))))))
theorem def_with {P : Program} {w : World} {K : PySem.W.Frag} {mg : Str → Option Value} {base : Heap} (G : Gs K mg) {k : Nat} {sd : SD} (len : ∀ ss Q, sd ss Q → ss.length = 3)
    (pure : ∀ ss Q, sd ss Q → T_with { nx := fun _ => Q (.d .non), rt := Q } (ss.map some ++ List.replicate 3 none)) : DefOk P w K mg base "_law_with" (k + 1) ["_law_value_here", "_law_token_here", "_law_new"] sd := by
  refine ok_def G 17 rfl sc_with (fun _ _ _ _ _ _ us hl => match us, hl with | [_, _, _], _ => rfl) len fun f cdv A outer s H E hr => ⟨_, ?_, pure⟩
  exact (psd_cons (psd_if (pt_eq hr (pd_ix (pd_var 0) pd_int) pd_str) (psd_one (psd_ret (pd_tup (pad_cons pd_str (pad_cons (pd_add (pd_add (pd_slice (pd_ix (pd_var 0) pd_int) pod_none (pod_some (pd_var 1))) (pd_tup (pad_cons (pd_var 2) pad_nil))) (pd_slice (pd_ix (pd_var 0) pd_int) (pod_some (pd_add (pd_var 1) pd_int)) pod_none)) pad_nil))))) psd_nil)
 (psd_cons (psd_setLc 4 3 sc_with.nd (pid_tup (pd_ix (pd_var 0) pd_int)) (blkOk_by (own := [(("_law_field" : Str), 4)]) (N := N_with) (sc := defScope (top 52)) (by decide +kernel)) (fun _ _ _ _ _ => pg_name (i := 4) sc_with.nd rfl (Or.inl rfl)) (fun _ _ _ _ _ => (ptsd_one (pt_lt (pd_ix (pd_var 4) pd_int) (pd_var 1)))) (fun _ _ _ _ _ => (pd_var 4)) (sw_true rfl rfl rfl (by decide +kernel)))
 (psd_cons (psd_setLc 4 5 sc_with.nd (pid_tup (pd_ix (pd_var 0) pd_int)) (blkOk_by (own := [(("_law_field" : Str), 4)]) (N := N_with) (sc := defScope (top 52)) (by decide +kernel)) (fun _ _ _ _ _ => pg_name (i := 4) sc_with.nd rfl (Or.inl rfl)) (fun _ _ _ _ _ => (ptsd_one (pt_gt (pd_ix (pd_var 4) pd_int) (pd_var 1)))) (fun _ _ _ _ _ => (pd_var 4)) (sw_true rfl rfl rfl (by decide +kernel)))
 (psd_one (psd_ret (pd_tup (pad_cons pd_str (pad_cons (pd_add (pd_add (pd_callTy call_tuple_of fTuple_ok G.z_tuple (pad_cons (pd_var 3) pad_nil)) (pd_tup (pad_cons (pd_tup (pad_cons (pd_var 1) (pad_cons (pd_var 2) pad_nil))) pad_nil))) (pd_callTy call_tuple_of fTuple_ok G.z_tuple (pad_cons (pd_var 5) pad_nil))) pad_nil))))))))
def N_replace : List Str := ["_law_value_here", "_law_path_here", "_law_new", "_law_child_here", "_law_inner"]
theorem sc_replace : FnScope N_replace ["_law_value_here", "_law_path_here", "_law_new"] (defScope (top 53)) := ⟨rfl, rfl, rfl, by decide +kernel, rfl, by decide +kernel, by decide +kernel⟩
def T_replace (s_with s_replace s_child : SD) : TDS := (dSeq (dIf (dB (d2 fEq (dCB fLen (aCons (dVar 1) aNil)) (dC (.d (.int 0))))) (dRet (dVar 2)) dNext)
 (dSeq (dSet 3 (dCall s_child (aCons (dVar 0) (aCons (d2 fIx (dVar 1) (dC (.d (.int 0)))) aNil))))
 (dSeq (dIf (dIsNT (dVar 3)) (dRet (dC (.d .non))) dNext)
 (dSeq (dSet 4 (dCall s_replace (aCons (dVar 3) (aCons (dSl (dVar 1) (dPart (dC (.d (.int 1)))) dNoPart) (aCons (dVar 2) aNil)))))
 (dSeq (dIf (dIsNT (dVar 4)) (dRet (dC (.d .non))) dNext)
 (dRet (dCall s_with (aCons (dVar 0) (aCons (d2 fIx (dVar 1) (dC (.d (.int 0)))) (aCons (dVar 4) aNil))))))))))
theorem def_replace {P : Program} {w : World} {K : PySem.W.Frag} {mg : Str → Option Value} {base : Heap} (G : Gs K mg) {k : Nat} {k_with k_replace k_child : Nat} {s_with s_replace s_child : SD} (h_with : DefOk P w K mg base "_law_with" k_with ["_law_value_here", "_law_token_here", "_law_new"] s_with) (l_with : k_with ≤ k) (h_replace : DefOk P w K mg base "_law_replace" k_replace ["_law_value_here", "_law_path_here", "_law_new"] s_replace) (l_replace : k_replace ≤ k) (h_child : DefOk P w K mg base "_law_child" k_child ["_law_value_here", "_law_token_here"] s_child) (l_child : k_child ≤ k) {sd : SD} (len : ∀ ss Q, sd ss Q → ss.length = 3)
    (pure : ∀ ss Q, sd ss Q → T_replace s_with s_replace s_child { nx := fun _ => Q (.d .non), rt := Q } (ss.map some ++ List.replicate 2 none)) : DefOk P w K mg base "_law_replace" (k + 1) ["_law_value_here", "_law_path_here", "_law_new"] sd := by
  refine ok_def G 18 rfl sc_replace (fun _ _ _ _ _ _ us hl => match us, hl with | [_, _, _], _ => rfl) len fun f cdv A outer s H E hr => ⟨_, ?_, pure⟩
  exact (psd_cons (psd_if (pt_eq hr (pd_callB call_lenAll fLen_ok G.z_len (pad_cons (pd_var 1) pad_nil)) pd_int) (psd_one (psd_ret (pd_var 2))) psd_nil)
 (psd_cons (psd_set 3 sc_replace.nd (pd_call h_child (hr.mono l_child) (pad_cons (pd_var 0) (pad_cons (pd_ix (pd_var 1) pd_int) pad_nil))))
 (psd_cons (psd_if (pt_isN (pd_var 3)) (psd_one (psd_ret pd_non)) psd_nil)
 (psd_cons (psd_set 4 sc_replace.nd (pd_call h_replace (hr.mono l_replace) (pad_cons (pd_var 3) (pad_cons (pd_slice (pd_var 1) (pod_some pd_int) pod_none) (pad_cons (pd_var 2) pad_nil)))))
 (psd_cons (psd_if (pt_isN (pd_var 4)) (psd_one (psd_ret pd_non)) psd_nil)
 (psd_one (psd_ret (pd_call h_with (hr.mono l_with) (pad_cons (pd_var 0) (pad_cons (pd_ix (pd_var 1) pd_int) (pad_cons (pd_var 4) pad_nil)))))))))))
def N_put : List Str := ["_law_value_here", "_law_path_here", "_law_new", "_law_parent", "_law_token_here", "_law_made", "_law_index"]
theorem sc_put : FnScope N_put ["_law_value_here", "_law_path_here", "_law_new"] (defScope (top 54)) := ⟨rfl, rfl, rfl, by decide +kernel, rfl, by decide +kernel, by decide +kernel⟩
def T_put (s_replace s_with s_lookup : SD) : TDS := (dSeq (dIf (dB (d2 fEq (dCB fLen (aCons (dVar 1) aNil)) (dC (.d (.int 0))))) (dRet (dVar 2)) dNext)
 (dSeq (dSet 3 (dCall s_lookup (aCons (dVar 0) (aCons (dSl (dVar 1) dNoPart (dPart (dNeg (dC (.d (.int 1)))))) aNil))))
 (dSeq (dIf (dIsNT (dVar 3)) (dRet (dC (.d .non))) dNext)
 (dSeq (dSet 4 (d2 fIx (dVar 1) (dNeg (dC (.d (.int 1))))))
 (dSeq (dSet 5 (dC (.d .non)))
 (dSeq (dIf (dAndT (dB (d2 fEq (d2 fIx (dVar 3) (dC (.d (.int 0)))) (dC (.d (.str "object"))))) (dB (dIsi "str" (dVar 4)))) (dSet 5 (dCall s_with (aCons (dVar 3) (aCons (dVar 4) (aCons (dVar 2) aNil))))) dNext)
 (dSeq (dIf (dAndT (dB (d2 fEq (d2 fIx (dVar 3) (dC (.d (.int 0)))) (dC (.d (.str "list"))))) (dAndT (dB (dIsi "int" (dVar 4))) (dB (d2 fLe (dVar 4) (dCB fLen (aCons (d2 fIx (dVar 3) (dC (.d (.int 1)))) aNil)))))) (dSeq (dSet 6 (dVar 4))
 (dSeq (dIf (dB (d2 fEq (dVar 4) (dNeg (dC (.d (.int 1)))))) (dSet 6 (dCB fLen (aCons (d2 fIx (dVar 3) (dC (.d (.int 1)))) aNil))) dNext)
 (dSet 5 (dTup (aCons (dC (.d (.str "list"))) (aCons (d2 fAdd (d2 fAdd (dSl (d2 fIx (dVar 3) (dC (.d (.int 1)))) dNoPart (dPart (dVar 6))) (dTup (aCons (dVar 2) aNil))) (dSl (d2 fIx (dVar 3) (dC (.d (.int 1)))) (dPart (dVar 6)) dNoPart)) aNil)))))) dNext)
 (dSeq (dIf (dIsNT (dVar 5)) (dRet (dC (.d .non))) dNext)
 (dRet (dCall s_replace (aCons (dVar 0) (aCons (dSl (dVar 1) dNoPart (dPart (dNeg (dC (.d (.int 1)))))) (aCons (dVar 5) aNil)))))))))))))
theorem def_put {P : Program} {w : World} {K : PySem.W.Frag} {mg : Str → Option Value} {base : Heap} (G : Gs K mg) {k : Nat} {k_replace k_with k_lookup : Nat} {s_replace s_with s_lookup : SD} (h_replace : DefOk P w K mg base "_law_replace" k_replace ["_law_value_here", "_law_path_here", "_law_new"] s_replace) (l_replace : k_replace ≤ k) (h_with : DefOk P w K mg base "_law_with" k_with ["_law_value_here", "_law_token_here", "_law_new"] s_with) (l_with : k_with ≤ k) (h_lookup : DefOk P w K mg base "_law_lookup" k_lookup ["_law_value_here", "_law_path_here"] s_lookup) (l_lookup : k_lookup ≤ k) {sd : SD} (len : ∀ ss Q, sd ss Q → ss.length = 3)
    (pure : ∀ ss Q, sd ss Q → T_put s_replace s_with s_lookup { nx := fun _ => Q (.d .non), rt := Q } (ss.map some ++ List.replicate 4 none)) : DefOk P w K mg base "_law_put" (k + 1) ["_law_value_here", "_law_path_here", "_law_new"] sd := by
  refine ok_def G 19 rfl sc_put (fun _ _ _ _ _ _ us hl => match us, hl with | [_, _, _], _ => rfl) len fun f cdv A outer s H E hr => ⟨_, ?_, pure⟩
  exact (psd_cons (psd_if (pt_eq hr (pd_callB call_lenAll fLen_ok G.z_len (pad_cons (pd_var 1) pad_nil)) pd_int) (psd_one (psd_ret (pd_var 2))) psd_nil)
 (psd_cons (psd_set 3 sc_put.nd (pd_call h_lookup (hr.mono l_lookup) (pad_cons (pd_var 0) (pad_cons (pd_slice (pd_var 1) pod_none (pod_some (pd_neg pd_int))) pad_nil))))
 (psd_cons (psd_if (pt_isN (pd_var 3)) (psd_one (psd_ret pd_non)) psd_nil)
 (psd_cons (psd_set 4 sc_put.nd (pd_ix (pd_var 1) (pd_neg pd_int)))
 (psd_cons (psd_set 5 sc_put.nd pd_non)
 (psd_cons (psd_if (PW.pt (pwd_and (pt_eq hr (pd_ix (pd_var 3) pd_int) pd_str) (pwd_and1 (pt_e (pd_isi G.z_isinstance G.z_str (pd_var 4)))))) (psd_one (psd_set 5 sc_put.nd (pd_call h_with (hr.mono l_with) (pad_cons (pd_var 3) (pad_cons (pd_var 4) (pad_cons (pd_var 2) pad_nil)))))) psd_nil)
 (psd_cons (psd_if (PW.pt (pwd_and (pt_eq hr (pd_ix (pd_var 3) pd_int) pd_str) (pwd_and (pt_e (pd_isi G.z_isinstance G.z_int (pd_var 4))) (pwd_and1 (pt_le (pd_var 4) (pd_callB call_lenAll fLen_ok G.z_len (pad_cons (pd_ix (pd_var 3) pd_int) pad_nil))))))) (psd_cons (psd_set 6 sc_put.nd (pd_var 4))
 (psd_cons (psd_if (pt_eq hr (pd_var 4) (pd_neg pd_int)) (psd_one (psd_set 6 sc_put.nd (pd_callB call_lenAll fLen_ok G.z_len (pad_cons (pd_ix (pd_var 3) pd_int) pad_nil)))) psd_nil)
 (psd_one (psd_set 5 sc_put.nd (pd_tup (pad_cons pd_str (pad_cons (pd_add (pd_add (pd_slice (pd_ix (pd_var 3) pd_int) pod_none (pod_some (pd_var 6))) (pd_tup (pad_cons (pd_var 2) pad_nil))) (pd_slice (pd_ix (pd_var 3) pd_int) (pod_some (pd_var 6)) pod_none)) pad_nil))))))) psd_nil)
 (psd_cons (psd_if (pt_isN (pd_var 5)) (psd_one (psd_ret pd_non)) psd_nil)
 (psd_one (psd_ret (pd_call h_replace (hr.mono l_replace) (pad_cons (pd_var 0) (pad_cons (pd_slice (pd_var 1) pod_none (pod_some (pd_neg pd_int))) (pad_cons (pd_var 5) pad_nil))))))))))))))
def N_take : List Str := ["_law_value_here", "_law_path_here", "_law_parent", "_law_token_here", "_law_made", "_law_field"]
theorem sc_take : FnScope N_take ["_law_value_here", "_law_path_here"] (defScope (top 55)) := ⟨rfl, rfl, rfl, by decide +kernel, rfl, by decide +kernel, by decide +kernel⟩
def C_take_1 : TDT := (dB (d2 fNe (d2 fIx (dVar 5) (dC (.d (.int 0)))) (dVar 3)))
def E_take_1 : TDE := (dVar 5)
def T_take (s_replace s_lookup : SD) : TDS := (dSeq (dIf (dOrT (dB (d2 fEq (dCB fLen (aCons (dVar 1) aNil)) (dC (.d (.int 0))))) (dIsNT (dCall s_lookup (aCons (dVar 0) (aCons (dVar 1) aNil))))) (dRet (dC (.d .non))) dNext)
 (dSeq (dSet 2 (dCall s_lookup (aCons (dVar 0) (aCons (dSl (dVar 1) dNoPart (dPart (dNeg (dC (.d (.int 1)))))) aNil))))
 (dSeq (dSet 3 (d2 fIx (dVar 1) (dNeg (dC (.d (.int 1))))))
 (dSeq (dIf (dB (d2 fEq (d2 fIx (dVar 2) (dC (.d (.int 0)))) (dC (.d (.str "list"))))) (dSet 4 (dTup (aCons (dC (.d (.str "list"))) (aCons (d2 fAdd (dSl (d2 fIx (dVar 2) (dC (.d (.int 1)))) dNoPart (dPart (dVar 3))) (dSl (d2 fIx (dVar 2) (dC (.d (.int 1)))) (dPart (d2 fAdd (dVar 3) (dC (.d (.int 1))))) dNoPart)) aNil)))) (dSet 4 (dTup (aCons (dC (.d (.str "object"))) (aCons (dCB fTuple (aCons (dLc 5 (iTupD (d2 fIx (dVar 2) (dC (.d (.int 1))))) C_take_1 E_take_1) aNil)) aNil)))))
 (dRet (dCall s_replace (aCons (dVar 0) (aCons (dSl (dVar 1) dNoPart (dPart (dNeg (dC (.d (.int 1)))))) (aCons (dVar 4) aNil)))))))))
theorem def_take {P : Program} {w : World} {K : PySem.W.Frag} {mg : Str → Option Value} {base : Heap} (G : Gs K mg) {k : Nat} {k_replace k_lookup : Nat} {s_replace s_lookup : SD} (h_replace : DefOk P w K mg base "_law_replace" k_replace ["_law_value_here", "_law_path_here", "_law_new"] s_replace) (l_replace : k_replace ≤ k) (h_lookup : DefOk P w K mg base "_law_lookup" k_lookup ["_law_value_here", "_law_path_here"] s_lookup) (l_lookup : k_lookup ≤ k) {sd : SD} (len : ∀ ss Q, sd ss Q → ss.length = 2)
    (pure : ∀ ss Q, sd ss Q → T_take s_replace s_lookup { nx := fun _ => Q (.d .non), rt := Q } (ss.map some ++ List.replicate 4 none)) : DefOk P w K mg base "_law_take" (k + 1) ["_law_value_here", "_law_path_here"] sd := by
  refine ok_def G 20 rfl sc_take (fun _ _ _ _ _ _ us hl => match us, hl with | [_, _], _ => rfl) len fun f cdv A outer s H E hr => ⟨_, ?_, pure⟩
  exact (psd_cons (psd_if (PW.pt (pwd_or (pt_eq hr (pd_callB call_lenAll fLen_ok G.z_len (pad_cons (pd_var 1) pad_nil)) pd_int) (pwd_or1 (pt_isN (pd_call h_lookup (hr.mono l_lookup) (pad_cons (pd_var 0) (pad_cons (pd_var 1) pad_nil))))))) (psd_one (psd_ret pd_non)) psd_nil)
 (psd_cons (psd_set 2 sc_take.nd (pd_call h_lookup (hr.mono l_lookup) (pad_cons (pd_var 0) (pad_cons (pd_slice (pd_var 1) pod_none (pod_some (pd_neg pd_int))) pad_nil))))
 (psd_cons (psd_set 3 sc_take.nd (pd_ix (pd_var 1) (pd_neg pd_int)))
 (psd_cons (psd_if (pt_eq hr (pd_ix (pd_var 2) pd_int) pd_str) (psd_one (psd_set 4 sc_take.nd (pd_tup (pad_cons pd_str (pad_cons (pd_add (pd_slice (pd_ix (pd_var 2) pd_int) pod_none (pod_some (pd_var 3))) (pd_slice (pd_ix (pd_var 2) pd_int) (pod_some (pd_add (pd_var 3) pd_int)) pod_none)) pad_nil))))) (psd_one (psd_set 4 sc_take.nd (pd_tup (pad_cons pd_str (pad_cons (pd_callTy call_tuple_of fTuple_ok G.z_tuple (pad_cons (pd_lc 5 sc_take.nd (pid_tup (pd_ix (pd_var 2) pd_int)) (blkOk_by (own := [(("_law_field" : Str), 5)]) (N := N_take) (sc := defScope (top 55)) (by decide +kernel)) (fun _ _ _ _ _ => pg_name (i := 5) sc_take.nd rfl (Or.inl rfl)) (fun _ _ _ _ _ => (ptsd_one (pt_ne (pd_ix (pd_var 5) pd_int) (pd_var 3)))) (fun _ _ _ _ _ => (pd_var 5))) pad_nil)) pad_nil))))))
 (psd_one (psd_ret (pd_call h_replace (hr.mono l_replace) (pad_cons (pd_var 0) (pad_cons (pd_slice (pd_var 1) pod_none (pod_some (pd_neg pd_int))) (pad_cons (pd_var 4) pad_nil))))))))))
def N_primitive : List Str := ["_law_primitive_here", "_law_value_here", "_law_held", "_law_word", "_law_place"]
theorem sc_primitive : FnScope N_primitive ["_law_primitive_here", "_law_value_here", "_law_held"] (defScope (top 63)) := ⟨rfl, rfl, rfl, by decide +kernel, rfl, by decide +kernel, by decide +kernel⟩
def T_primitive (s_put s_replace s_take s_lookup : SD) : TDS := (dSeq (dSet 3 (d2 fIx (dVar 0) (dC (.d (.int 0)))))
 (dSeq (dIf (dB (d2 fEq (dVar 3) (dC (.d (.str "load"))))) (dRet (dTup (aCons (dVar 1) (aCons (d2 fIx (dVar 0) (dC (.d (.int 1)))) aNil)))) dNext)
 (dSeq (dIf (dOrT (dB (d2 fEq (dVar 3) (dC (.d (.str "look"))))) (dB (d2 fEq (dVar 3) (dC (.d (.str "take")))))) (dSeq (dSet 4 (dCall s_lookup (aCons (dVar 1) (aCons (d2 fIx (dVar 0) (dC (.d (.int 1)))) aNil))))
 (dSeq (dIf (dB (d2 fEq (dVar 3) (dC (.d (.str "take"))))) (dSet 1 (dCall s_take (aCons (dVar 1) (aCons (d2 fIx (dVar 0) (dC (.d (.int 1)))) aNil)))) dNext)
 (dSeq (dIf (dOrT (dIsNT (dVar 4)) (dIsNT (dVar 1))) (dRet (dC (.d .non))) dNext)
 (dRet (dTup (aCons (dVar 1) (aCons (dVar 4) aNil))))))) dNext)
 (dSeq (dIf (dB (d2 fEq (dVar 3) (dC (.d (.str "put"))))) (dSet 1 (dCall s_put (aCons (dVar 1) (aCons (d2 fIx (dVar 0) (dC (.d (.int 1)))) (aCons (dVar 2) aNil))))) (dIf (dB (d2 fEq (dVar 3) (dC (.d (.str "swap"))))) (dSet 1 (dCall s_replace (aCons (dVar 1) (aCons (d2 fIx (dVar 0) (dC (.d (.int 1)))) (aCons (dVar 2) aNil))))) (dIf (dB (d2 fEq (dVar 3) (dC (.d (.str "check"))))) dNever dNever)))
 (dSeq (dIf (dIsNT (dVar 1)) (dRet (dC (.d .non))) dNext)
 (dRet (dTup (aCons (dVar 1) (aCons (dVar 2) aNil)))))))))
theorem def_primitive {P : Program} {w : World} {K : PySem.W.Frag} {mg : Str → Option Value} {base : Heap} (G : Gs K mg) {k : Nat} {k_put k_replace k_take k_lookup : Nat} {s_put s_replace s_take s_lookup : SD} (h_put : DefOk P w K mg base "_law_put" k_put ["_law_value_here", "_law_path_here", "_law_new"] s_put) (l_put : k_put ≤ k) (h_replace : DefOk P w K mg base "_law_replace" k_replace ["_law_value_here", "_law_path_here", "_law_new"] s_replace) (l_replace : k_replace ≤ k) (h_take : DefOk P w K mg base "_law_take" k_take ["_law_value_here", "_law_path_here"] s_take) (l_take : k_take ≤ k) (h_lookup : DefOk P w K mg base "_law_lookup" k_lookup ["_law_value_here", "_law_path_here"] s_lookup) (l_lookup : k_lookup ≤ k) {sd : SD} (len : ∀ ss Q, sd ss Q → ss.length = 3)
    (pure : ∀ ss Q, sd ss Q → T_primitive s_put s_replace s_take s_lookup { nx := fun _ => Q (.d .non), rt := Q } (ss.map some ++ List.replicate 2 none)) : DefOk P w K mg base "_law_primitive" (k + 1) ["_law_primitive_here", "_law_value_here", "_law_held"] sd := by
  refine ok_def G 21 rfl sc_primitive (fun _ _ _ _ _ _ us hl => match us, hl with | [_, _, _], _ => rfl) len fun f cdv A outer s H E hr => ⟨_, ?_, pure⟩
  exact (psd_cons (psd_set 3 sc_primitive.nd (pd_ix (pd_var 0) pd_int))
 (psd_cons (psd_if (pt_eq hr (pd_var 3) pd_str) (psd_one (psd_ret (pd_tup (pad_cons (pd_var 1) (pad_cons (pd_ix (pd_var 0) pd_int) pad_nil))))) psd_nil)
 (psd_cons (psd_if (PW.pt (pwd_or (pt_eq hr (pd_var 3) pd_str) (pwd_or1 (pt_eq hr (pd_var 3) pd_str)))) (psd_cons (psd_set 4 sc_primitive.nd (pd_call h_lookup (hr.mono l_lookup) (pad_cons (pd_var 1) (pad_cons (pd_ix (pd_var 0) pd_int) pad_nil))))
 (psd_cons (psd_if (pt_eq hr (pd_var 3) pd_str) (psd_one (psd_set 1 sc_primitive.nd (pd_call h_take (hr.mono l_take) (pad_cons (pd_var 1) (pad_cons (pd_ix (pd_var 0) pd_int) pad_nil))))) psd_nil)
 (psd_cons (psd_if (PW.pt (pwd_or (pt_isN (pd_var 4)) (pwd_or1 (pt_isN (pd_var 1))))) (psd_one (psd_ret pd_non)) psd_nil)
 (psd_one (psd_ret (pd_tup (pad_cons (pd_var 1) (pad_cons (pd_var 4) pad_nil)))))))) psd_nil)
 (psd_cons (psd_if (pt_eq hr (pd_var 3) pd_str) (psd_one (psd_set 1 sc_primitive.nd (pd_call h_put (hr.mono l_put) (pad_cons (pd_var 1) (pad_cons (pd_ix (pd_var 0) pd_int) (pad_cons (pd_var 2) pad_nil)))))) (psd_one (psd_if (pt_eq hr (pd_var 3) pd_str) (psd_one (psd_set 1 sc_primitive.nd (pd_call h_replace (hr.mono l_replace) (pad_cons (pd_var 1) (pad_cons (pd_ix (pd_var 0) pd_int) (pad_cons (pd_var 2) pad_nil)))))) (psd_one (psd_if (pt_eq hr (pd_var 3) pd_str) (psd_one psd_never) (psd_one psd_never))))))
 (psd_cons (psd_if (pt_isN (pd_var 1)) (psd_one (psd_ret pd_non)) psd_nil)
 (psd_one (psd_ret (pd_tup (pad_cons (pd_var 1) (pad_cons (pd_var 2) pad_nil))))))))))
end Pk

/-! ## G2 -/
set_option Elab.async false
set_option linter.all false
set_option maxRecDepth 100000
set_option maxHeartbeats 4000000
namespace Pk
open PySem PySem.Spec PyProof.Rows L2
def N_holds : List Str := ["_law_formula_here", "_law_value_here", "_law_held", "_law_word", "_law_part", "_law_place", "_law_item", "_law_field"]
theorem sc_holds : FnScope N_holds ["_law_formula_here", "_law_value_here", "_law_held"] (defScope (top 64)) := ⟨rfl, rfl, rfl, by decide +kernel, rfl, by decide +kernel, by decide +kernel⟩
def C_holds_1 : TDT := (dB (d2 (fIn true) (d2 fIx (dVar 7) (dC (.d (.int 0)))) (d2 fIx (dVar 0) (dC (.d (.int 1))))))
def E_holds_1 (s_holds : SD) : TDE := (dCall s_holds (aCons (d2 fIx (dVar 0) (dC (.d (.int 2)))) (aCons (d2 fIx (dVar 7) (dC (.d (.int 1)))) (aCons (dC (.d .non)) aNil))))
def E_holds_2 (s_holds : SD) : TDE := (dCall s_holds (aCons (d2 fIx (dVar 0) (dC (.d (.int 2)))) (aCons (dVar 6) (aCons (dC (.d .non)) aNil))))
def E_holds_3 (s_holds : SD) : TDE := (dCall s_holds (aCons (dVar 4) (aCons (dVar 1) (aCons (dVar 2) aNil))))
def E_holds_4 (s_holds : SD) : TDE := (dCall s_holds (aCons (dVar 4) (aCons (dVar 1) (aCons (dVar 2) aNil))))
def T_holds (s_holds s_lookup : SD) : TDS := (dSeq (dSet 3 (d2 fIx (dVar 0) (dC (.d (.int 0)))))
 (dSeq (dIf (dOrT (dB (d2 fEq (dVar 3) (dC (.d (.str "true"))))) (dB (d2 fEq (dVar 3) (dC (.d (.str "false")))))) (dRet (d2 fEq (dVar 3) (dC (.d (.str "true"))))) dNext)
 (dSeq (dIf (dB (d2 fEq (dVar 3) (dC (.d (.str "not"))))) (dRet (dNotV (dCall s_holds (aCons (d2 fIx (dVar 0) (dC (.d (.int 1)))) (aCons (dVar 1) (aCons (dVar 2) aNil)))))) dNext)
 (dSeq (dIf (dB (d2 fEq (dVar 3) (dC (.d (.str "and"))))) (dRet (dCB (fBools fun bs => bs.all id) (aCons (dLc 4 (iTupD (d2 fIx (dVar 0) (dC (.d (.int 1))))) dYes (E_holds_4 s_holds)) aNil))) dNext)
 (dSeq (dIf (dB (d2 fEq (dVar 3) (dC (.d (.str "or"))))) (dRet (dCB (fBools fun bs => bs.any id) (aCons (dLc 4 (iTupD (d2 fIx (dVar 0) (dC (.d (.int 1))))) dYes (E_holds_3 s_holds)) aNil))) dNext)
 (dSeq (dIf (dB (d2 fEq (dVar 3) (dC (.d (.str "held"))))) (dRet (dCall s_holds (aCons (d2 fIx (dVar 0) (dC (.d (.int 1)))) (aCons (dVar 2) (aCons (dC (.d .non)) aNil))))) dNext)
 (dSeq (dIf (dB (d2 fEq (dVar 3) (dC (.d (.str "at"))))) (dSeq (dSet 5 (dCall s_lookup (aCons (dVar 1) (aCons (d2 fIx (dVar 0) (dC (.d (.int 1)))) aNil))))
 (dRet (dAndV (dNotN (dVar 5)) (dCall s_holds (aCons (d2 fIx (dVar 0) (dC (.d (.int 2)))) (aCons (dVar 5) (aCons (dC (.d .non)) aNil))))))) dNext)
 (dSeq (dIf (dB (d2 fEq (dVar 3) (dC (.d (.str "kind"))))) (dRet (d2 fEq (d2 fIx (dVar 1) (dC (.d (.int 0)))) (d2 fIx (dVar 0) (dC (.d (.int 1)))))) dNext)
 (dSeq (dIf (dB (d2 fEq (dVar 3) (dC (.d (.str "int_from"))))) (dRet (dAndV (d2 fEq (d2 fIx (dVar 1) (dC (.d (.int 0)))) (dC (.d (.str "int")))) (d2 fGe (d2 fIx (dVar 1) (dC (.d (.int 1)))) (d2 fIx (dVar 0) (dC (.d (.int 1))))))) dNext)
 (dSeq (dIf (dOrT (dB (d2 fEq (dVar 3) (dC (.d (.str "bool_is"))))) (dB (d2 fEq (dVar 3) (dC (.d (.str "text_is")))))) (dRet (d2 fEq (dVar 1) (dTup (aCons (dSl (dVar 3) dNoPart (dPart (dC (.d (.int 4))))) (aCons (d2 fIx (dVar 0) (dC (.d (.int 1)))) aNil))))) dNext)
 (dSeq (dIf (dB (d2 fEq (dVar 3) (dC (.d (.str "text_from"))))) (dRet (dAndV (d2 fEq (d2 fIx (dVar 1) (dC (.d (.int 0)))) (dC (.d (.str "text")))) (d2 fGe (dCB fLen (aCons (d2 fIx (dVar 1) (dC (.d (.int 1)))) aNil)) (d2 fIx (dVar 0) (dC (.d (.int 1))))))) dNext)
 (dSeq (dIf (dB (d2 fEq (dVar 3) (dC (.d (.str "items_from"))))) (dRet (dAndV (d2 fEq (d2 fIx (dVar 1) (dC (.d (.int 0)))) (dC (.d (.str "list")))) (d2 fGe (dCB fLen (aCons (d2 fIx (dVar 1) (dC (.d (.int 1)))) aNil)) (d2 fIx (dVar 0) (dC (.d (.int 1))))))) dNext)
 (dSeq (dIf (dB (d2 fEq (dVar 3) (dC (.d (.str "each_item"))))) (dSeq (dIf (dB (d2 fNe (d2 fIx (dVar 1) (dC (.d (.int 0)))) (dC (.d (.str "list"))))) (dRet (dC (.d (.bl false)))) dNext)
 (dRet (dCB (fBools fun bs => bs.all id) (aCons (dLc 6 (iTupD (dSl (d2 fIx (dVar 1) (dC (.d (.int 1)))) (dPart (d2 fIx (dVar 0) (dC (.d (.int 1))))) dNoPart)) dYes (E_holds_2 s_holds)) aNil)))) dNext)
 (dSeq (dIf (dB (d2 fNe (d2 fIx (dVar 1) (dC (.d (.int 0)))) (dC (.d (.str "object"))))) (dRet (dC (.d (.bl false)))) dNext)
 (dRet (dCB (fBools fun bs => bs.all id) (aCons (dLc 7 (iTupD (d2 fIx (dVar 1) (dC (.d (.int 1))))) C_holds_1 (E_holds_1 s_holds)) aNil)))))))))))))))))
theorem def_holds {P : Program} {w : World} {K : PySem.W.Frag} {mg : Str → Option Value} {base : Heap} (G : Gs K mg) {k : Nat} {k_holds k_lookup : Nat} {s_holds s_lookup : SD} (h_holds : DefOk P w K mg base "_law_holds" k_holds ["_law_formula_here", "_law_value_here", "_law_held"] s_holds) (l_holds : k_holds ≤ k) (h_lookup : DefOk P w K mg base "_law_lookup" k_lookup ["_law_value_here", "_law_path_here"] s_lookup) (l_lookup : k_lookup ≤ k) {sd : SD} (len : ∀ ss Q, sd ss Q → ss.length = 3)
    (pure : ∀ ss Q, sd ss Q → T_holds s_holds s_lookup { nx := fun _ => Q (.d .non), rt := Q } (ss.map some ++ List.replicate 5 none)) : DefOk P w K mg base "_law_holds" (k + 1) ["_law_formula_here", "_law_value_here", "_law_held"] sd := by
  refine ok_def G 22 rfl sc_holds (fun _ _ _ _ _ _ us hl => match us, hl with | [_, _, _], _ => rfl) len fun f cdv A outer s H E hr => ⟨_, ?_, pure⟩
  exact (psd_cons (psd_set 3 sc_holds.nd (pd_ix (pd_var 0) pd_int))
 (psd_cons (psd_if (PW.pt (pwd_or (pt_eq hr (pd_var 3) pd_str) (pwd_or1 (pt_eq hr (pd_var 3) pd_str)))) (psd_one (psd_ret (pd_eq hr (pd_var 3) pd_str))) psd_nil)
 (psd_cons (psd_if (pt_eq hr (pd_var 3) pd_str) (psd_one (psd_ret (ped_not (pd_call h_holds (hr.mono l_holds) (pad_cons (pd_ix (pd_var 0) pd_int) (pad_cons (pd_var 1) (pad_cons (pd_var 2) pad_nil))))))) psd_nil)
 (psd_cons (psd_if (pt_eq hr (pd_var 3) pd_str) (psd_one (psd_ret (pd_callB (cr_all rfl) fAll_ok G.z_all (pad_cons (pd_lc 4 sc_holds.nd (pid_tup (pd_ix (pd_var 0) pd_int)) (blkOk_by (own := [(("_law_part" : Str), 4)]) (N := N_holds) (sc := defScope (top 64)) (by decide +kernel)) (fun _ _ _ _ _ => pg_name (i := 4) sc_holds.nd rfl (Or.inl rfl)) (fun _ _ _ _ _ => ptsd_nil) (fun _ _ _ _ _ => (pd_call h_holds (hr.mono l_holds) (pad_cons (pd_var 4) (pad_cons (pd_var 1) (pad_cons (pd_var 2) pad_nil)))))) pad_nil)))) psd_nil)
 (psd_cons (psd_if (pt_eq hr (pd_var 3) pd_str) (psd_one (psd_ret (pd_callB (cr_any rfl) fAny_ok G.z_any (pad_cons (pd_lc 4 sc_holds.nd (pid_tup (pd_ix (pd_var 0) pd_int)) (blkOk_by (own := [(("_law_part" : Str), 4)]) (N := N_holds) (sc := defScope (top 64)) (by decide +kernel)) (fun _ _ _ _ _ => pg_name (i := 4) sc_holds.nd rfl (Or.inl rfl)) (fun _ _ _ _ _ => ptsd_nil) (fun _ _ _ _ _ => (pd_call h_holds (hr.mono l_holds) (pad_cons (pd_var 4) (pad_cons (pd_var 1) (pad_cons (pd_var 2) pad_nil)))))) pad_nil)))) psd_nil)
 (psd_cons (psd_if (pt_eq hr (pd_var 3) pd_str) (psd_one (psd_ret (pd_call h_holds (hr.mono l_holds) (pad_cons (pd_ix (pd_var 0) pd_int) (pad_cons (pd_var 2) (pad_cons pd_non pad_nil)))))) psd_nil)
 (psd_cons (psd_if (pt_eq hr (pd_var 3) pd_str) (psd_cons (psd_set 5 sc_holds.nd (pd_call h_lookup (hr.mono l_lookup) (pad_cons (pd_var 1) (pad_cons (pd_ix (pd_var 0) pd_int) pad_nil))))
 (psd_one (psd_ret (ped_and (pd_notN (pd_var 5)) (ped_one (pd_call h_holds (hr.mono l_holds) (pad_cons (pd_ix (pd_var 0) pd_int) (pad_cons (pd_var 5) (pad_cons pd_non pad_nil))))))))) psd_nil)
 (psd_cons (psd_if (pt_eq hr (pd_var 3) pd_str) (psd_one (psd_ret (pd_eq hr (pd_ix (pd_var 1) pd_int) (pd_ix (pd_var 0) pd_int)))) psd_nil)
 (psd_cons (psd_if (pt_eq hr (pd_var 3) pd_str) (psd_one (psd_ret (ped_and (pd_eq hr (pd_ix (pd_var 1) pd_int) pd_str) (ped_one (pd_ge (pd_ix (pd_var 1) pd_int) (pd_ix (pd_var 0) pd_int)))))) psd_nil)
 (psd_cons (psd_if (PW.pt (pwd_or (pt_eq hr (pd_var 3) pd_str) (pwd_or1 (pt_eq hr (pd_var 3) pd_str)))) (psd_one (psd_ret (pd_eq hr (pd_var 1) (pd_tup (pad_cons (pd_slice (pd_var 3) pod_none (pod_some pd_int)) (pad_cons (pd_ix (pd_var 0) pd_int) pad_nil)))))) psd_nil)
 (psd_cons (psd_if (pt_eq hr (pd_var 3) pd_str) (psd_one (psd_ret (ped_and (pd_eq hr (pd_ix (pd_var 1) pd_int) pd_str) (ped_one (pd_ge (pd_callB call_lenAll fLen_ok G.z_len (pad_cons (pd_ix (pd_var 1) pd_int) pad_nil)) (pd_ix (pd_var 0) pd_int)))))) psd_nil)
 (psd_cons (psd_if (pt_eq hr (pd_var 3) pd_str) (psd_one (psd_ret (ped_and (pd_eq hr (pd_ix (pd_var 1) pd_int) pd_str) (ped_one (pd_ge (pd_callB call_lenAll fLen_ok G.z_len (pad_cons (pd_ix (pd_var 1) pd_int) pad_nil)) (pd_ix (pd_var 0) pd_int)))))) psd_nil)
 (psd_cons (psd_if (pt_eq hr (pd_var 3) pd_str) (psd_cons (psd_if (pt_ne (pd_ix (pd_var 1) pd_int) pd_str) (psd_one (psd_ret pd_bl)) psd_nil)
 (psd_one (psd_ret (pd_callB (cr_all rfl) fAll_ok G.z_all (pad_cons (pd_lc 6 sc_holds.nd (pid_tup (pd_slice (pd_ix (pd_var 1) pd_int) (pod_some (pd_ix (pd_var 0) pd_int)) pod_none)) (blkOk_by (own := [(("_law_item" : Str), 6)]) (N := N_holds) (sc := defScope (top 64)) (by decide +kernel)) (fun _ _ _ _ _ => pg_name (i := 6) sc_holds.nd rfl (Or.inl rfl)) (fun _ _ _ _ _ => ptsd_nil) (fun _ _ _ _ _ => (pd_call h_holds (hr.mono l_holds) (pad_cons (pd_ix (pd_var 0) pd_int) (pad_cons (pd_var 6) (pad_cons pd_non pad_nil)))))) pad_nil))))) psd_nil)
 (psd_cons (psd_if (pt_ne (pd_ix (pd_var 1) pd_int) pd_str) (psd_one (psd_ret pd_bl)) psd_nil)
 (psd_one (psd_ret (pd_callB (cr_all rfl) fAll_ok G.z_all (pad_cons (pd_lc 7 sc_holds.nd (pid_tup (pd_ix (pd_var 1) pd_int)) (blkOk_by (own := [(("_law_field" : Str), 7)]) (N := N_holds) (sc := defScope (top 64)) (by decide +kernel)) (fun _ _ _ _ _ => pg_name (i := 7) sc_holds.nd rfl (Or.inl rfl)) (fun _ _ _ _ _ => (ptsd_one (pt_ni (pd_ix (pd_var 7) pd_int) (pd_ix (pd_var 0) pd_int)))) (fun _ _ _ _ _ => (pd_call h_holds (hr.mono l_holds) (pad_cons (pd_ix (pd_var 0) pd_int) (pad_cons (pd_ix (pd_var 7) pd_int) (pad_cons pd_non pad_nil)))))) pad_nil))))))))))))))))))
def N_is_integer : List Str := ["_law_number_here"]
theorem sc_is_integer : FnScope N_is_integer ["_law_number_here"] (defScope (top 65)) := ⟨rfl, rfl, rfl, by decide +kernel, rfl, by decide +kernel, by decide +kernel⟩
def T_is_integer : TDS := (dRet (dAndV (dIsi "int" (dVar 0)) (dNotV (dIsi "bool" (dVar 0)))))
theorem def_is_integer {P : Program} {w : World} {K : PySem.W.Frag} {mg : Str → Option Value} {base : Heap} (G : Gs K mg) {k : Nat} {sd : SD} (len : ∀ ss Q, sd ss Q → ss.length = 1)
    (pure : ∀ ss Q, sd ss Q → T_is_integer { nx := fun _ => Q (.d .non), rt := Q } (ss.map some ++ List.replicate 0 none)) : DefOk P w K mg base "_law_is_integer" (k + 1) ["_law_number_here"] sd := by
  refine ok_def G 23 rfl sc_is_integer (fun _ _ _ _ _ _ us hl => match us, hl with | [_], _ => rfl) len fun f cdv A outer s H E hr => ⟨_, ?_, pure⟩
  exact (psd_one (psd_ret (ped_and (pd_isi G.z_isinstance G.z_int (pd_var 0)) (ped_one (ped_not (pd_isi G.z_isinstance G.z_bool (pd_var 0)))))))
def N_is_string : List Str := ["_law_string", "_law_char_here"]
theorem sc_is_string : FnScope N_is_string ["_law_string"] (defScope (top 66)) := ⟨rfl, rfl, rfl, by decide +kernel, rfl, by decide +kernel, by decide +kernel⟩
def E_is_string_1 : TDE := (dAndV (d2 fLe (dC (.d (.str " "))) (dVar 1)) (dAndV (d2 fLe (dVar 1) (dC (.d (.str "~")))) (d2 fNe (dCB fOrd1 (aCons (dVar 1) aNil)) (dC (.d (.int 37))))))
def T_is_string : TDS := (dSeq (dIf (dNotT (dB (dIsi "str" (dVar 0)))) (dRet (dC (.d (.bl false)))) dNext)
 (dRet (dCB (fBools fun bs => bs.all id) (aCons (dLc 1 (iStrD (dVar 0)) dYes E_is_string_1) aNil))))
theorem def_is_string {P : Program} {w : World} {K : PySem.W.Frag} {mg : Str → Option Value} {base : Heap} (G : Gs K mg) {k : Nat} {sd : SD} (len : ∀ ss Q, sd ss Q → ss.length = 1)
    (pure : ∀ ss Q, sd ss Q → T_is_string { nx := fun _ => Q (.d .non), rt := Q } (ss.map some ++ List.replicate 1 none)) : DefOk P w K mg base "_law_is_string" (k + 1) ["_law_string"] sd := by
  refine ok_def G 24 rfl sc_is_string (fun _ _ _ _ _ _ us hl => match us, hl with | [_], _ => rfl) len fun f cdv A outer s H E hr => ⟨_, ?_, pure⟩
  exact (psd_cons (psd_if (ptd_not (pt_e (pd_isi G.z_isinstance G.z_str (pd_var 0)))) (psd_one (psd_ret pd_bl)) psd_nil)
 (psd_one (psd_ret (pd_callB (cr_all rfl) fAll_ok G.z_all (pad_cons (pd_lc 1 sc_is_string.nd (pid_str (pd_var 0)) (blkOk_by (own := [(("_law_char_here" : Str), 1)]) (N := N_is_string) (sc := defScope (top 66)) (by decide +kernel)) (fun _ _ _ _ _ => pg_name (i := 1) sc_is_string.nd rfl (Or.inl rfl)) (fun _ _ _ _ _ => ptsd_nil) (fun _ _ _ _ _ => (ped_and (pd_le pd_str (pd_var 1)) (ped_and (pd_le (pd_var 1) pd_str) (ped_one (pd_ne (pd_callB call_ord fOrd1_ok G.z_ord (pad_cons (pd_var 1) pad_nil)) pd_int)))))) pad_nil)))))
def N_is_token : List Str := ["_law_token_here"]
theorem sc_is_token : FnScope N_is_token ["_law_token_here"] (defScope (top 67)) := ⟨rfl, rfl, rfl, by decide +kernel, rfl, by decide +kernel, by decide +kernel⟩
def T_is_token (s_is_string s_is_integer : SD) : TDS := (dRet (dOrV (dCall s_is_string (aCons (dVar 0) aNil)) (dAndV (dCall s_is_integer (aCons (dVar 0) aNil)) (d2 fGe (dVar 0) (dC (.d (.int 0)))))))
theorem def_is_token {P : Program} {w : World} {K : PySem.W.Frag} {mg : Str → Option Value} {base : Heap} (G : Gs K mg) {k : Nat} {k_is_string k_is_integer : Nat} {s_is_string s_is_integer : SD} (h_is_string : DefOk P w K mg base "_law_is_string" k_is_string ["_law_string"] s_is_string) (l_is_string : k_is_string ≤ k) (h_is_integer : DefOk P w K mg base "_law_is_integer" k_is_integer ["_law_number_here"] s_is_integer) (l_is_integer : k_is_integer ≤ k) {sd : SD} (len : ∀ ss Q, sd ss Q → ss.length = 1)
    (pure : ∀ ss Q, sd ss Q → T_is_token s_is_string s_is_integer { nx := fun _ => Q (.d .non), rt := Q } (ss.map some ++ List.replicate 0 none)) : DefOk P w K mg base "_law_is_token" (k + 1) ["_law_token_here"] sd := by
  refine ok_def G 25 rfl sc_is_token (fun _ _ _ _ _ _ us hl => match us, hl with | [_], _ => rfl) len fun f cdv A outer s H E hr => ⟨_, ?_, pure⟩
  exact (psd_one (psd_ret (ped_or (pd_call h_is_string (hr.mono l_is_string) (pad_cons (pd_var 0) pad_nil)) (ped_one (ped_and (pd_call h_is_integer (hr.mono l_is_integer) (pad_cons (pd_var 0) pad_nil)) (ped_one (pd_ge (pd_var 0) pd_int)))))))
def N_formula_parts : List Str := ["_law_formula_here", "_law_plain", "_law_word", "_law_part", "_law_item", "_law_good"]
theorem sc_formula_parts : FnScope N_formula_parts ["_law_formula_here", "_law_plain"] (defScope (top 68)) := ⟨rfl, rfl, rfl, by decide +kernel, rfl, by decide +kernel, by decide +kernel⟩
def E_formula_parts_1 (s_is_token : SD) : TDE := (dAndV (dCall s_is_token (aCons (dVar 4) aNil)) (dOrV (d2 fEq (dVar 2) (dC (.d (.str "at")))) (dIsi "str" (dVar 4))))
def E_formula_parts_2 : TDE := (dTup (aCons (dVar 4) (aCons (dVar 1) aNil)))
def T_formula_parts (s_is_token s_is_integer s_is_string : SD) : TDS := (dSeq (dSet 2 (d2 fIx (dVar 0) (dC (.d (.int 0)))))
 (dSeq (dSet 3 (d2 fIx (dVar 0) (dNeg (dC (.d (.int 1))))))
 (dSeq (dIf (dB (d2 fEq (dCB fLen (aCons (dVar 0) aNil)) (dC (.d (.int 1))))) (dRet (dPick (dLst aNil) (dCB fInt (aCons (dOrV (d2 fEq (dVar 2) (dC (.d (.str "true")))) (d2 fEq (dVar 2) (dC (.d (.str "false"))))) aNil)))) dNext)
 (dSeq (dIf (dAndT (dB (d2 fEq (dCB fLen (aCons (dVar 0) aNil)) (dC (.d (.int 2))))) (dOrT (dB (d2 fEq (dVar 2) (dC (.d (.str "not"))))) (dAndT (dB (d2 fEq (dVar 2) (dC (.d (.str "held"))))) (dNotT (dB (dVar 1)))))) (dRet (dLst (aCons (dTup (aCons (dVar 3) (aCons (dOrV (dVar 1) (d2 fEq (dVar 2) (dC (.d (.str "held"))))) aNil))) aNil))) dNext)
 (dSeq (dIf (dAndT (dB (d2 fEq (dCB fLen (aCons (dVar 0) aNil)) (dC (.d (.int 2))))) (dAndT (dOrT (dB (d2 fEq (dVar 2) (dC (.d (.str "and"))))) (dB (d2 fEq (dVar 2) (dC (.d (.str "or")))))) (dB (dIsi "tuple" (dVar 3))))) (dRet (dLc 4 (iTupD (dVar 3)) dYes E_formula_parts_2)) dNext)
 (dSeq (dIf (dB (d2 fEq (dCB fLen (aCons (dVar 0) aNil)) (dC (.d (.int 2))))) (dSeq (dSet 5 (dAndV (d2 fEq (dVar 2) (dC (.d (.str "kind")))) (d2 (fIn false) (dVar 3) (dLst (aCons (dC (.d (.str "null"))) (aCons (dC (.d (.str "bool"))) (aCons (dC (.d (.str "int"))) (aCons (dC (.d (.str "text"))) (aCons (dC (.d (.str "list"))) (aCons (dC (.d (.str "object"))) aNil))))))))))
 (dSeq (dSet 5 (dOrV (dVar 5) (dOrV (dAndV (d2 fEq (dVar 2) (dC (.d (.str "bool_is")))) (dIsi "bool" (dVar 3))) (dAndV (d2 fEq (dVar 2) (dC (.d (.str "text_is")))) (dCall s_is_string (aCons (dVar 3) aNil))))))
 (dSeq (dSet 5 (dOrV (dVar 5) (dAndV (d2 fEq (dVar 2) (dC (.d (.str "int_from")))) (dCall s_is_integer (aCons (dVar 3) aNil)))))
 (dSeq (dSet 5 (dOrV (dVar 5) (dAndV (d2 (fIn false) (dVar 2) (dLst (aCons (dC (.d (.str "text_from"))) (aCons (dC (.d (.str "items_from"))) aNil)))) (dAndV (dCall s_is_integer (aCons (dVar 3) aNil)) (d2 fGe (dVar 3) (dC (.d (.int 0))))))))
 (dRet (dPick (dLst aNil) (dCB fInt (aCons (dVar 5) aNil)))))))) dNext)
 (dSeq (dSet 5 (dAndV (d2 fEq (dVar 2) (dC (.d (.str "each_item")))) (dAndV (dCall s_is_integer (aCons (d2 fIx (dVar 0) (dC (.d (.int 1)))) aNil)) (d2 fGe (d2 fIx (dVar 0) (dC (.d (.int 1)))) (dC (.d (.int 0)))))))
 (dSeq (dIf (dAndT (dOrT (dB (d2 fEq (dVar 2) (dC (.d (.str "at"))))) (dB (d2 fEq (dVar 2) (dC (.d (.str "each_field")))))) (dB (dIsi "tuple" (d2 fIx (dVar 0) (dC (.d (.int 1))))))) (dSet 5 (dCB (fBools fun bs => bs.all id) (aCons (dLc 4 (iTupD (d2 fIx (dVar 0) (dC (.d (.int 1))))) dYes (E_formula_parts_1 s_is_token)) aNil))) dNext)
 (dRet (dPick (dLst (aCons (dTup (aCons (dVar 3) (aCons (dC (.d (.bl true))) aNil))) aNil)) (dCB fInt (aCons (dVar 5) aNil))))))))))))
theorem def_formula_parts {P : Program} {w : World} {K : PySem.W.Frag} {mg : Str → Option Value} {base : Heap} (G : Gs K mg) {k : Nat} {k_is_token k_is_integer k_is_string : Nat} {s_is_token s_is_integer s_is_string : SD} (h_is_token : DefOk P w K mg base "_law_is_token" k_is_token ["_law_token_here"] s_is_token) (l_is_token : k_is_token ≤ k) (h_is_integer : DefOk P w K mg base "_law_is_integer" k_is_integer ["_law_number_here"] s_is_integer) (l_is_integer : k_is_integer ≤ k) (h_is_string : DefOk P w K mg base "_law_is_string" k_is_string ["_law_string"] s_is_string) (l_is_string : k_is_string ≤ k) {sd : SD} (len : ∀ ss Q, sd ss Q → ss.length = 2)
    (pure : ∀ ss Q, sd ss Q → T_formula_parts s_is_token s_is_integer s_is_string { nx := fun _ => Q (.d .non), rt := Q } (ss.map some ++ List.replicate 4 none)) : DefOk P w K mg base "_law_formula_parts" (k + 1) ["_law_formula_here", "_law_plain"] sd := by
  refine ok_def G 26 rfl sc_formula_parts (fun _ _ _ _ _ _ us hl => match us, hl with | [_, _], _ => rfl) len fun f cdv A outer s H E hr => ⟨_, ?_, pure⟩
  exact (psd_cons (psd_set 2 sc_formula_parts.nd (pd_ix (pd_var 0) pd_int))
 (psd_cons (psd_set 3 sc_formula_parts.nd (pd_ix (pd_var 0) (pd_neg pd_int)))
 (psd_cons (psd_if (pt_eq hr (pd_callB call_lenAll fLen_ok G.z_len (pad_cons (pd_var 0) pad_nil)) pd_int) (psd_one (psd_ret (pd_pick (pd_lst pad_nil) (pd_callTy call_int1 fInt_ok G.z_int (pad_cons (ped_or (pd_eq hr (pd_var 2) pd_str) (ped_one (pd_eq hr (pd_var 2) pd_str))) pad_nil))))) psd_nil)
 (psd_cons (psd_if (PW.pt (pwd_and (pt_eq hr (pd_callB call_lenAll fLen_ok G.z_len (pad_cons (pd_var 0) pad_nil)) pd_int) (pwd_and1 (PW.pt (pwd_or (pt_eq hr (pd_var 2) pd_str) (pwd_or1 (PW.pt (pwd_and (pt_eq hr (pd_var 2) pd_str) (pwd_and1 (ptd_not (pt_e (pd_var 1)))))))))))) (psd_one (psd_ret (pd_lst (pad_cons (pd_tup (pad_cons (pd_var 3) (pad_cons (ped_or (pd_var 1) (ped_one (pd_eq hr (pd_var 2) pd_str))) pad_nil))) pad_nil)))) psd_nil)
 (psd_cons (psd_if (PW.pt (pwd_and (pt_eq hr (pd_callB call_lenAll fLen_ok G.z_len (pad_cons (pd_var 0) pad_nil)) pd_int) (pwd_and (PW.pt (pwd_or (pt_eq hr (pd_var 2) pd_str) (pwd_or1 (pt_eq hr (pd_var 2) pd_str)))) (pwd_and1 (pt_e (pd_isi G.z_isinstance G.z_tuple (pd_var 3))))))) (psd_one (psd_ret (pd_lc 4 sc_formula_parts.nd (pid_tup (pd_var 3)) (blkOk_by (own := [(("_law_item" : Str), 4)]) (N := N_formula_parts) (sc := defScope (top 68)) (by decide +kernel)) (fun _ _ _ _ _ => pg_name (i := 4) sc_formula_parts.nd rfl (Or.inl rfl)) (fun _ _ _ _ _ => ptsd_nil) (fun _ _ _ _ _ => (pd_tup (pad_cons (pd_var 4) (pad_cons (pd_var 1) pad_nil))))))) psd_nil)
 (psd_cons (psd_if (pt_eq hr (pd_callB call_lenAll fLen_ok G.z_len (pad_cons (pd_var 0) pad_nil)) pd_int) (psd_cons (psd_set 5 sc_formula_parts.nd (ped_and (pd_eq hr (pd_var 2) pd_str) (ped_one (pd_in (pd_var 3) (pd_lst (pad_cons pd_str (pad_cons pd_str (pad_cons pd_str (pad_cons pd_str (pad_cons pd_str (pad_cons pd_str pad_nil)))))))))))
 (psd_cons (psd_set 5 sc_formula_parts.nd (ped_or (pd_var 5) (ped_or (ped_and (pd_eq hr (pd_var 2) pd_str) (ped_one (pd_isi G.z_isinstance G.z_bool (pd_var 3)))) (ped_one (ped_and (pd_eq hr (pd_var 2) pd_str) (ped_one (pd_call h_is_string (hr.mono l_is_string) (pad_cons (pd_var 3) pad_nil))))))))
 (psd_cons (psd_set 5 sc_formula_parts.nd (ped_or (pd_var 5) (ped_one (ped_and (pd_eq hr (pd_var 2) pd_str) (ped_one (pd_call h_is_integer (hr.mono l_is_integer) (pad_cons (pd_var 3) pad_nil)))))))
 (psd_cons (psd_set 5 sc_formula_parts.nd (ped_or (pd_var 5) (ped_one (ped_and (pd_in (pd_var 2) (pd_lst (pad_cons pd_str (pad_cons pd_str pad_nil)))) (ped_and (pd_call h_is_integer (hr.mono l_is_integer) (pad_cons (pd_var 3) pad_nil)) (ped_one (pd_ge (pd_var 3) pd_int)))))))
 (psd_one (psd_ret (pd_pick (pd_lst pad_nil) (pd_callTy call_int1 fInt_ok G.z_int (pad_cons (pd_var 5) pad_nil))))))))) psd_nil)
 (psd_cons (psd_set 5 sc_formula_parts.nd (ped_and (pd_eq hr (pd_var 2) pd_str) (ped_and (pd_call h_is_integer (hr.mono l_is_integer) (pad_cons (pd_ix (pd_var 0) pd_int) pad_nil)) (ped_one (pd_ge (pd_ix (pd_var 0) pd_int) pd_int)))))
 (psd_cons (psd_if (PW.pt (pwd_and (PW.pt (pwd_or (pt_eq hr (pd_var 2) pd_str) (pwd_or1 (pt_eq hr (pd_var 2) pd_str)))) (pwd_and1 (pt_e (pd_isi G.z_isinstance G.z_tuple (pd_ix (pd_var 0) pd_int)))))) (psd_one (psd_set 5 sc_formula_parts.nd (pd_callB (cr_all rfl) fAll_ok G.z_all (pad_cons (pd_lc 4 sc_formula_parts.nd (pid_tup (pd_ix (pd_var 0) pd_int)) (blkOk_by (own := [(("_law_item" : Str), 4)]) (N := N_formula_parts) (sc := defScope (top 68)) (by decide +kernel)) (fun _ _ _ _ _ => pg_name (i := 4) sc_formula_parts.nd rfl (Or.inl rfl)) (fun _ _ _ _ _ => ptsd_nil) (fun _ _ _ _ _ => (ped_and (pd_call h_is_token (hr.mono l_is_token) (pad_cons (pd_var 4) pad_nil)) (ped_one (ped_or (pd_eq hr (pd_var 2) pd_str) (ped_one (pd_isi G.z_isinstance G.z_str (pd_var 4)))))))) pad_nil)))) psd_nil)
 (psd_one (psd_ret (pd_pick (pd_lst (pad_cons (pd_tup (pad_cons (pd_var 3) (pad_cons pd_bl pad_nil))) pad_nil)) (pd_callTy call_int1 fInt_ok G.z_int (pad_cons (pd_var 5) pad_nil)))))))))))))
def N_is_formula : List Str := ["_law_formula_here", "_law_plain", "_law_depth", "_law_level", "_law_k", "_law_below", "_law_row", "_law_parts_here"]
theorem sc_is_formula : FnScope N_is_formula ["_law_formula_here", "_law_plain", "_law_depth"] (defScope (top 69)) := ⟨rfl, rfl, rfl, by decide +kernel, rfl, by decide +kernel, by decide +kernel⟩
def B_is_formula_1 (s_formula_parts : SD) : TDS := (dSeq (dIf (dOrT (dNotT (dB (dIsi "tuple" (d2 fIx (dVar 6) (dC (.d (.int 0))))))) (dB (dNi3 1 2 3 (dCB fLen (aCons (d2 fIx (dVar 6) (dC (.d (.int 0)))) aNil))))) (dRet (dC (.d (.bl false)))) dNext)
 (dSeq (dSet 7 (dCall s_formula_parts (aCons (d2 fIx (dVar 6) (dC (.d (.int 0)))) (aCons (d2 fIx (dVar 6) (dC (.d (.int 1)))) aNil))))
 (dSeq (dIf (dIsNT (dVar 7)) (dRet (dC (.d (.bl false)))) dNext)
 (dExtV 5 7))))
def B_is_formula_2 (s_formula_parts : SD) : TDS := (dSeq (dSet 5 (dLst aNil))
 (dSeq (dForVar 6 3 (B_is_formula_1 s_formula_parts))
 (dMove 3 5)))
def T_is_formula (s_formula_parts : SD) : TDS := (dSeq (dSet 3 (dLst (aCons (dTup (aCons (dVar 0) (aCons (dVar 1) aNil))) aNil)))
 (dSeq (dForRng 4 (iRng1D (aCons (dVar 2) aNil)) (B_is_formula_2 s_formula_parts))
 (dRet (d2 fEq (dCB fLen (aCons (dVar 3) aNil)) (dC (.d (.int 0)))))))
theorem def_is_formula {P : Program} {w : World} {K : PySem.W.Frag} {mg : Str → Option Value} {base : Heap} (G : Gs K mg) {k : Nat} {k_formula_parts : Nat} {s_formula_parts : SD} (h_formula_parts : DefOk P w K mg base "_law_formula_parts" k_formula_parts ["_law_formula_here", "_law_plain"] s_formula_parts) (l_formula_parts : k_formula_parts ≤ k) {sd : SD} (len : ∀ ss Q, sd ss Q → ss.length = 3)
    (pure : ∀ ss Q, sd ss Q → T_is_formula s_formula_parts { nx := fun _ => Q (.d .non), rt := Q } (ss.map some ++ List.replicate 5 none)) : DefOk P w K mg base "_law_is_formula" (k + 1) ["_law_formula_here", "_law_plain", "_law_depth"] sd := by
  refine ok_def G 27 rfl sc_is_formula (fun _ _ _ _ _ _ us hl => match us, hl with | [_, _, _], _ => rfl) len fun f cdv A outer s H E hr => ⟨_, ?_, pure⟩
  exact (psd_cons (psd_set 3 sc_is_formula.nd (pd_lst (pad_cons (pd_tup (pad_cons (pd_var 0) (pad_cons (pd_var 1) pad_nil))) pad_nil)))
 (psd_cons (psd_for_rng 4 PassesOwn.never G.z_range (pad_cons (pd_var 2) pad_nil) (pg_name (i := 4) sc_is_formula.nd rfl (by first | exact Or.inl rfl | exact Or.inr rfl)) (psd_cons (psd_set 5 sc_is_formula.nd (pd_lst pad_nil))
 (psd_cons (psd_for_var 6 3 PassesOwn.never (pg_name (i := 6) sc_is_formula.nd rfl (by first | exact Or.inl rfl | exact Or.inr rfl)) (psd_cons (psd_if (PW.pt (pwd_or (ptd_not (pt_e (pd_isi G.z_isinstance G.z_tuple (pd_ix (pd_var 6) pd_int)))) (pwd_or1 (pt_ni3 (pd_callB call_lenAll fLen_ok G.z_len (pad_cons (pd_ix (pd_var 6) pd_int) pad_nil)))))) (psd_one (psd_ret pd_bl)) psd_nil)
 (psd_cons (psd_set 7 sc_is_formula.nd (pd_call h_formula_parts (hr.mono l_formula_parts) (pad_cons (pd_ix (pd_var 6) pd_int) (pad_cons (pd_ix (pd_var 6) pd_int) pad_nil))))
 (psd_cons (psd_if (pt_isN (pd_var 7)) (psd_one (psd_ret pd_bl)) psd_nil)
 (psd_one (psd_extV 5 7))))))
 (psd_one (psd_move 3 5 sc_is_formula.nd)))))
 (psd_one (psd_ret (pd_eq hr (pd_callB call_lenAll fLen_ok G.z_len (pad_cons (pd_var 3) pad_nil)) pd_int)))))
end Pk

/-! ## G3 -/
set_option Elab.async false
set_option linter.all false
set_option maxRecDepth 100000
set_option maxHeartbeats 4000000
namespace Pk
open PySem PySem.Spec PyProof.Rows L2
def N_cell : List Str := ["_law_script", "_law_k"]
theorem sc_cell : FnScope N_cell ["_law_script", "_law_k"] (defScope (top 70)) := ⟨rfl, rfl, rfl, by decide +kernel, rfl, by decide +kernel, by decide +kernel⟩
def T_cell : TDS := (dSeq (dIf (dB (d2 fLt (dVar 1) (dCB fLen (aCons (dVar 0) aNil)))) (dRet (d2 fIx (dVar 0) (dVar 1))) dNext)
 (dRet (dC (.d (.int 0)))))
theorem def_cell {P : Program} {w : World} {K : PySem.W.Frag} {mg : Str → Option Value} {base : Heap} (G : Gs K mg) {k : Nat} {sd : SD} (len : ∀ ss Q, sd ss Q → ss.length = 2)
    (pure : ∀ ss Q, sd ss Q → T_cell { nx := fun _ => Q (.d .non), rt := Q } (ss.map some ++ List.replicate 0 none)) : DefOk P w K mg base "_law_cell" (k + 1) ["_law_script", "_law_k"] sd := by
  refine ok_def G 28 rfl sc_cell (fun _ _ _ _ _ _ us hl => match us, hl with | [_, _], _ => rfl) len fun f cdv A outer s H E hr => ⟨_, ?_, pure⟩
  exact (psd_cons (psd_if (pt_lt (pd_var 1) (pd_callB call_lenAll fLen_ok G.z_len (pad_cons (pd_var 0) pad_nil))) (psd_one (psd_ret (pd_ix (pd_var 0) (pd_var 1)))) psd_nil)
 (psd_one (psd_ret pd_int)))
def N_source : List Str := ["_law_cell_here"]
theorem sc_source : FnScope N_source ["_law_cell_here"] (defScope (top 71)) := ⟨rfl, rfl, rfl, by decide +kernel, rfl, by decide +kernel, by decide +kernel⟩
def T_source : TDS := (dRet (dSrc3 (dVar 0) (dCB fInt (aCons (d2 fGe (dVar 0) (d2 fPow (dC (.d (.int 10))) (dC (.d (.int 18))))) aNil)) (dC (.d (.int 0)))))
theorem def_source {P : Program} {w : World} {K : PySem.W.Frag} {mg : Str → Option Value} {base : Heap} (G : Gs K mg) {k : Nat} {sd : SD} (len : ∀ ss Q, sd ss Q → ss.length = 1)
    (pure : ∀ ss Q, sd ss Q → T_source { nx := fun _ => Q (.d .non), rt := Q } (ss.map some ++ List.replicate 0 none)) : DefOk P w K mg base "_law_source" (k + 1) ["_law_cell_here"] sd := by
  refine ok_def G 29 rfl sc_source (fun _ _ _ _ _ _ us hl => match us, hl with | [_], _ => rfl) len fun f cdv A outer s H E hr => ⟨_, ?_, pure⟩
  exact (psd_one (psd_ret (pd_src3 (pd_var 0) (pd_callTy call_int1 fInt_ok G.z_int (pad_cons (pd_ge (pd_var 0) (pd_pow pd_int pd_int)) pad_nil)) pd_int)))
def N_draw : List Str := ["_law_source_here", "_law_many", "_law_digit", "_law_mixed_here"]
theorem sc_draw : FnScope N_draw ["_law_source_here", "_law_many"] (defScope (top 72)) := ⟨rfl, rfl, rfl, by decide +kernel, rfl, by decide +kernel, by decide +kernel⟩
def T_draw : TDS := (dSeq (dIf (dB (d2 fEq (dIxS 0) (dC (.d (.int 1))))) (dSeq (dSet 2 (d2 fMod (dCB fInt (aCons (dIxS 0) aNil)) (dVar 1)))
 (dSeq (dSetS 0 (d2 fDiv (dIxS 0) (dVar 1)))
 (dRet (dVar 2)))) dNext)
 (dSeq (dSetS 0 (d2 fAdd (dIxS 0) (dC (.d (.int 1)))))
 (dSeq (dSet 3 (d2 fMod (dCB fInt (aCons (d2 fAdd (d2 fMul (dIxS 0) (dC (.d (.int 48271)))) (d2 fMul (dIxS 0) (dC (.d (.int 69621))))) aNil)) (dC (.d (.int 2147483647)))))
 (dSeq (dSet 3 (d2 fMod (dCB fInt (aCons (d2 fAdd (d2 fAdd (d2 fMul (dVar 3) (dVar 3)) (d2 fMul (dIxS 0) (dC (.d (.int 7919))))) (d2 fDiv (dVar 3) (dC (.d (.int 1024))))) aNil)) (dC (.d (.int 2147483629)))))
 (dRet (d2 fMod (dCB fInt (aCons (d2 fDiv (dVar 3) (dC (.d (.int 32)))) aNil)) (dVar 1)))))))
theorem def_draw {P : Program} {w : World} {K : PySem.W.Frag} {mg : Str → Option Value} {base : Heap} (G : Gs K mg) {k : Nat} {sd : SD} (len : ∀ ss Q, sd ss Q → ss.length = 2)
    (pure : ∀ ss Q, sd ss Q → T_draw { nx := fun _ => Q (.d .non), rt := Q } (ss.map some ++ List.replicate 2 none)) : DefOk P w K mg base "_law_draw" (k + 1) ["_law_source_here", "_law_many"] sd := by
  refine ok_def G 30 rfl sc_draw (fun _ _ _ _ _ _ us hl => match us, hl with | [_, _], _ => rfl) len fun f cdv A outer s H E hr => ⟨_, ?_, pure⟩
  exact (psd_cons (psd_if (pt_eq hr (pd_ixS 0) pd_int) (psd_cons (psd_set 2 sc_draw.nd (pd_mod (pd_callTy call_int1 fInt_ok G.z_int (pad_cons (pd_ixS 0) pad_nil)) (pd_var 1)))
 (psd_cons (psd_setS 0 (pd_div (pd_ixS 0) (pd_var 1)))
 (psd_one (psd_ret (pd_var 2))))) psd_nil)
 (psd_cons (psd_setS 0 (pd_add (pd_ixS 0) pd_int))
 (psd_cons (psd_set 3 sc_draw.nd (pd_mod (pd_callTy call_int1 fInt_ok G.z_int (pad_cons (pd_add (pd_mul (pd_ixS 0) pd_int) (pd_mul (pd_ixS 0) pd_int)) pad_nil)) pd_int))
 (psd_cons (psd_set 3 sc_draw.nd (pd_mod (pd_callTy call_int1 fInt_ok G.z_int (pad_cons (pd_add (pd_add (pd_mul (pd_var 3) (pd_var 3)) (pd_mul (pd_ixS 0) pd_int)) (pd_div (pd_var 3) pd_int)) pad_nil)) pd_int))
 (psd_one (psd_ret (pd_mod (pd_callTy call_int1 fInt_ok G.z_int (pad_cons (pd_div (pd_var 3) pd_int) pad_nil)) (pd_var 1))))))))
def N_char : List Str := ["_law_source_here", "_law_chars"]
theorem sc_char : FnScope N_char ["_law_source_here"] (defScope (top 73)) := ⟨rfl, rfl, rfl, by decide +kernel, rfl, by decide +kernel, by decide +kernel⟩
def T_char (s_draw : SD) : TDS := (dSeq (dSet 1 (dC (.d (.str " !\"#$&'()*+,-./0123456789:;<=>?@ABCDEFGHIJKLMNOPQRSTUVWXYZ[\\]^_`"))))
 (dSeq (dSet 1 (d2 fAdd (dVar 1) (dC (.d (.str "abcdefghijklmnopqrstuvwxyz{|}~")))))
 (dRet (d2 fIx (dVar 1) (dCall s_draw (aCons (dVar 0) (aCons (dC (.d (.int 94))) aNil)))))))
theorem def_char {P : Program} {w : World} {K : PySem.W.Frag} {mg : Str → Option Value} {base : Heap} (G : Gs K mg) {k : Nat} {k_draw : Nat} {s_draw : SD} (h_draw : DefOk P w K mg base "_law_draw" k_draw ["_law_source_here", "_law_many"] s_draw) (l_draw : k_draw ≤ k) {sd : SD} (len : ∀ ss Q, sd ss Q → ss.length = 1)
    (pure : ∀ ss Q, sd ss Q → T_char s_draw { nx := fun _ => Q (.d .non), rt := Q } (ss.map some ++ List.replicate 1 none)) : DefOk P w K mg base "_law_char" (k + 1) ["_law_source_here"] sd := by
  refine ok_def G 31 rfl sc_char (fun _ _ _ _ _ _ us hl => match us, hl with | [_], _ => rfl) len fun f cdv A outer s H E hr => ⟨_, ?_, pure⟩
  exact (psd_cons (psd_set 1 sc_char.nd pd_str)
 (psd_cons (psd_set 1 sc_char.nd (pd_add (pd_var 1) pd_str))
 (psd_one (psd_ret (pd_ix (pd_var 1) (pd_call h_draw (hr.mono l_draw) (pad_cons (pd_var 0) (pad_cons pd_int pad_nil))))))))
def N_name : List Str := ["_law_source_here", "_law_k", "_law_j"]
theorem sc_name : FnScope N_name ["_law_source_here"] (defScope (top 74)) := ⟨rfl, rfl, rfl, by decide +kernel, rfl, by decide +kernel, by decide +kernel⟩
def E_name_1 (s_char : SD) : TDE := (dCall s_char (aCons (dVar 0) aNil))
def T_name (s_draw s_char : SD) : TDS := (dSeq (dSet 1 (dCall s_draw (aCons (dVar 0) (aCons (dC (.d (.int 10))) aNil))))
 (dSeq (dIf (dB (d2 fLt (dVar 1) (dC (.d (.int 8))))) (dRet (d2 fIx (dLst (aCons (dC (.d (.str "a"))) (aCons (dC (.d (.str "b"))) (aCons (dC (.d (.str "c"))) (aCons (dC (.d (.str "ab"))) (aCons (dC (.d (.str ""))) (aCons (dC (.d (.str "z9"))) (aCons (dC (.d (.str "B"))) (aCons (dC (.d (.str "ba"))) aNil))))))))) (dVar 1))) dNext)
 (dSeq (dIf (dB (d2 fEq (dCall s_draw (aCons (dVar 0) (aCons (dC (.d (.int 3))) aNil))) (dC (.d (.int 0))))) (dRet (d2 fAdd (d2 fAdd (d2 fMul (dC (.d (.str "name"))) (dCall s_draw (aCons (dVar 0) (aCons (dC (.d (.int 4))) aNil)))) (dCall s_char (aCons (dVar 0) aNil))) (d2 fMul (dC (.d (.str "name"))) (dCall s_draw (aCons (dVar 0) (aCons (dC (.d (.int 3))) aNil)))))) dNext)
 (dRet (dJoin (dC (.d (.str ""))) (dLc 2 (iRng1D (aCons (dCall s_draw (aCons (dVar 0) (aCons (dC (.d (.int 4))) aNil))) aNil)) dYes (E_name_1 s_char)))))))
theorem def_name {P : Program} {w : World} {K : PySem.W.Frag} {mg : Str → Option Value} {base : Heap} (G : Gs K mg) {k : Nat} {k_draw k_char : Nat} {s_draw s_char : SD} (h_draw : DefOk P w K mg base "_law_draw" k_draw ["_law_source_here", "_law_many"] s_draw) (l_draw : k_draw ≤ k) (h_char : DefOk P w K mg base "_law_char" k_char ["_law_source_here"] s_char) (l_char : k_char ≤ k) {sd : SD} (len : ∀ ss Q, sd ss Q → ss.length = 1)
    (pure : ∀ ss Q, sd ss Q → T_name s_draw s_char { nx := fun _ => Q (.d .non), rt := Q } (ss.map some ++ List.replicate 2 none)) : DefOk P w K mg base "_law_name" (k + 1) ["_law_source_here"] sd := by
  refine ok_def G 32 rfl sc_name (fun _ _ _ _ _ _ us hl => match us, hl with | [_], _ => rfl) len fun f cdv A outer s H E hr => ⟨_, ?_, pure⟩
  exact (psd_cons (psd_set 1 sc_name.nd (pd_call h_draw (hr.mono l_draw) (pad_cons (pd_var 0) (pad_cons pd_int pad_nil))))
 (psd_cons (psd_if (pt_lt (pd_var 1) pd_int) (psd_one (psd_ret (pd_ix (pd_lst (pad_cons pd_str (pad_cons pd_str (pad_cons pd_str (pad_cons pd_str (pad_cons pd_str (pad_cons pd_str (pad_cons pd_str (pad_cons pd_str pad_nil))))))))) (pd_var 1)))) psd_nil)
 (psd_cons (psd_if (pt_eq hr (pd_call h_draw (hr.mono l_draw) (pad_cons (pd_var 0) (pad_cons pd_int pad_nil))) pd_int) (psd_one (psd_ret (pd_add (pd_add (pd_mul pd_str (pd_call h_draw (hr.mono l_draw) (pad_cons (pd_var 0) (pad_cons pd_int pad_nil)))) (pd_call h_char (hr.mono l_char) (pad_cons (pd_var 0) pad_nil))) (pd_mul pd_str (pd_call h_draw (hr.mono l_draw) (pad_cons (pd_var 0) (pad_cons pd_int pad_nil))))))) psd_nil)
 (psd_one (psd_ret (pd_join pd_str (pd_lc 2 sc_name.nd (pid_range1 G.z_range (pad_cons (pd_call h_draw (hr.mono l_draw) (pad_cons (pd_var 0) (pad_cons pd_int pad_nil))) pad_nil)) (blkOk_by (own := [(("_law_j" : Str), 2)]) (N := N_name) (sc := defScope (top 74)) (by decide +kernel)) (fun _ _ _ _ _ => pg_name (i := 2) sc_name.nd rfl (Or.inl rfl)) (fun _ _ _ _ _ => ptsd_nil) (fun _ _ _ _ _ => (pd_call h_char (hr.mono l_char) (pad_cons (pd_var 0) pad_nil))))))))))
def N_number : List Str := ["_law_source_here", "_law_k"]
theorem sc_number : FnScope N_number ["_law_source_here"] (defScope (top 75)) := ⟨rfl, rfl, rfl, by decide +kernel, rfl, by decide +kernel, by decide +kernel⟩
def T_number (s_draw : SD) : TDS := (dSeq (dSet 1 (dCall s_draw (aCons (dVar 0) (aCons (dC (.d (.int 6))) aNil))))
 (dSeq (dIf (dB (d2 fEq (dVar 1) (dC (.d (.int 0))))) (dRet (d2 fSub (dCall s_draw (aCons (dVar 0) (aCons (dC (.d (.int 2000))) aNil))) (dC (.d (.int 1000))))) dNext)
 (dSeq (dIf (dB (d2 fEq (dVar 1) (dC (.d (.int 1))))) (dRet (d2 fSub (dCall s_draw (aCons (dVar 0) (aCons (d2 fPow (dC (.d (.int 10))) (dC (.d (.int 20)))) aNil))) (d2 fMul (dC (.d (.int 5))) (d2 fPow (dC (.d (.int 10))) (dC (.d (.int 19))))))) dNext)
 (dRet (d2 fSub (dCall s_draw (aCons (dVar 0) (aCons (dC (.d (.int 7))) aNil))) (dC (.d (.int 2))))))))
theorem def_number {P : Program} {w : World} {K : PySem.W.Frag} {mg : Str → Option Value} {base : Heap} (G : Gs K mg) {k : Nat} {k_draw : Nat} {s_draw : SD} (h_draw : DefOk P w K mg base "_law_draw" k_draw ["_law_source_here", "_law_many"] s_draw) (l_draw : k_draw ≤ k) {sd : SD} (len : ∀ ss Q, sd ss Q → ss.length = 1)
    (pure : ∀ ss Q, sd ss Q → T_number s_draw { nx := fun _ => Q (.d .non), rt := Q } (ss.map some ++ List.replicate 1 none)) : DefOk P w K mg base "_law_number" (k + 1) ["_law_source_here"] sd := by
  refine ok_def G 33 rfl sc_number (fun _ _ _ _ _ _ us hl => match us, hl with | [_], _ => rfl) len fun f cdv A outer s H E hr => ⟨_, ?_, pure⟩
  exact (psd_cons (psd_set 1 sc_number.nd (pd_call h_draw (hr.mono l_draw) (pad_cons (pd_var 0) (pad_cons pd_int pad_nil))))
 (psd_cons (psd_if (pt_eq hr (pd_var 1) pd_int) (psd_one (psd_ret (pd_sub (pd_call h_draw (hr.mono l_draw) (pad_cons (pd_var 0) (pad_cons pd_int pad_nil))) pd_int))) psd_nil)
 (psd_cons (psd_if (pt_eq hr (pd_var 1) pd_int) (psd_one (psd_ret (pd_sub (pd_call h_draw (hr.mono l_draw) (pad_cons (pd_var 0) (pad_cons (pd_pow pd_int pd_int) pad_nil))) (pd_mul pd_int (pd_pow pd_int pd_int))))) psd_nil)
 (psd_one (psd_ret (pd_sub (pd_call h_draw (hr.mono l_draw) (pad_cons (pd_var 0) (pad_cons pd_int pad_nil))) pd_int))))))
def N_leaf : List Str := ["_law_source_here", "_law_k"]
theorem sc_leaf : FnScope N_leaf ["_law_source_here"] (defScope (top 76)) := ⟨rfl, rfl, rfl, by decide +kernel, rfl, by decide +kernel, by decide +kernel⟩
def T_leaf (s_name s_number s_draw : SD) : TDS := (dSeq (dSet 1 (dCall s_draw (aCons (dVar 0) (aCons (dC (.d (.int 8))) aNil))))
 (dSeq (dIf (dB (d2 fEq (dVar 1) (dC (.d (.int 0))))) (dRet (dTup (aCons (dC (.d (.str "null"))) aNil))) dNext)
 (dSeq (dIf (dB (d2 fEq (dVar 1) (dC (.d (.int 1))))) (dRet (dTup (aCons (dC (.d (.str "bool"))) (aCons (d2 fEq (dCall s_draw (aCons (dVar 0) (aCons (dC (.d (.int 2))) aNil))) (dC (.d (.int 1)))) aNil)))) dNext)
 (dSeq (dIf (dB (d2 fLt (dVar 1) (dC (.d (.int 5))))) (dRet (dTup (aCons (dC (.d (.str "int"))) (aCons (dCall s_number (aCons (dVar 0) aNil)) aNil)))) dNext)
 (dRet (dTup (aCons (dC (.d (.str "text"))) (aCons (dCall s_name (aCons (dVar 0) aNil)) aNil))))))))
theorem def_leaf {P : Program} {w : World} {K : PySem.W.Frag} {mg : Str → Option Value} {base : Heap} (G : Gs K mg) {k : Nat} {k_name k_number k_draw : Nat} {s_name s_number s_draw : SD} (h_name : DefOk P w K mg base "_law_name" k_name ["_law_source_here"] s_name) (l_name : k_name ≤ k) (h_number : DefOk P w K mg base "_law_number" k_number ["_law_source_here"] s_number) (l_number : k_number ≤ k) (h_draw : DefOk P w K mg base "_law_draw" k_draw ["_law_source_here", "_law_many"] s_draw) (l_draw : k_draw ≤ k) {sd : SD} (len : ∀ ss Q, sd ss Q → ss.length = 1)
    (pure : ∀ ss Q, sd ss Q → T_leaf s_name s_number s_draw { nx := fun _ => Q (.d .non), rt := Q } (ss.map some ++ List.replicate 1 none)) : DefOk P w K mg base "_law_leaf" (k + 1) ["_law_source_here"] sd := by
  refine ok_def G 34 rfl sc_leaf (fun _ _ _ _ _ _ us hl => match us, hl with | [_], _ => rfl) len fun f cdv A outer s H E hr => ⟨_, ?_, pure⟩
  exact (psd_cons (psd_set 1 sc_leaf.nd (pd_call h_draw (hr.mono l_draw) (pad_cons (pd_var 0) (pad_cons pd_int pad_nil))))
 (psd_cons (psd_if (pt_eq hr (pd_var 1) pd_int) (psd_one (psd_ret (pd_tup (pad_cons pd_str pad_nil)))) psd_nil)
 (psd_cons (psd_if (pt_eq hr (pd_var 1) pd_int) (psd_one (psd_ret (pd_tup (pad_cons pd_str (pad_cons (pd_eq hr (pd_call h_draw (hr.mono l_draw) (pad_cons (pd_var 0) (pad_cons pd_int pad_nil))) pd_int) pad_nil))))) psd_nil)
 (psd_cons (psd_if (pt_lt (pd_var 1) pd_int) (psd_one (psd_ret (pd_tup (pad_cons pd_str (pad_cons (pd_call h_number (hr.mono l_number) (pad_cons (pd_var 0) pad_nil)) pad_nil))))) psd_nil)
 (psd_one (psd_ret (pd_tup (pad_cons pd_str (pad_cons (pd_call h_name (hr.mono l_name) (pad_cons (pd_var 0) pad_nil)) pad_nil)))))))))
def N_object : List Str := ["_law_pairs", "_law_made", "_law_pair"]
theorem sc_object : FnScope N_object ["_law_pairs"] (defScope (top 77)) := ⟨rfl, rfl, rfl, by decide +kernel, rfl, by decide +kernel, by decide +kernel⟩
def B_object_1 (s_with : SD) : TDS := (dSet 1 (dCall s_with (aCons (dVar 1) (aCons (d2 fIx (dVar 2) (dC (.d (.int 0)))) (aCons (d2 fIx (dVar 2) (dC (.d (.int 1)))) aNil)))))
def T_object (s_with : SD) : TDS := (dSeq (dSet 1 (dTup (aCons (dC (.d (.str "object"))) (aCons (dTup aNil) aNil))))
 (dSeq (dForVar 2 0 (B_object_1 s_with))
 (dRet (dVar 1))))
theorem def_object {P : Program} {w : World} {K : PySem.W.Frag} {mg : Str → Option Value} {base : Heap} (G : Gs K mg) {k : Nat} {k_with : Nat} {s_with : SD} (h_with : DefOk P w K mg base "_law_with" k_with ["_law_value_here", "_law_token_here", "_law_new"] s_with) (l_with : k_with ≤ k) {sd : SD} (len : ∀ ss Q, sd ss Q → ss.length = 1)
    (pure : ∀ ss Q, sd ss Q → T_object s_with { nx := fun _ => Q (.d .non), rt := Q } (ss.map some ++ List.replicate 2 none)) : DefOk P w K mg base "_law_object" (k + 1) ["_law_pairs"] sd := by
  refine ok_def G 35 rfl sc_object (fun _ _ _ _ _ _ us hl => match us, hl with | [_], _ => rfl) len fun f cdv A outer s H E hr => ⟨_, ?_, pure⟩
  exact (psd_cons (psd_set 1 sc_object.nd (pd_tup (pad_cons pd_str (pad_cons (pd_tup pad_nil) pad_nil))))
 (psd_cons (psd_for_var 2 0 PassesOwn.never (pg_name (i := 2) sc_object.nd rfl (by first | exact Or.inl rfl | exact Or.inr rfl)) (psd_one (psd_set 1 sc_object.nd (pd_call h_with (hr.mono l_with) (pad_cons (pd_var 1) (pad_cons (pd_ix (pd_var 2) pd_int) (pad_cons (pd_ix (pd_var 2) pd_int) pad_nil)))))))
 (psd_one (psd_ret (pd_var 1)))))
def N_value : List Str := ["_law_source_here", "_law_depth", "_law_k", "_law_j"]
theorem sc_value : FnScope N_value ["_law_source_here", "_law_depth"] (defScope (top 78)) := ⟨rfl, rfl, rfl, by decide +kernel, rfl, by decide +kernel, by decide +kernel⟩
def E_value_1 (s_name s_value : SD) : TDE := (dTup (aCons (dCall s_name (aCons (dVar 0) aNil)) (aCons (dCall s_value (aCons (dVar 0) (aCons (d2 fSub (dVar 1) (dC (.d (.int 1)))) aNil))) aNil)))
def E_value_2 (s_value : SD) : TDE := (dCall s_value (aCons (dVar 0) (aCons (d2 fSub (dVar 1) (dC (.d (.int 1)))) aNil)))
def T_value (s_draw s_value s_name s_object s_leaf : SD) : TDS := (dSeq (dSet 2 (dCall s_draw (aCons (dVar 0) (aCons (dC (.d (.int 9))) aNil))))
 (dSeq (dIf (dOrT (dB (d2 fLt (dVar 1) (dC (.d (.int 2))))) (dB (d2 fLt (dVar 2) (dC (.d (.int 3)))))) (dRet (dCall s_leaf (aCons (dVar 0) aNil))) dNext)
 (dSeq (dIf (dB (d2 fLt (dVar 2) (dC (.d (.int 6))))) (dRet (dTup (aCons (dC (.d (.str "list"))) (aCons (dCB fTuple (aCons (dLc 3 (iRng1D (aCons (dCall s_draw (aCons (dVar 0) (aCons (dC (.d (.int 4))) aNil))) aNil)) dYes (E_value_2 s_value)) aNil)) aNil)))) dNext)
 (dRet (dCall s_object (aCons (dLc 3 (iRng1D (aCons (dCall s_draw (aCons (dVar 0) (aCons (dC (.d (.int 4))) aNil))) aNil)) dYes (E_value_1 s_name s_value)) aNil))))))
theorem def_value {P : Program} {w : World} {K : PySem.W.Frag} {mg : Str → Option Value} {base : Heap} (G : Gs K mg) {k : Nat} {k_draw k_value k_name k_object k_leaf : Nat} {s_draw s_value s_name s_object s_leaf : SD} (h_draw : DefOk P w K mg base "_law_draw" k_draw ["_law_source_here", "_law_many"] s_draw) (l_draw : k_draw ≤ k) (h_value : DefOk P w K mg base "_law_value" k_value ["_law_source_here", "_law_depth"] s_value) (l_value : k_value ≤ k) (h_name : DefOk P w K mg base "_law_name" k_name ["_law_source_here"] s_name) (l_name : k_name ≤ k) (h_object : DefOk P w K mg base "_law_object" k_object ["_law_pairs"] s_object) (l_object : k_object ≤ k) (h_leaf : DefOk P w K mg base "_law_leaf" k_leaf ["_law_source_here"] s_leaf) (l_leaf : k_leaf ≤ k) {sd : SD} (len : ∀ ss Q, sd ss Q → ss.length = 2)
    (pure : ∀ ss Q, sd ss Q → T_value s_draw s_value s_name s_object s_leaf { nx := fun _ => Q (.d .non), rt := Q } (ss.map some ++ List.replicate 2 none)) : DefOk P w K mg base "_law_value" (k + 1) ["_law_source_here", "_law_depth"] sd := by
  refine ok_def G 36 rfl sc_value (fun _ _ _ _ _ _ us hl => match us, hl with | [_, _], _ => rfl) len fun f cdv A outer s H E hr => ⟨_, ?_, pure⟩
  exact (psd_cons (psd_set 2 sc_value.nd (pd_call h_draw (hr.mono l_draw) (pad_cons (pd_var 0) (pad_cons pd_int pad_nil))))
 (psd_cons (psd_if (PW.pt (pwd_or (pt_lt (pd_var 1) pd_int) (pwd_or1 (pt_lt (pd_var 2) pd_int)))) (psd_one (psd_ret (pd_call h_leaf (hr.mono l_leaf) (pad_cons (pd_var 0) pad_nil)))) psd_nil)
 (psd_cons (psd_if (pt_lt (pd_var 2) pd_int) (psd_one (psd_ret (pd_tup (pad_cons pd_str (pad_cons (pd_callTy call_tuple_of fTuple_ok G.z_tuple (pad_cons (pd_lc 3 sc_value.nd (pid_range1 G.z_range (pad_cons (pd_call h_draw (hr.mono l_draw) (pad_cons (pd_var 0) (pad_cons pd_int pad_nil))) pad_nil)) (blkOk_by (own := [(("_law_j" : Str), 3)]) (N := N_value) (sc := defScope (top 78)) (by decide +kernel)) (fun _ _ _ _ _ => pg_name (i := 3) sc_value.nd rfl (Or.inl rfl)) (fun _ _ _ _ _ => ptsd_nil) (fun _ _ _ _ _ => (pd_call h_value (hr.mono l_value) (pad_cons (pd_var 0) (pad_cons (pd_sub (pd_var 1) pd_int) pad_nil))))) pad_nil)) pad_nil))))) psd_nil)
 (psd_one (psd_ret (pd_call h_object (hr.mono l_object) (pad_cons (pd_lc 3 sc_value.nd (pid_range1 G.z_range (pad_cons (pd_call h_draw (hr.mono l_draw) (pad_cons (pd_var 0) (pad_cons pd_int pad_nil))) pad_nil)) (blkOk_by (own := [(("_law_j" : Str), 3)]) (N := N_value) (sc := defScope (top 78)) (by decide +kernel)) (fun _ _ _ _ _ => pg_name (i := 3) sc_value.nd rfl (Or.inl rfl)) (fun _ _ _ _ _ => ptsd_nil) (fun _ _ _ _ _ => (pd_tup (pad_cons (pd_call h_name (hr.mono l_name) (pad_cons (pd_var 0) pad_nil)) (pad_cons (pd_call h_value (hr.mono l_value) (pad_cons (pd_var 0) (pad_cons (pd_sub (pd_var 1) pd_int) pad_nil))) pad_nil))))) pad_nil)))))))
def N_wide : List Str := ["_law_source_here", "_law_depth", "_law_value_here", "_law_j", "_law_others", "_law_i", "_law_item"]
theorem sc_wide : FnScope N_wide ["_law_source_here", "_law_depth"] (defScope (top 79)) := ⟨rfl, rfl, rfl, by decide +kernel, rfl, by decide +kernel, by decide +kernel⟩
def E_wide_1 (s_name : SD) : TDE := (dTup (aCons (dCall s_name (aCons (dVar 0) aNil)) (aCons (dVar 6) aNil)))
def E_wide_2 (s_leaf : SD) : TDE := (dCall s_leaf (aCons (dVar 0) aNil))
def B_wide_1 (s_draw s_leaf s_object s_name : SD) : TDS := (dSeq (dSet 4 (dLc 5 (iRng1D (aCons (d2 fMul (dCall s_draw (aCons (dVar 0) (aCons (dC (.d (.int 2))) aNil))) (dCall s_draw (aCons (dVar 0) (aCons (dC (.d (.int 13))) aNil)))) aNil)) dYes (E_wide_2 s_leaf)))
 (dIf (dB (d2 fEq (dCall s_draw (aCons (dVar 0) (aCons (dC (.d (.int 2))) aNil))) (dC (.d (.int 0))))) (dSet 2 (dTup (aCons (dC (.d (.str "list"))) (aCons (d2 fAdd (dCB fTuple (aCons (dVar 4) aNil)) (dTup (aCons (dVar 2) aNil))) aNil)))) (dSet 2 (dCall s_object (aCons (d2 fAdd (dLc 6 (iListD (dVar 4)) dYes (E_wide_1 s_name)) (dLst (aCons (dTup (aCons (dCall s_name (aCons (dVar 0) aNil)) (aCons (dVar 2) aNil))) aNil))) aNil)))))
def T_wide (s_draw s_name s_object s_leaf s_value : SD) : TDS := (dSeq (dSet 2 (dCall s_value (aCons (dVar 0) (aCons (dVar 1) aNil))))
 (dSeq (dForRng 3 (iRng1D (aCons (d2 fIx (dLst (aCons (dC (.d (.int 0))) (aCons (dC (.d (.int 0))) (aCons (dC (.d (.int 1))) (aCons (dC (.d (.int 3))) aNil))))) (dCall s_draw (aCons (dVar 0) (aCons (dC (.d (.int 4))) aNil)))) aNil)) (B_wide_1 s_draw s_leaf s_object s_name))
 (dRet (dVar 2))))
theorem def_wide {P : Program} {w : World} {K : PySem.W.Frag} {mg : Str → Option Value} {base : Heap} (G : Gs K mg) {k : Nat} {k_draw k_name k_object k_leaf k_value : Nat} {s_draw s_name s_object s_leaf s_value : SD} (h_draw : DefOk P w K mg base "_law_draw" k_draw ["_law_source_here", "_law_many"] s_draw) (l_draw : k_draw ≤ k) (h_name : DefOk P w K mg base "_law_name" k_name ["_law_source_here"] s_name) (l_name : k_name ≤ k) (h_object : DefOk P w K mg base "_law_object" k_object ["_law_pairs"] s_object) (l_object : k_object ≤ k) (h_leaf : DefOk P w K mg base "_law_leaf" k_leaf ["_law_source_here"] s_leaf) (l_leaf : k_leaf ≤ k) (h_value : DefOk P w K mg base "_law_value" k_value ["_law_source_here", "_law_depth"] s_value) (l_value : k_value ≤ k) {sd : SD} (len : ∀ ss Q, sd ss Q → ss.length = 2)
    (pure : ∀ ss Q, sd ss Q → T_wide s_draw s_name s_object s_leaf s_value { nx := fun _ => Q (.d .non), rt := Q } (ss.map some ++ List.replicate 5 none)) : DefOk P w K mg base "_law_wide" (k + 1) ["_law_source_here", "_law_depth"] sd := by
  refine ok_def G 37 rfl sc_wide (fun _ _ _ _ _ _ us hl => match us, hl with | [_, _], _ => rfl) len fun f cdv A outer s H E hr => ⟨_, ?_, pure⟩
  exact (psd_cons (psd_set 2 sc_wide.nd (pd_call h_value (hr.mono l_value) (pad_cons (pd_var 0) (pad_cons (pd_var 1) pad_nil))))
 (psd_cons (psd_for_rng 3 PassesOwn.never G.z_range (pad_cons (pd_ix (pd_lst (pad_cons pd_int (pad_cons pd_int (pad_cons pd_int (pad_cons pd_int pad_nil))))) (pd_call h_draw (hr.mono l_draw) (pad_cons (pd_var 0) (pad_cons pd_int pad_nil)))) pad_nil) (pg_name (i := 3) sc_wide.nd rfl (by first | exact Or.inl rfl | exact Or.inr rfl)) (psd_cons (psd_setLc 5 4 sc_wide.nd (pid_range1 G.z_range (pad_cons (pd_mul (pd_call h_draw (hr.mono l_draw) (pad_cons (pd_var 0) (pad_cons pd_int pad_nil))) (pd_call h_draw (hr.mono l_draw) (pad_cons (pd_var 0) (pad_cons pd_int pad_nil)))) pad_nil)) (blkOk_by (own := [(("_law_i" : Str), 5)]) (N := N_wide) (sc := defScope (top 79)) (by decide +kernel)) (fun _ _ _ _ _ => pg_name (i := 5) sc_wide.nd rfl (Or.inl rfl)) (fun _ _ _ _ _ => ptsd_nil) (fun _ _ _ _ _ => (pd_call h_leaf (hr.mono l_leaf) (pad_cons (pd_var 0) pad_nil))) (sw_true rfl rfl rfl (by decide +kernel)))
 (psd_one (psd_if (pt_eq hr (pd_call h_draw (hr.mono l_draw) (pad_cons (pd_var 0) (pad_cons pd_int pad_nil))) pd_int) (psd_one (psd_set 2 sc_wide.nd (pd_tup (pad_cons pd_str (pad_cons (pd_add (pd_callTy call_tuple_of fTuple_ok G.z_tuple (pad_cons (pd_var 4) pad_nil)) (pd_tup (pad_cons (pd_var 2) pad_nil))) pad_nil))))) (psd_one (psd_set 2 sc_wide.nd (pd_call h_object (hr.mono l_object) (pad_cons (pd_add (pd_lc 6 sc_wide.nd (pid_list (pd_var 4)) (blkOk_by (own := [(("_law_item" : Str), 6)]) (N := N_wide) (sc := defScope (top 79)) (by decide +kernel)) (fun _ _ _ _ _ => pg_name (i := 6) sc_wide.nd rfl (Or.inl rfl)) (fun _ _ _ _ _ => ptsd_nil) (fun _ _ _ _ _ => (pd_tup (pad_cons (pd_call h_name (hr.mono l_name) (pad_cons (pd_var 0) pad_nil)) (pad_cons (pd_var 6) pad_nil))))) (pd_lst (pad_cons (pd_tup (pad_cons (pd_call h_name (hr.mono l_name) (pad_cons (pd_var 0) pad_nil)) (pad_cons (pd_var 2) pad_nil))) pad_nil))) pad_nil))))))))
 (psd_one (psd_ret (pd_var 2)))))
def N_token : List Str := ["_law_source_here", "_law_value_here"]
theorem sc_token : FnScope N_token ["_law_source_here", "_law_value_here"] (defScope (top 80)) := ⟨rfl, rfl, rfl, by decide +kernel, rfl, by decide +kernel, by decide +kernel⟩
def T_token (s_draw : SD) : TDS := (dSeq (dIf (dAndT (dB (d2 fEq (d2 fIx (dVar 1) (dC (.d (.int 0)))) (dC (.d (.str "list"))))) (dB (d2 fGt (dCB fLen (aCons (d2 fIx (dVar 1) (dC (.d (.int 1)))) aNil)) (dC (.d (.int 0)))))) (dRet (dCB (f2I fun i j => if j < i then j else i) (aCons (dCall s_draw (aCons (dVar 0) (aCons (dCB fLen (aCons (d2 fIx (dVar 1) (dC (.d (.int 1)))) aNil)) aNil))) (aCons (dC (.d (.int 9))) aNil)))) dNext)
 (dSeq (dIf (dAndT (dB (d2 fEq (d2 fIx (dVar 1) (dC (.d (.int 0)))) (dC (.d (.str "object"))))) (dB (d2 fGt (dCB fLen (aCons (d2 fIx (dVar 1) (dC (.d (.int 1)))) aNil)) (dC (.d (.int 0)))))) (dRet (d2 fIx (d2 fIx (d2 fIx (dVar 1) (dC (.d (.int 1)))) (dCall s_draw (aCons (dVar 0) (aCons (dCB fLen (aCons (d2 fIx (dVar 1) (dC (.d (.int 1)))) aNil)) aNil)))) (dC (.d (.int 0))))) dNext)
 (dRet (dC (.d .non)))))
theorem def_token {P : Program} {w : World} {K : PySem.W.Frag} {mg : Str → Option Value} {base : Heap} (G : Gs K mg) {k : Nat} {k_draw : Nat} {s_draw : SD} (h_draw : DefOk P w K mg base "_law_draw" k_draw ["_law_source_here", "_law_many"] s_draw) (l_draw : k_draw ≤ k) {sd : SD} (len : ∀ ss Q, sd ss Q → ss.length = 2)
    (pure : ∀ ss Q, sd ss Q → T_token s_draw { nx := fun _ => Q (.d .non), rt := Q } (ss.map some ++ List.replicate 0 none)) : DefOk P w K mg base "_law_token" (k + 1) ["_law_source_here", "_law_value_here"] sd := by
  refine ok_def G 38 rfl sc_token (fun _ _ _ _ _ _ us hl => match us, hl with | [_, _], _ => rfl) len fun f cdv A outer s H E hr => ⟨_, ?_, pure⟩
  exact (psd_cons (psd_if (PW.pt (pwd_and (pt_eq hr (pd_ix (pd_var 1) pd_int) pd_str) (pwd_and1 (pt_gt (pd_callB call_lenAll fLen_ok G.z_len (pad_cons (pd_ix (pd_var 1) pd_int) pad_nil)) pd_int)))) (psd_one (psd_ret (pd_callB (call_min2 rfl) f2I_ok G.z_min (pad_cons (pd_call h_draw (hr.mono l_draw) (pad_cons (pd_var 0) (pad_cons (pd_callB call_lenAll fLen_ok G.z_len (pad_cons (pd_ix (pd_var 1) pd_int) pad_nil)) pad_nil))) (pad_cons pd_int pad_nil))))) psd_nil)
 (psd_cons (psd_if (PW.pt (pwd_and (pt_eq hr (pd_ix (pd_var 1) pd_int) pd_str) (pwd_and1 (pt_gt (pd_callB call_lenAll fLen_ok G.z_len (pad_cons (pd_ix (pd_var 1) pd_int) pad_nil)) pd_int)))) (psd_one (psd_ret (pd_ix (pd_ix (pd_ix (pd_var 1) pd_int) (pd_call h_draw (hr.mono l_draw) (pad_cons (pd_var 0) (pad_cons (pd_callB call_lenAll fLen_ok G.z_len (pad_cons (pd_ix (pd_var 1) pd_int) pad_nil)) pad_nil)))) pd_int))) psd_nil)
 (psd_one (psd_ret pd_non))))
def N_path : List Str := ["_law_source_here", "_law_value_here", "_law_most", "_law_path_here", "_law_k", "_law_token_here"]
theorem sc_path : FnScope N_path ["_law_source_here", "_law_value_here", "_law_most"] (defScope (top 81)) := ⟨rfl, rfl, rfl, by decide +kernel, rfl, by decide +kernel, by decide +kernel⟩
def B_path_1 (s_token s_draw s_child : SD) : TDS := (dSeq (dSet 5 (dCall s_token (aCons (dVar 0) (aCons (dVar 1) aNil))))
 (dIf (dAndT (dNotNT (dVar 5)) (dB (d2 fGt (dCall s_draw (aCons (dVar 0) (aCons (dC (.d (.int 4))) aNil))) (dC (.d (.int 0)))))) (dSeq (dSet 3 (d2 fAdd (dVar 3) (dTup (aCons (dVar 5) aNil))))
 (dSet 1 (dCall s_child (aCons (dVar 1) (aCons (dVar 5) aNil))))) (dSet 1 (dTup (aCons (dC (.d (.str "null"))) aNil)))))
def T_path (s_draw s_name s_child s_token : SD) : TDS := (dSeq (dSet 3 (dTup aNil))
 (dSeq (dForRng 4 (iRng1D (aCons (dVar 2) aNil)) (B_path_1 s_token s_draw s_child))
 (dSeq (dIf (dAndT (dB (d2 fLt (dCB fLen (aCons (dVar 3) aNil)) (dVar 2))) (dB (d2 fEq (dCall s_draw (aCons (dVar 0) (aCons (dC (.d (.int 8))) aNil))) (dC (.d (.int 0)))))) (dSeq (dIf (dB (d2 fEq (dCall s_draw (aCons (dVar 0) (aCons (dC (.d (.int 2))) aNil))) (dC (.d (.int 0))))) (dRet (d2 fAdd (dVar 3) (dTup (aCons (dCall s_name (aCons (dVar 0) aNil)) aNil)))) dNext)
 (dRet (d2 fAdd (dVar 3) (dTup (aCons (dCall s_draw (aCons (dVar 0) (aCons (dC (.d (.int 4))) aNil))) aNil))))) dNext)
 (dRet (dVar 3)))))
theorem def_path {P : Program} {w : World} {K : PySem.W.Frag} {mg : Str → Option Value} {base : Heap} (G : Gs K mg) {k : Nat} {k_draw k_name k_child k_token : Nat} {s_draw s_name s_child s_token : SD} (h_draw : DefOk P w K mg base "_law_draw" k_draw ["_law_source_here", "_law_many"] s_draw) (l_draw : k_draw ≤ k) (h_name : DefOk P w K mg base "_law_name" k_name ["_law_source_here"] s_name) (l_name : k_name ≤ k) (h_child : DefOk P w K mg base "_law_child" k_child ["_law_value_here", "_law_token_here"] s_child) (l_child : k_child ≤ k) (h_token : DefOk P w K mg base "_law_token" k_token ["_law_source_here", "_law_value_here"] s_token) (l_token : k_token ≤ k) {sd : SD} (len : ∀ ss Q, sd ss Q → ss.length = 3)
    (pure : ∀ ss Q, sd ss Q → T_path s_draw s_name s_child s_token { nx := fun _ => Q (.d .non), rt := Q } (ss.map some ++ List.replicate 3 none)) : DefOk P w K mg base "_law_path" (k + 1) ["_law_source_here", "_law_value_here", "_law_most"] sd := by
  refine ok_def G 39 rfl sc_path (fun _ _ _ _ _ _ us hl => match us, hl with | [_, _, _], _ => rfl) len fun f cdv A outer s H E hr => ⟨_, ?_, pure⟩
  exact (psd_cons (psd_set 3 sc_path.nd (pd_tup pad_nil))
 (psd_cons (psd_for_rng 4 PassesOwn.never G.z_range (pad_cons (pd_var 2) pad_nil) (pg_name (i := 4) sc_path.nd rfl (by first | exact Or.inl rfl | exact Or.inr rfl)) (psd_cons (psd_set 5 sc_path.nd (pd_call h_token (hr.mono l_token) (pad_cons (pd_var 0) (pad_cons (pd_var 1) pad_nil))))
 (psd_one (psd_if (PW.pt (pwd_and (pt_notN (pd_var 5)) (pwd_and1 (pt_gt (pd_call h_draw (hr.mono l_draw) (pad_cons (pd_var 0) (pad_cons pd_int pad_nil))) pd_int)))) (psd_cons (psd_set 3 sc_path.nd (pd_add (pd_var 3) (pd_tup (pad_cons (pd_var 5) pad_nil))))
 (psd_one (psd_set 1 sc_path.nd (pd_call h_child (hr.mono l_child) (pad_cons (pd_var 1) (pad_cons (pd_var 5) pad_nil)))))) (psd_one (psd_set 1 sc_path.nd (pd_tup (pad_cons pd_str pad_nil))))))))
 (psd_cons (psd_if (PW.pt (pwd_and (pt_lt (pd_callB call_lenAll fLen_ok G.z_len (pad_cons (pd_var 3) pad_nil)) (pd_var 2)) (pwd_and1 (pt_eq hr (pd_call h_draw (hr.mono l_draw) (pad_cons (pd_var 0) (pad_cons pd_int pad_nil))) pd_int)))) (psd_cons (psd_if (pt_eq hr (pd_call h_draw (hr.mono l_draw) (pad_cons (pd_var 0) (pad_cons pd_int pad_nil))) pd_int) (psd_one (psd_ret (pd_add (pd_var 3) (pd_tup (pad_cons (pd_call h_name (hr.mono l_name) (pad_cons (pd_var 0) pad_nil)) pad_nil))))) psd_nil)
 (psd_one (psd_ret (pd_add (pd_var 3) (pd_tup (pad_cons (pd_call h_draw (hr.mono l_draw) (pad_cons (pd_var 0) (pad_cons pd_int pad_nil))) pad_nil)))))) psd_nil)
 (psd_one (psd_ret (pd_var 3))))))
def N_target : List Str := ["_law_source_here", "_law_value_here", "_law_most", "_law_path_here", "_law_place", "_law_k"]
theorem sc_target : FnScope N_target ["_law_source_here", "_law_value_here", "_law_most"] (defScope (top 82)) := ⟨rfl, rfl, rfl, by decide +kernel, rfl, by decide +kernel, by decide +kernel⟩
def T_target (s_name s_draw s_lookup s_path : SD) : TDS := (dSeq (dSet 3 (dCall s_path (aCons (dVar 0) (aCons (dVar 1) (aCons (dVar 2) aNil)))))
 (dSeq (dSet 4 (dCall s_lookup (aCons (dVar 1) (aCons (dVar 3) aNil))))
 (dSeq (dIf (dOrT (dIsNT (dVar 4)) (dB (d2 fGe (dCB fLen (aCons (dVar 3) aNil)) (dVar 2)))) (dRet (dVar 3)) dNext)
 (dSeq (dSet 5 (dCall s_draw (aCons (dVar 0) (aCons (dC (.d (.int 3))) aNil))))
 (dSeq (dIf (dAndT (dB (d2 fEq (d2 fIx (dVar 4) (dC (.d (.int 0)))) (dC (.d (.str "object"))))) (dB (d2 fGt (dVar 5) (dC (.d (.int 0)))))) (dRet (d2 fAdd (dVar 3) (dTup (aCons (dCall s_name (aCons (dVar 0) aNil)) aNil)))) dNext)
 (dSeq (dIf (dAndT (dB (d2 fEq (d2 fIx (dVar 4) (dC (.d (.int 0)))) (dC (.d (.str "list"))))) (dB (d2 fEq (dVar 5) (dC (.d (.int 1)))))) (dRet (d2 fAdd (dVar 3) (dTup (aCons (dCB (f2I fun i j => if j < i then j else i) (aCons (dCB fLen (aCons (d2 fIx (dVar 4) (dC (.d (.int 1)))) aNil)) (aCons (dC (.d (.int 9))) aNil))) aNil)))) dNext)
 (dSeq (dIf (dAndT (dB (d2 fEq (d2 fIx (dVar 4) (dC (.d (.int 0)))) (dC (.d (.str "list"))))) (dB (d2 fEq (dVar 5) (dC (.d (.int 2)))))) (dRet (d2 fAdd (dVar 3) (dTup (aCons (dNeg (dC (.d (.int 1)))) aNil)))) dNext)
 (dRet (dVar 3)))))))))
theorem def_target {P : Program} {w : World} {K : PySem.W.Frag} {mg : Str → Option Value} {base : Heap} (G : Gs K mg) {k : Nat} {k_name k_draw k_lookup k_path : Nat} {s_name s_draw s_lookup s_path : SD} (h_name : DefOk P w K mg base "_law_name" k_name ["_law_source_here"] s_name) (l_name : k_name ≤ k) (h_draw : DefOk P w K mg base "_law_draw" k_draw ["_law_source_here", "_law_many"] s_draw) (l_draw : k_draw ≤ k) (h_lookup : DefOk P w K mg base "_law_lookup" k_lookup ["_law_value_here", "_law_path_here"] s_lookup) (l_lookup : k_lookup ≤ k) (h_path : DefOk P w K mg base "_law_path" k_path ["_law_source_here", "_law_value_here", "_law_most"] s_path) (l_path : k_path ≤ k) {sd : SD} (len : ∀ ss Q, sd ss Q → ss.length = 3)
    (pure : ∀ ss Q, sd ss Q → T_target s_name s_draw s_lookup s_path { nx := fun _ => Q (.d .non), rt := Q } (ss.map some ++ List.replicate 3 none)) : DefOk P w K mg base "_law_target" (k + 1) ["_law_source_here", "_law_value_here", "_law_most"] sd := by
  refine ok_def G 40 rfl sc_target (fun _ _ _ _ _ _ us hl => match us, hl with | [_, _, _], _ => rfl) len fun f cdv A outer s H E hr => ⟨_, ?_, pure⟩
  exact (psd_cons (psd_set 3 sc_target.nd (pd_call h_path (hr.mono l_path) (pad_cons (pd_var 0) (pad_cons (pd_var 1) (pad_cons (pd_var 2) pad_nil)))))
 (psd_cons (psd_set 4 sc_target.nd (pd_call h_lookup (hr.mono l_lookup) (pad_cons (pd_var 1) (pad_cons (pd_var 3) pad_nil))))
 (psd_cons (psd_if (PW.pt (pwd_or (pt_isN (pd_var 4)) (pwd_or1 (pt_ge (pd_callB call_lenAll fLen_ok G.z_len (pad_cons (pd_var 3) pad_nil)) (pd_var 2))))) (psd_one (psd_ret (pd_var 3))) psd_nil)
 (psd_cons (psd_set 5 sc_target.nd (pd_call h_draw (hr.mono l_draw) (pad_cons (pd_var 0) (pad_cons pd_int pad_nil))))
 (psd_cons (psd_if (PW.pt (pwd_and (pt_eq hr (pd_ix (pd_var 4) pd_int) pd_str) (pwd_and1 (pt_gt (pd_var 5) pd_int)))) (psd_one (psd_ret (pd_add (pd_var 3) (pd_tup (pad_cons (pd_call h_name (hr.mono l_name) (pad_cons (pd_var 0) pad_nil)) pad_nil))))) psd_nil)
 (psd_cons (psd_if (PW.pt (pwd_and (pt_eq hr (pd_ix (pd_var 4) pd_int) pd_str) (pwd_and1 (pt_eq hr (pd_var 5) pd_int)))) (psd_one (psd_ret (pd_add (pd_var 3) (pd_tup (pad_cons (pd_callB (call_min2 rfl) f2I_ok G.z_min (pad_cons (pd_callB call_lenAll fLen_ok G.z_len (pad_cons (pd_ix (pd_var 4) pd_int) pad_nil)) (pad_cons pd_int pad_nil))) pad_nil))))) psd_nil)
 (psd_cons (psd_if (PW.pt (pwd_and (pt_eq hr (pd_ix (pd_var 4) pd_int) pd_str) (pwd_and1 (pt_eq hr (pd_var 5) pd_int)))) (psd_one (psd_ret (pd_add (pd_var 3) (pd_tup (pad_cons (pd_neg pd_int) pad_nil))))) psd_nil)
 (psd_one (psd_ret (pd_var 3))))))))))
end Pk

/-! ## G4 -/
set_option Elab.async false
set_option linter.all false
set_option maxRecDepth 100000
set_option maxHeartbeats 4000000
namespace Pk
open PySem PySem.Spec PyProof.Rows L2
def N_atom : List Str := ["_law_source_here", "_law_value_here", "_law_k"]
theorem sc_atom : FnScope N_atom ["_law_source_here", "_law_value_here"] (defScope (top 83)) := ⟨rfl, rfl, rfl, by decide +kernel, rfl, by decide +kernel, by decide +kernel⟩
def T_atom (s_draw : SD) : TDS := (dSeq (dSet 2 (dCall s_draw (aCons (dVar 0) (aCons (dC (.d (.int 6))) aNil))))
 (dSeq (dIf (dB (d2 fEq (dVar 2) (dC (.d (.int 0))))) (dRet (dTup (aCons (dC (.d (.str "kind"))) (aCons (d2 fIx (dLst (aCons (dC (.d (.str "null"))) (aCons (dC (.d (.str "bool"))) (aCons (dC (.d (.str "int"))) (aCons (dC (.d (.str "text"))) (aCons (dC (.d (.str "list"))) (aCons (dC (.d (.str "object"))) aNil))))))) (dCall s_draw (aCons (dVar 0) (aCons (dC (.d (.int 6))) aNil)))) aNil)))) dNext)
 (dSeq (dIf (dB (d2 fEq (dVar 2) (dC (.d (.int 1))))) (dRet (dTup (aCons (dC (.d (.str "kind"))) (aCons (d2 fIx (dVar 1) (dC (.d (.int 0)))) aNil)))) dNext)
 (dSeq (dIf (dB (d2 fEq (d2 fIx (dVar 1) (dC (.d (.int 0)))) (dC (.d (.str "int"))))) (dRet (dTup (aCons (dC (.d (.str "int_from"))) (aCons (d2 fSub (d2 fAdd (d2 fIx (dVar 1) (dC (.d (.int 1)))) (dCall s_draw (aCons (dVar 0) (aCons (dC (.d (.int 3))) aNil)))) (dC (.d (.int 1)))) aNil)))) dNext)
 (dSeq (dIf (dAndT (dB (d2 fEq (d2 fIx (dVar 1) (dC (.d (.int 0)))) (dC (.d (.str "text"))))) (dB (d2 fLt (dVar 2) (dC (.d (.int 4)))))) (dRet (dTup (aCons (dC (.d (.str "text_is"))) (aCons (d2 fIx (dVar 1) (dC (.d (.int 1)))) aNil)))) dNext)
 (dSeq (dIf (dB (d2 fEq (d2 fIx (dVar 1) (dC (.d (.int 0)))) (dC (.d (.str "text"))))) (dRet (dTup (aCons (dC (.d (.str "text_from"))) (aCons (dCB (f2I fun i j => if j > i then j else i) (aCons (dC (.d (.int 0))) (aCons (d2 fSub (d2 fAdd (dCB fLen (aCons (d2 fIx (dVar 1) (dC (.d (.int 1)))) aNil)) (dCall s_draw (aCons (dVar 0) (aCons (dC (.d (.int 3))) aNil)))) (dC (.d (.int 1)))) aNil))) aNil)))) dNext)
 (dSeq (dIf (dB (d2 fEq (d2 fIx (dVar 1) (dC (.d (.int 0)))) (dC (.d (.str "list"))))) (dRet (dTup (aCons (dC (.d (.str "items_from"))) (aCons (dCB (f2I fun i j => if j > i then j else i) (aCons (dC (.d (.int 0))) (aCons (d2 fSub (d2 fAdd (dCB fLen (aCons (d2 fIx (dVar 1) (dC (.d (.int 1)))) aNil)) (dCall s_draw (aCons (dVar 0) (aCons (dC (.d (.int 3))) aNil)))) (dC (.d (.int 1)))) aNil))) aNil)))) dNext)
 (dSeq (dIf (dB (d2 fEq (d2 fIx (dVar 1) (dC (.d (.int 0)))) (dC (.d (.str "bool"))))) (dRet (dTup (aCons (dC (.d (.str "bool_is"))) (aCons (d2 fEq (dCall s_draw (aCons (dVar 0) (aCons (dC (.d (.int 2))) aNil))) (dC (.d (.int 1)))) aNil)))) dNext)
 (dRet (d2 fIx (dLst (aCons (dTup (aCons (dC (.d (.str "true"))) aNil)) (aCons (dTup (aCons (dC (.d (.str "false"))) aNil)) (aCons (dTup (aCons (dC (.d (.str "int_from"))) (aCons (dC (.d (.int 0))) aNil))) (aCons (dTup (aCons (dC (.d (.str "text_is"))) (aCons (dC (.d (.str "a"))) aNil))) aNil))))) (dCall s_draw (aCons (dVar 0) (aCons (dC (.d (.int 4))) aNil)))))))))))))
theorem def_atom {P : Program} {w : World} {K : PySem.W.Frag} {mg : Str → Option Value} {base : Heap} (G : Gs K mg) {k : Nat} {k_draw : Nat} {s_draw : SD} (h_draw : DefOk P w K mg base "_law_draw" k_draw ["_law_source_here", "_law_many"] s_draw) (l_draw : k_draw ≤ k) {sd : SD} (len : ∀ ss Q, sd ss Q → ss.length = 2)
    (pure : ∀ ss Q, sd ss Q → T_atom s_draw { nx := fun _ => Q (.d .non), rt := Q } (ss.map some ++ List.replicate 1 none)) : DefOk P w K mg base "_law_atom" (k + 1) ["_law_source_here", "_law_value_here"] sd := by
  refine ok_def G 41 rfl sc_atom (fun _ _ _ _ _ _ us hl => match us, hl with | [_, _], _ => rfl) len fun f cdv A outer s H E hr => ⟨_, ?_, pure⟩
  exact (psd_cons (psd_set 2 sc_atom.nd (pd_call h_draw (hr.mono l_draw) (pad_cons (pd_var 0) (pad_cons pd_int pad_nil))))
 (psd_cons (psd_if (pt_eq hr (pd_var 2) pd_int) (psd_one (psd_ret (pd_tup (pad_cons pd_str (pad_cons (pd_ix (pd_lst (pad_cons pd_str (pad_cons pd_str (pad_cons pd_str (pad_cons pd_str (pad_cons pd_str (pad_cons pd_str pad_nil))))))) (pd_call h_draw (hr.mono l_draw) (pad_cons (pd_var 0) (pad_cons pd_int pad_nil)))) pad_nil))))) psd_nil)
 (psd_cons (psd_if (pt_eq hr (pd_var 2) pd_int) (psd_one (psd_ret (pd_tup (pad_cons pd_str (pad_cons (pd_ix (pd_var 1) pd_int) pad_nil))))) psd_nil)
 (psd_cons (psd_if (pt_eq hr (pd_ix (pd_var 1) pd_int) pd_str) (psd_one (psd_ret (pd_tup (pad_cons pd_str (pad_cons (pd_sub (pd_add (pd_ix (pd_var 1) pd_int) (pd_call h_draw (hr.mono l_draw) (pad_cons (pd_var 0) (pad_cons pd_int pad_nil)))) pd_int) pad_nil))))) psd_nil)
 (psd_cons (psd_if (PW.pt (pwd_and (pt_eq hr (pd_ix (pd_var 1) pd_int) pd_str) (pwd_and1 (pt_lt (pd_var 2) pd_int)))) (psd_one (psd_ret (pd_tup (pad_cons pd_str (pad_cons (pd_ix (pd_var 1) pd_int) pad_nil))))) psd_nil)
 (psd_cons (psd_if (pt_eq hr (pd_ix (pd_var 1) pd_int) pd_str) (psd_one (psd_ret (pd_tup (pad_cons pd_str (pad_cons (pd_callB (call_max2 rfl) f2I_ok G.z_max (pad_cons pd_int (pad_cons (pd_sub (pd_add (pd_callB call_lenAll fLen_ok G.z_len (pad_cons (pd_ix (pd_var 1) pd_int) pad_nil)) (pd_call h_draw (hr.mono l_draw) (pad_cons (pd_var 0) (pad_cons pd_int pad_nil)))) pd_int) pad_nil))) pad_nil))))) psd_nil)
 (psd_cons (psd_if (pt_eq hr (pd_ix (pd_var 1) pd_int) pd_str) (psd_one (psd_ret (pd_tup (pad_cons pd_str (pad_cons (pd_callB (call_max2 rfl) f2I_ok G.z_max (pad_cons pd_int (pad_cons (pd_sub (pd_add (pd_callB call_lenAll fLen_ok G.z_len (pad_cons (pd_ix (pd_var 1) pd_int) pad_nil)) (pd_call h_draw (hr.mono l_draw) (pad_cons (pd_var 0) (pad_cons pd_int pad_nil)))) pd_int) pad_nil))) pad_nil))))) psd_nil)
 (psd_cons (psd_if (pt_eq hr (pd_ix (pd_var 1) pd_int) pd_str) (psd_one (psd_ret (pd_tup (pad_cons pd_str (pad_cons (pd_eq hr (pd_call h_draw (hr.mono l_draw) (pad_cons (pd_var 0) (pad_cons pd_int pad_nil))) pd_int) pad_nil))))) psd_nil)
 (psd_one (psd_ret (pd_ix (pd_lst (pad_cons (pd_tup (pad_cons pd_str pad_nil)) (pad_cons (pd_tup (pad_cons pd_str pad_nil)) (pad_cons (pd_tup (pad_cons pd_str (pad_cons pd_int pad_nil))) (pad_cons (pd_tup (pad_cons pd_str (pad_cons pd_str pad_nil))) pad_nil))))) (pd_call h_draw (hr.mono l_draw) (pad_cons (pd_var 0) (pad_cons pd_int pad_nil))))))))))))))
def N_item_of : List Str := ["_law_source_here", "_law_value_here", "_law_token_here"]
theorem sc_item_of : FnScope N_item_of ["_law_source_here", "_law_value_here"] (defScope (top 84)) := ⟨rfl, rfl, rfl, by decide +kernel, rfl, by decide +kernel, by decide +kernel⟩
def T_item_of (s_child s_leaf s_token : SD) : TDS := (dSeq (dSet 2 (dCall s_token (aCons (dVar 0) (aCons (dVar 1) aNil))))
 (dSeq (dIf (dIsNT (dVar 2)) (dRet (dCall s_leaf (aCons (dVar 0) aNil))) dNext)
 (dRet (dCall s_child (aCons (dVar 1) (aCons (dVar 2) aNil))))))
theorem def_item_of {P : Program} {w : World} {K : PySem.W.Frag} {mg : Str → Option Value} {base : Heap} (G : Gs K mg) {k : Nat} {k_child k_leaf k_token : Nat} {s_child s_leaf s_token : SD} (h_child : DefOk P w K mg base "_law_child" k_child ["_law_value_here", "_law_token_here"] s_child) (l_child : k_child ≤ k) (h_leaf : DefOk P w K mg base "_law_leaf" k_leaf ["_law_source_here"] s_leaf) (l_leaf : k_leaf ≤ k) (h_token : DefOk P w K mg base "_law_token" k_token ["_law_source_here", "_law_value_here"] s_token) (l_token : k_token ≤ k) {sd : SD} (len : ∀ ss Q, sd ss Q → ss.length = 2)
    (pure : ∀ ss Q, sd ss Q → T_item_of s_child s_leaf s_token { nx := fun _ => Q (.d .non), rt := Q } (ss.map some ++ List.replicate 1 none)) : DefOk P w K mg base "_law_item_of" (k + 1) ["_law_source_here", "_law_value_here"] sd := by
  refine ok_def G 42 rfl sc_item_of (fun _ _ _ _ _ _ us hl => match us, hl with | [_, _], _ => rfl) len fun f cdv A outer s H E hr => ⟨_, ?_, pure⟩
  exact (psd_cons (psd_set 2 sc_item_of.nd (pd_call h_token (hr.mono l_token) (pad_cons (pd_var 0) (pad_cons (pd_var 1) pad_nil))))
 (psd_cons (psd_if (pt_isN (pd_var 2)) (psd_one (psd_ret (pd_call h_leaf (hr.mono l_leaf) (pad_cons (pd_var 0) pad_nil)))) psd_nil)
 (psd_one (psd_ret (pd_call h_child (hr.mono l_child) (pad_cons (pd_var 1) (pad_cons (pd_var 2) pad_nil)))))))
def N_every : List Str := ["_law_source_here", "_law_value_here", "_law_depth", "_law_inner", "_law_names", "_law_j", "_law_field"]
theorem sc_every : FnScope N_every ["_law_source_here", "_law_value_here", "_law_depth"] (defScope (top 85)) := ⟨rfl, rfl, rfl, by decide +kernel, rfl, by decide +kernel, by decide +kernel⟩
def C_every_1 (s_draw : SD) : TDT := (dB (d2 fEq (dCall s_draw (aCons (dVar 0) (aCons (dC (.d (.int 2))) aNil))) (dC (.d (.int 0)))))
def E_every_1 : TDE := (d2 fIx (dVar 6) (dC (.d (.int 0))))
def E_every_2 (s_name : SD) : TDE := (dCall s_name (aCons (dVar 0) aNil))
def T_every (s_draw s_name s_item_of s_formula : SD) : TDS := (dSeq (dSet 3 (dCall s_formula (aCons (dVar 0) (aCons (dCall s_item_of (aCons (dVar 0) (aCons (dVar 1) aNil))) (aCons (d2 fSub (dVar 2) (dC (.d (.int 1)))) aNil)))))
 (dSeq (dIf (dOrT (dB (d2 fEq (d2 fIx (dVar 1) (dC (.d (.int 0)))) (dC (.d (.str "list"))))) (dAndT (dB (d2 fNe (d2 fIx (dVar 1) (dC (.d (.int 0)))) (dC (.d (.str "object"))))) (dB (d2 fEq (dCall s_draw (aCons (dVar 0) (aCons (dC (.d (.int 2))) aNil))) (dC (.d (.int 0))))))) (dRet (dTup (aCons (dC (.d (.str "each_item"))) (aCons (dCall s_draw (aCons (dVar 0) (aCons (d2 fIx (dLst (aCons (dC (.d (.int 4))) (aCons (dC (.d (.int 16))) aNil))) (dCB fInt (aCons (d2 fEq (dCall s_draw (aCons (dVar 0) (aCons (dC (.d (.int 6))) aNil))) (dC (.d (.int 0)))) aNil))) aNil))) (aCons (dVar 3) aNil))))) dNext)
 (dSeq (dSet 4 (dLc 5 (iRng1D (aCons (dCall s_draw (aCons (dVar 0) (aCons (dC (.d (.int 2))) aNil))) aNil)) dYes (E_every_2 s_name)))
 (dSeq (dIf (dB (d2 fEq (d2 fIx (dVar 1) (dC (.d (.int 0)))) (dC (.d (.str "object"))))) (dSet 4 (d2 fAdd (dVar 4) (dLc 6 (iTupD (d2 fIx (dVar 1) (dC (.d (.int 1))))) (C_every_1 s_draw) E_every_1))) dNext)
 (dRet (dTup (aCons (dC (.d (.str "each_field"))) (aCons (dCB fTuple (aCons (dVar 4) aNil)) (aCons (dVar 3) aNil)))))))))
theorem def_every {P : Program} {w : World} {K : PySem.W.Frag} {mg : Str → Option Value} {base : Heap} (G : Gs K mg) {k : Nat} {k_draw k_name k_item_of k_formula : Nat} {s_draw s_name s_item_of s_formula : SD} (h_draw : DefOk P w K mg base "_law_draw" k_draw ["_law_source_here", "_law_many"] s_draw) (l_draw : k_draw ≤ k) (h_name : DefOk P w K mg base "_law_name" k_name ["_law_source_here"] s_name) (l_name : k_name ≤ k) (h_item_of : DefOk P w K mg base "_law_item_of" k_item_of ["_law_source_here", "_law_value_here"] s_item_of) (l_item_of : k_item_of ≤ k) (h_formula : DefOk P w K mg base "_law_formula" k_formula ["_law_source_here", "_law_value_here", "_law_depth"] s_formula) (l_formula : k_formula ≤ k) {sd : SD} (len : ∀ ss Q, sd ss Q → ss.length = 3)
    (pure : ∀ ss Q, sd ss Q → T_every s_draw s_name s_item_of s_formula { nx := fun _ => Q (.d .non), rt := Q } (ss.map some ++ List.replicate 4 none)) : DefOk P w K mg base "_law_every" (k + 1) ["_law_source_here", "_law_value_here", "_law_depth"] sd := by
  refine ok_def G 43 rfl sc_every (fun _ _ _ _ _ _ us hl => match us, hl with | [_, _, _], _ => rfl) len fun f cdv A outer s H E hr => ⟨_, ?_, pure⟩
  exact (psd_cons (psd_set 3 sc_every.nd (pd_call h_formula (hr.mono l_formula) (pad_cons (pd_var 0) (pad_cons (pd_call h_item_of (hr.mono l_item_of) (pad_cons (pd_var 0) (pad_cons (pd_var 1) pad_nil))) (pad_cons (pd_sub (pd_var 2) pd_int) pad_nil)))))
 (psd_cons (psd_if (PW.pt (pwd_or (pt_eq hr (pd_ix (pd_var 1) pd_int) pd_str) (pwd_or1 (PW.pt (pwd_and (pt_ne (pd_ix (pd_var 1) pd_int) pd_str) (pwd_and1 (pt_eq hr (pd_call h_draw (hr.mono l_draw) (pad_cons (pd_var 0) (pad_cons pd_int pad_nil))) pd_int))))))) (psd_one (psd_ret (pd_tup (pad_cons pd_str (pad_cons (pd_call h_draw (hr.mono l_draw) (pad_cons (pd_var 0) (pad_cons (pd_ix (pd_lst (pad_cons pd_int (pad_cons pd_int pad_nil))) (pd_callTy call_int1 fInt_ok G.z_int (pad_cons (pd_eq hr (pd_call h_draw (hr.mono l_draw) (pad_cons (pd_var 0) (pad_cons pd_int pad_nil))) pd_int) pad_nil))) pad_nil))) (pad_cons (pd_var 3) pad_nil)))))) psd_nil)
 (psd_cons (psd_setLc 5 4 sc_every.nd (pid_range1 G.z_range (pad_cons (pd_call h_draw (hr.mono l_draw) (pad_cons (pd_var 0) (pad_cons pd_int pad_nil))) pad_nil)) (blkOk_by (own := [(("_law_j" : Str), 5)]) (N := N_every) (sc := defScope (top 85)) (by decide +kernel)) (fun _ _ _ _ _ => pg_name (i := 5) sc_every.nd rfl (Or.inl rfl)) (fun _ _ _ _ _ => ptsd_nil) (fun _ _ _ _ _ => (pd_call h_name (hr.mono l_name) (pad_cons (pd_var 0) pad_nil))) (sw_true rfl rfl rfl (by decide +kernel)))
 (psd_cons (psd_if (pt_eq hr (pd_ix (pd_var 1) pd_int) pd_str) (psd_one (psd_set 4 sc_every.nd (pd_add (pd_var 4) (pd_lc 6 sc_every.nd (pid_tup (pd_ix (pd_var 1) pd_int)) (blkOk_by (own := [(("_law_field" : Str), 6)]) (N := N_every) (sc := defScope (top 85)) (by decide +kernel)) (fun _ _ _ _ _ => pg_name (i := 6) sc_every.nd rfl (Or.inl rfl)) (fun _ _ _ _ _ => (ptsd_one (pt_eq hr (pd_call h_draw (hr.mono l_draw) (pad_cons (pd_var 0) (pad_cons pd_int pad_nil))) pd_int))) (fun _ _ _ _ _ => (pd_ix (pd_var 6) pd_int)))))) psd_nil)
 (psd_one (psd_ret (pd_tup (pad_cons pd_str (pad_cons (pd_callTy call_tuple_of fTuple_ok G.z_tuple (pad_cons (pd_var 4) pad_nil)) (pad_cons (pd_var 3) pad_nil))))))))))
def N_formula : List Str := ["_law_source_here", "_law_value_here", "_law_depth", "_law_k", "_law_word", "_law_j", "_law_path_here", "_law_place"]
theorem sc_formula : FnScope N_formula ["_law_source_here", "_law_value_here", "_law_depth"] (defScope (top 86)) := ⟨rfl, rfl, rfl, by decide +kernel, rfl, by decide +kernel, by decide +kernel⟩
def E_formula_1 (s_formula : SD) : TDE := (dCall s_formula (aCons (dVar 0) (aCons (dVar 1) (aCons (d2 fSub (dVar 2) (dC (.d (.int 1)))) aNil))))
def T_formula (s_every s_formula s_leaf s_lookup s_path s_draw s_atom : SD) : TDS := (dSeq (dSet 3 (dCall s_draw (aCons (dVar 0) (aCons (dC (.d (.int 10))) aNil))))
 (dSeq (dIf (dOrT (dB (d2 fLt (dVar 2) (dC (.d (.int 2))))) (dB (d2 fLt (dVar 3) (dC (.d (.int 2)))))) (dRet (dCall s_atom (aCons (dVar 0) (aCons (dVar 1) aNil)))) dNext)
 (dSeq (dIf (dB (d2 fEq (dVar 3) (dC (.d (.int 2))))) (dRet (dTup (aCons (dC (.d (.str "not"))) (aCons (dCall s_formula (aCons (dVar 0) (aCons (dVar 1) (aCons (d2 fSub (dVar 2) (dC (.d (.int 1)))) aNil)))) aNil)))) dNext)
 (dSeq (dIf (dB (d2 fLt (dVar 3) (dC (.d (.int 5))))) (dSeq (dSet 4 (d2 fIx (dLst (aCons (dC (.d (.str "and"))) (aCons (dC (.d (.str "or"))) aNil))) (d2 fSub (dVar 3) (dC (.d (.int 3))))))
 (dRet (dTup (aCons (dVar 4) (aCons (dCB fTuple (aCons (dLc 5 (iRng1D (aCons (dCall s_draw (aCons (dVar 0) (aCons (dC (.d (.int 4))) aNil))) aNil)) dYes (E_formula_1 s_formula)) aNil)) aNil))))) dNext)
 (dSeq (dIf (dB (d2 fLt (dVar 3) (dC (.d (.int 8))))) (dSeq (dSet 6 (dCall s_path (aCons (dVar 0) (aCons (dVar 1) (aCons (dC (.d (.int 3))) aNil)))))
 (dSeq (dSet 7 (dCall s_lookup (aCons (dVar 1) (aCons (dVar 6) aNil))))
 (dSeq (dIf (dIsNT (dVar 7)) (dSet 7 (dCall s_leaf (aCons (dVar 0) aNil))) dNext)
 (dRet (dTup (aCons (dC (.d (.str "at"))) (aCons (dVar 6) (aCons (dCall s_formula (aCons (dVar 0) (aCons (dVar 7) (aCons (d2 fSub (dVar 2) (dC (.d (.int 1)))) aNil)))) aNil)))))))) dNext)
 (dRet (dCall s_every (aCons (dVar 0) (aCons (dVar 1) (aCons (dVar 2) aNil))))))))))
theorem def_formula {P : Program} {w : World} {K : PySem.W.Frag} {mg : Str → Option Value} {base : Heap} (G : Gs K mg) {k : Nat} {k_every k_formula k_leaf k_lookup k_path k_draw k_atom : Nat} {s_every s_formula s_leaf s_lookup s_path s_draw s_atom : SD} (h_every : DefOk P w K mg base "_law_every" k_every ["_law_source_here", "_law_value_here", "_law_depth"] s_every) (l_every : k_every ≤ k) (h_formula : DefOk P w K mg base "_law_formula" k_formula ["_law_source_here", "_law_value_here", "_law_depth"] s_formula) (l_formula : k_formula ≤ k) (h_leaf : DefOk P w K mg base "_law_leaf" k_leaf ["_law_source_here"] s_leaf) (l_leaf : k_leaf ≤ k) (h_lookup : DefOk P w K mg base "_law_lookup" k_lookup ["_law_value_here", "_law_path_here"] s_lookup) (l_lookup : k_lookup ≤ k) (h_path : DefOk P w K mg base "_law_path" k_path ["_law_source_here", "_law_value_here", "_law_most"] s_path) (l_path : k_path ≤ k) (h_draw : DefOk P w K mg base "_law_draw" k_draw ["_law_source_here", "_law_many"] s_draw) (l_draw : k_draw ≤ k) (h_atom : DefOk P w K mg base "_law_atom" k_atom ["_law_source_here", "_law_value_here"] s_atom) (l_atom : k_atom ≤ k) {sd : SD} (len : ∀ ss Q, sd ss Q → ss.length = 3)
    (pure : ∀ ss Q, sd ss Q → T_formula s_every s_formula s_leaf s_lookup s_path s_draw s_atom { nx := fun _ => Q (.d .non), rt := Q } (ss.map some ++ List.replicate 5 none)) : DefOk P w K mg base "_law_formula" (k + 1) ["_law_source_here", "_law_value_here", "_law_depth"] sd := by
  refine ok_def G 44 rfl sc_formula (fun _ _ _ _ _ _ us hl => match us, hl with | [_, _, _], _ => rfl) len fun f cdv A outer s H E hr => ⟨_, ?_, pure⟩
  exact (psd_cons (psd_set 3 sc_formula.nd (pd_call h_draw (hr.mono l_draw) (pad_cons (pd_var 0) (pad_cons pd_int pad_nil))))
 (psd_cons (psd_if (PW.pt (pwd_or (pt_lt (pd_var 2) pd_int) (pwd_or1 (pt_lt (pd_var 3) pd_int)))) (psd_one (psd_ret (pd_call h_atom (hr.mono l_atom) (pad_cons (pd_var 0) (pad_cons (pd_var 1) pad_nil))))) psd_nil)
 (psd_cons (psd_if (pt_eq hr (pd_var 3) pd_int) (psd_one (psd_ret (pd_tup (pad_cons pd_str (pad_cons (pd_call h_formula (hr.mono l_formula) (pad_cons (pd_var 0) (pad_cons (pd_var 1) (pad_cons (pd_sub (pd_var 2) pd_int) pad_nil)))) pad_nil))))) psd_nil)
 (psd_cons (psd_if (pt_lt (pd_var 3) pd_int) (psd_cons (psd_set 4 sc_formula.nd (pd_ix (pd_lst (pad_cons pd_str (pad_cons pd_str pad_nil))) (pd_sub (pd_var 3) pd_int)))
 (psd_one (psd_ret (pd_tup (pad_cons (pd_var 4) (pad_cons (pd_callTy call_tuple_of fTuple_ok G.z_tuple (pad_cons (pd_lc 5 sc_formula.nd (pid_range1 G.z_range (pad_cons (pd_call h_draw (hr.mono l_draw) (pad_cons (pd_var 0) (pad_cons pd_int pad_nil))) pad_nil)) (blkOk_by (own := [(("_law_j" : Str), 5)]) (N := N_formula) (sc := defScope (top 86)) (by decide +kernel)) (fun _ _ _ _ _ => pg_name (i := 5) sc_formula.nd rfl (Or.inl rfl)) (fun _ _ _ _ _ => ptsd_nil) (fun _ _ _ _ _ => (pd_call h_formula (hr.mono l_formula) (pad_cons (pd_var 0) (pad_cons (pd_var 1) (pad_cons (pd_sub (pd_var 2) pd_int) pad_nil)))))) pad_nil)) pad_nil)))))) psd_nil)
 (psd_cons (psd_if (pt_lt (pd_var 3) pd_int) (psd_cons (psd_set 6 sc_formula.nd (pd_call h_path (hr.mono l_path) (pad_cons (pd_var 0) (pad_cons (pd_var 1) (pad_cons pd_int pad_nil)))))
 (psd_cons (psd_set 7 sc_formula.nd (pd_call h_lookup (hr.mono l_lookup) (pad_cons (pd_var 1) (pad_cons (pd_var 6) pad_nil))))
 (psd_cons (psd_if (pt_isN (pd_var 7)) (psd_one (psd_set 7 sc_formula.nd (pd_call h_leaf (hr.mono l_leaf) (pad_cons (pd_var 0) pad_nil)))) psd_nil)
 (psd_one (psd_ret (pd_tup (pad_cons pd_str (pad_cons (pd_var 6) (pad_cons (pd_call h_formula (hr.mono l_formula) (pad_cons (pd_var 0) (pad_cons (pd_var 7) (pad_cons (pd_sub (pd_var 2) pd_int) pad_nil)))) pad_nil))))))))) psd_nil)
 (psd_one (psd_ret (pd_call h_every (hr.mono l_every) (pad_cons (pd_var 0) (pad_cons (pd_var 1) (pad_cons (pd_var 2) pad_nil)))))))))))
def N_changed : List Str := ["_law_source_here", "_law_value_here", "_law_path_here", "_law_k", "_law_made"]
theorem sc_changed : FnScope N_changed ["_law_source_here", "_law_value_here"] (defScope (top 87)) := ⟨rfl, rfl, rfl, by decide +kernel, rfl, by decide +kernel, by decide +kernel⟩
def T_changed (s_leaf s_replace s_target s_put s_take s_draw s_path : SD) : TDS := (dSeq (dSet 2 (dCall s_path (aCons (dVar 0) (aCons (dVar 1) (aCons (dC (.d (.int 3))) aNil)))))
 (dSeq (dSet 3 (dCall s_draw (aCons (dVar 0) (aCons (dC (.d (.int 3))) aNil))))
 (dSeq (dSet 4 (dC (.d .non)))
 (dSeq (dIf (dB (d2 fEq (dVar 3) (dC (.d (.int 0))))) (dSet 4 (dCall s_take (aCons (dVar 1) (aCons (dVar 2) aNil)))) dNext)
 (dSeq (dIf (dB (d2 fEq (dVar 3) (dC (.d (.int 1))))) (dSet 4 (dCall s_put (aCons (dVar 1) (aCons (dCall s_target (aCons (dVar 0) (aCons (dVar 1) (aCons (dC (.d (.int 3))) aNil)))) (aCons (dCall s_leaf (aCons (dVar 0) aNil)) aNil))))) dNext)
 (dSeq (dIf (dB (d2 fEq (dVar 3) (dC (.d (.int 2))))) (dSet 4 (dCall s_replace (aCons (dVar 1) (aCons (dVar 2) (aCons (dCall s_leaf (aCons (dVar 0) aNil)) aNil))))) dNext)
 (dSeq (dIf (dIsNT (dVar 4)) (dRet (dVar 1)) dNext)
 (dRet (dVar 4)))))))))
theorem def_changed {P : Program} {w : World} {K : PySem.W.Frag} {mg : Str → Option Value} {base : Heap} (G : Gs K mg) {k : Nat} {k_leaf k_replace k_target k_put k_take k_draw k_path : Nat} {s_leaf s_replace s_target s_put s_take s_draw s_path : SD} (h_leaf : DefOk P w K mg base "_law_leaf" k_leaf ["_law_source_here"] s_leaf) (l_leaf : k_leaf ≤ k) (h_replace : DefOk P w K mg base "_law_replace" k_replace ["_law_value_here", "_law_path_here", "_law_new"] s_replace) (l_replace : k_replace ≤ k) (h_target : DefOk P w K mg base "_law_target" k_target ["_law_source_here", "_law_value_here", "_law_most"] s_target) (l_target : k_target ≤ k) (h_put : DefOk P w K mg base "_law_put" k_put ["_law_value_here", "_law_path_here", "_law_new"] s_put) (l_put : k_put ≤ k) (h_take : DefOk P w K mg base "_law_take" k_take ["_law_value_here", "_law_path_here"] s_take) (l_take : k_take ≤ k) (h_draw : DefOk P w K mg base "_law_draw" k_draw ["_law_source_here", "_law_many"] s_draw) (l_draw : k_draw ≤ k) (h_path : DefOk P w K mg base "_law_path" k_path ["_law_source_here", "_law_value_here", "_law_most"] s_path) (l_path : k_path ≤ k) {sd : SD} (len : ∀ ss Q, sd ss Q → ss.length = 2)
    (pure : ∀ ss Q, sd ss Q → T_changed s_leaf s_replace s_target s_put s_take s_draw s_path { nx := fun _ => Q (.d .non), rt := Q } (ss.map some ++ List.replicate 3 none)) : DefOk P w K mg base "_law_changed" (k + 1) ["_law_source_here", "_law_value_here"] sd := by
  refine ok_def G 45 rfl sc_changed (fun _ _ _ _ _ _ us hl => match us, hl with | [_, _], _ => rfl) len fun f cdv A outer s H E hr => ⟨_, ?_, pure⟩
  exact (psd_cons (psd_set 2 sc_changed.nd (pd_call h_path (hr.mono l_path) (pad_cons (pd_var 0) (pad_cons (pd_var 1) (pad_cons pd_int pad_nil)))))
 (psd_cons (psd_set 3 sc_changed.nd (pd_call h_draw (hr.mono l_draw) (pad_cons (pd_var 0) (pad_cons pd_int pad_nil))))
 (psd_cons (psd_set 4 sc_changed.nd pd_non)
 (psd_cons (psd_if (pt_eq hr (pd_var 3) pd_int) (psd_one (psd_set 4 sc_changed.nd (pd_call h_take (hr.mono l_take) (pad_cons (pd_var 1) (pad_cons (pd_var 2) pad_nil))))) psd_nil)
 (psd_cons (psd_if (pt_eq hr (pd_var 3) pd_int) (psd_one (psd_set 4 sc_changed.nd (pd_call h_put (hr.mono l_put) (pad_cons (pd_var 1) (pad_cons (pd_call h_target (hr.mono l_target) (pad_cons (pd_var 0) (pad_cons (pd_var 1) (pad_cons pd_int pad_nil)))) (pad_cons (pd_call h_leaf (hr.mono l_leaf) (pad_cons (pd_var 0) pad_nil)) pad_nil)))))) psd_nil)
 (psd_cons (psd_if (pt_eq hr (pd_var 3) pd_int) (psd_one (psd_set 4 sc_changed.nd (pd_call h_replace (hr.mono l_replace) (pad_cons (pd_var 1) (pad_cons (pd_var 2) (pad_cons (pd_call h_leaf (hr.mono l_leaf) (pad_cons (pd_var 0) pad_nil)) pad_nil)))))) psd_nil)
 (psd_cons (psd_if (pt_isN (pd_var 4)) (psd_one (psd_ret (pd_var 1))) psd_nil)
 (psd_one (psd_ret (pd_var 4))))))))))
def N_near : List Str := ["_law_source_here", "_law_about", "_law_path_here", "_law_k", "_law_place"]
theorem sc_near : FnScope N_near ["_law_source_here", "_law_about", "_law_path_here"] (defScope (top 88)) := ⟨rfl, rfl, rfl, by decide +kernel, rfl, by decide +kernel, by decide +kernel⟩
def T_near (s_formula s_draw s_every s_lookup : SD) : TDS := (dSeq (dSet 3 (dCall s_draw (aCons (dVar 0) (aCons (d2 fAdd (dCB fLen (aCons (dVar 2) aNil)) (dC (.d (.int 1)))) aNil))))
 (dSeq (dSet 4 (dCall s_lookup (aCons (dVar 1) (aCons (dSl (dVar 2) dNoPart (dPart (dVar 3))) aNil))))
 (dSeq (dIf (dOrT (dIsNT (dVar 4)) (dB (d2 fEq (dCall s_draw (aCons (dVar 0) (aCons (dC (.d (.int 4))) aNil))) (dC (.d (.int 0)))))) (dRet (dCall s_formula (aCons (dVar 0) (aCons (dVar 1) (aCons (dC (.d (.int 4))) aNil))))) dNext)
 (dSeq (dIf (dB (d2 fEq (dCall s_draw (aCons (dVar 0) (aCons (dC (.d (.int 2))) aNil))) (dC (.d (.int 0))))) (dRet (dTup (aCons (dC (.d (.str "at"))) (aCons (dSl (dVar 2) dNoPart (dPart (dVar 3))) (aCons (dCall s_every (aCons (dVar 0) (aCons (dVar 4) (aCons (dC (.d (.int 4))) aNil)))) aNil))))) dNext)
 (dRet (dTup (aCons (dC (.d (.str "at"))) (aCons (dSl (dVar 2) dNoPart (dPart (dVar 3))) (aCons (dCall s_formula (aCons (dVar 0) (aCons (dVar 4) (aCons (dC (.d (.int 3))) aNil)))) aNil)))))))))
theorem def_near {P : Program} {w : World} {K : PySem.W.Frag} {mg : Str → Option Value} {base : Heap} (G : Gs K mg) {k : Nat} {k_formula k_draw k_every k_lookup : Nat} {s_formula s_draw s_every s_lookup : SD} (h_formula : DefOk P w K mg base "_law_formula" k_formula ["_law_source_here", "_law_value_here", "_law_depth"] s_formula) (l_formula : k_formula ≤ k) (h_draw : DefOk P w K mg base "_law_draw" k_draw ["_law_source_here", "_law_many"] s_draw) (l_draw : k_draw ≤ k) (h_every : DefOk P w K mg base "_law_every" k_every ["_law_source_here", "_law_value_here", "_law_depth"] s_every) (l_every : k_every ≤ k) (h_lookup : DefOk P w K mg base "_law_lookup" k_lookup ["_law_value_here", "_law_path_here"] s_lookup) (l_lookup : k_lookup ≤ k) {sd : SD} (len : ∀ ss Q, sd ss Q → ss.length = 3)
    (pure : ∀ ss Q, sd ss Q → T_near s_formula s_draw s_every s_lookup { nx := fun _ => Q (.d .non), rt := Q } (ss.map some ++ List.replicate 2 none)) : DefOk P w K mg base "_law_near" (k + 1) ["_law_source_here", "_law_about", "_law_path_here"] sd := by
  refine ok_def G 46 rfl sc_near (fun _ _ _ _ _ _ us hl => match us, hl with | [_, _, _], _ => rfl) len fun f cdv A outer s H E hr => ⟨_, ?_, pure⟩
  exact (psd_cons (psd_set 3 sc_near.nd (pd_call h_draw (hr.mono l_draw) (pad_cons (pd_var 0) (pad_cons (pd_add (pd_callB call_lenAll fLen_ok G.z_len (pad_cons (pd_var 2) pad_nil)) pd_int) pad_nil))))
 (psd_cons (psd_set 4 sc_near.nd (pd_call h_lookup (hr.mono l_lookup) (pad_cons (pd_var 1) (pad_cons (pd_slice (pd_var 2) pod_none (pod_some (pd_var 3))) pad_nil))))
 (psd_cons (psd_if (PW.pt (pwd_or (pt_isN (pd_var 4)) (pwd_or1 (pt_eq hr (pd_call h_draw (hr.mono l_draw) (pad_cons (pd_var 0) (pad_cons pd_int pad_nil))) pd_int)))) (psd_one (psd_ret (pd_call h_formula (hr.mono l_formula) (pad_cons (pd_var 0) (pad_cons (pd_var 1) (pad_cons pd_int pad_nil)))))) psd_nil)
 (psd_cons (psd_if (pt_eq hr (pd_call h_draw (hr.mono l_draw) (pad_cons (pd_var 0) (pad_cons pd_int pad_nil))) pd_int) (psd_one (psd_ret (pd_tup (pad_cons pd_str (pad_cons (pd_slice (pd_var 2) pod_none (pod_some (pd_var 3))) (pad_cons (pd_call h_every (hr.mono l_every) (pad_cons (pd_var 0) (pad_cons (pd_var 4) (pad_cons pd_int pad_nil)))) pad_nil)))))) psd_nil)
 (psd_one (psd_ret (pd_tup (pad_cons pd_str (pad_cons (pd_slice (pd_var 2) pod_none (pod_some (pd_var 3))) (pad_cons (pd_call h_formula (hr.mono l_formula) (pad_cons (pd_var 0) (pad_cons (pd_var 4) (pad_cons pd_int pad_nil)))) pad_nil))))))))))
def N_mixed : List Str := ["_law_source_here", "_law_about", "_law_path_here", "_law_held", "_law_parts_here", "_law_k", "_law_part"]
theorem sc_mixed : FnScope N_mixed ["_law_source_here", "_law_about", "_law_path_here", "_law_held"] (defScope (top 89)) := ⟨rfl, rfl, rfl, by decide +kernel, rfl, by decide +kernel, by decide +kernel⟩
def T_mixed (s_formula s_draw s_near : SD) : TDS := (dSeq (dSet 4 (dTup (aCons (dCall s_near (aCons (dVar 0) (aCons (dVar 1) (aCons (dVar 2) aNil)))) (aCons (dCall s_near (aCons (dVar 0) (aCons (dVar 1) (aCons (dVar 2) aNil)))) aNil))))
 (dSeq (dSet 5 (dCall s_draw (aCons (dVar 0) (aCons (dC (.d (.int 7))) aNil))))
 (dSeq (dIf (dAndT (dB (d2 fGt (dVar 5) (dC (.d (.int 4))))) (dNotNT (dVar 3))) (dSeq (dSet 6 (dTup (aCons (dC (.d (.str "held"))) (aCons (dCall s_formula (aCons (dVar 0) (aCons (dVar 3) (aCons (dC (.d (.int 3))) aNil)))) aNil))))
 (dRet (d2 fIx (dLst (aCons (dTup (aCons (dC (.d (.str "and"))) (aCons (dTup (aCons (d2 fIx (dVar 4) (dC (.d (.int 0)))) (aCons (dVar 6) aNil))) aNil))) (aCons (dTup (aCons (dC (.d (.str "or"))) (aCons (dTup (aCons (dTup (aCons (dC (.d (.str "not"))) (aCons (dVar 6) aNil))) (aCons (d2 fIx (dVar 4) (dC (.d (.int 1)))) aNil))) aNil))) aNil))) (d2 fSub (dVar 5) (dC (.d (.int 5))))))) dNext)
 (dRet (d2 fIx (dLst (aCons (d2 fIx (dVar 4) (dC (.d (.int 0)))) (aCons (dTup (aCons (dC (.d (.str "not"))) (aCons (d2 fIx (dVar 4) (dC (.d (.int 0)))) aNil))) (aCons (dTup (aCons (dC (.d (.str "and"))) (aCons (dVar 4) aNil))) (aCons (dTup (aCons (dC (.d (.str "or"))) (aCons (dVar 4) aNil))) (aCons (dTup (aCons (dC (.d (.str "and"))) (aCons (dTup (aCons (dTup (aCons (dC (.d (.str "not"))) (aCons (d2 fIx (dVar 4) (dC (.d (.int 0)))) aNil))) (aCons (d2 fIx (dVar 4) (dC (.d (.int 1)))) aNil))) aNil))) aNil)))))) (d2 fMod (dVar 5) (dC (.d (.int 5)))))))))
theorem def_mixed {P : Program} {w : World} {K : PySem.W.Frag} {mg : Str → Option Value} {base : Heap} (G : Gs K mg) {k : Nat} {k_formula k_draw k_near : Nat} {s_formula s_draw s_near : SD} (h_formula : DefOk P w K mg base "_law_formula" k_formula ["_law_source_here", "_law_value_here", "_law_depth"] s_formula) (l_formula : k_formula ≤ k) (h_draw : DefOk P w K mg base "_law_draw" k_draw ["_law_source_here", "_law_many"] s_draw) (l_draw : k_draw ≤ k) (h_near : DefOk P w K mg base "_law_near" k_near ["_law_source_here", "_law_about", "_law_path_here"] s_near) (l_near : k_near ≤ k) {sd : SD} (len : ∀ ss Q, sd ss Q → ss.length = 4)
    (pure : ∀ ss Q, sd ss Q → T_mixed s_formula s_draw s_near { nx := fun _ => Q (.d .non), rt := Q } (ss.map some ++ List.replicate 3 none)) : DefOk P w K mg base "_law_mixed" (k + 1) ["_law_source_here", "_law_about", "_law_path_here", "_law_held"] sd := by
  refine ok_def G 47 rfl sc_mixed (fun _ _ _ _ _ _ us hl => match us, hl with | [_, _, _, _], _ => rfl) len fun f cdv A outer s H E hr => ⟨_, ?_, pure⟩
  exact (psd_cons (psd_set 4 sc_mixed.nd (pd_tup (pad_cons (pd_call h_near (hr.mono l_near) (pad_cons (pd_var 0) (pad_cons (pd_var 1) (pad_cons (pd_var 2) pad_nil)))) (pad_cons (pd_call h_near (hr.mono l_near) (pad_cons (pd_var 0) (pad_cons (pd_var 1) (pad_cons (pd_var 2) pad_nil)))) pad_nil))))
 (psd_cons (psd_set 5 sc_mixed.nd (pd_call h_draw (hr.mono l_draw) (pad_cons (pd_var 0) (pad_cons pd_int pad_nil))))
 (psd_cons (psd_if (PW.pt (pwd_and (pt_gt (pd_var 5) pd_int) (pwd_and1 (pt_notN (pd_var 3))))) (psd_cons (psd_set 6 sc_mixed.nd (pd_tup (pad_cons pd_str (pad_cons (pd_call h_formula (hr.mono l_formula) (pad_cons (pd_var 0) (pad_cons (pd_var 3) (pad_cons pd_int pad_nil)))) pad_nil))))
 (psd_one (psd_ret (pd_ix (pd_lst (pad_cons (pd_tup (pad_cons pd_str (pad_cons (pd_tup (pad_cons (pd_ix (pd_var 4) pd_int) (pad_cons (pd_var 6) pad_nil))) pad_nil))) (pad_cons (pd_tup (pad_cons pd_str (pad_cons (pd_tup (pad_cons (pd_tup (pad_cons pd_str (pad_cons (pd_var 6) pad_nil))) (pad_cons (pd_ix (pd_var 4) pd_int) pad_nil))) pad_nil))) pad_nil))) (pd_sub (pd_var 5) pd_int))))) psd_nil)
 (psd_one (psd_ret (pd_ix (pd_lst (pad_cons (pd_ix (pd_var 4) pd_int) (pad_cons (pd_tup (pad_cons pd_str (pad_cons (pd_ix (pd_var 4) pd_int) pad_nil))) (pad_cons (pd_tup (pad_cons pd_str (pad_cons (pd_var 4) pad_nil))) (pad_cons (pd_tup (pad_cons pd_str (pad_cons (pd_var 4) pad_nil))) (pad_cons (pd_tup (pad_cons pd_str (pad_cons (pd_tup (pad_cons (pd_tup (pad_cons pd_str (pad_cons (pd_ix (pd_var 4) pd_int) pad_nil))) (pad_cons (pd_ix (pd_var 4) pd_int) pad_nil))) pad_nil))) pad_nil)))))) (pd_mod (pd_var 5) pd_int)))))))
def N_is_exact : List Str := ["_law_condition", "_law_primitive_here", "_law_formula_here", "_law_value_here", "_law_held", "_law_after", "_law_due"]
theorem sc_is_exact : FnScope N_is_exact ["_law_condition", "_law_primitive_here", "_law_formula_here", "_law_value_here", "_law_held"] (defScope (top 90)) := ⟨rfl, rfl, rfl, by decide +kernel, rfl, by decide +kernel, by decide +kernel⟩
def T_is_exact (s_holds s_primitive : SD) : TDS := (dSeq (dSet 5 (dCall s_primitive (aCons (dVar 1) (aCons (dVar 3) (aCons (dVar 4) aNil)))))
 (dSeq (dSet 6 (dAndV (dNotN (dVar 5)) (dCall s_holds (aCons (dVar 2) (aCons (d2 fIx (dVar 5) (dC (.d (.int 0)))) (aCons (d2 fIx (dVar 5) (dC (.d (.int 1)))) aNil))))))
 (dRet (d2 fEq (dCall s_holds (aCons (dVar 0) (aCons (dVar 3) (aCons (dVar 4) aNil)))) (dVar 6)))))
theorem def_is_exact {P : Program} {w : World} {K : PySem.W.Frag} {mg : Str → Option Value} {base : Heap} (G : Gs K mg) {k : Nat} {k_holds k_primitive : Nat} {s_holds s_primitive : SD} (h_holds : DefOk P w K mg base "_law_holds" k_holds ["_law_formula_here", "_law_value_here", "_law_held"] s_holds) (l_holds : k_holds ≤ k) (h_primitive : DefOk P w K mg base "_law_primitive" k_primitive ["_law_primitive_here", "_law_value_here", "_law_held"] s_primitive) (l_primitive : k_primitive ≤ k) {sd : SD} (len : ∀ ss Q, sd ss Q → ss.length = 5)
    (pure : ∀ ss Q, sd ss Q → T_is_exact s_holds s_primitive { nx := fun _ => Q (.d .non), rt := Q } (ss.map some ++ List.replicate 2 none)) : DefOk P w K mg base "_law_is_exact" (k + 1) ["_law_condition", "_law_primitive_here", "_law_formula_here", "_law_value_here", "_law_held"] sd := by
  refine ok_def G 48 rfl sc_is_exact (fun _ _ _ _ _ _ us hl => match us, hl with | [_, _, _, _, _], _ => rfl) len fun f cdv A outer s H E hr => ⟨_, ?_, pure⟩
  exact (psd_cons (psd_set 5 sc_is_exact.nd (pd_call h_primitive (hr.mono l_primitive) (pad_cons (pd_var 1) (pad_cons (pd_var 3) (pad_cons (pd_var 4) pad_nil)))))
 (psd_cons (psd_set 6 sc_is_exact.nd (ped_and (pd_notN (pd_var 5)) (ped_one (pd_call h_holds (hr.mono l_holds) (pad_cons (pd_var 2) (pad_cons (pd_ix (pd_var 5) pd_int) (pad_cons (pd_ix (pd_var 5) pd_int) pad_nil)))))))
 (psd_one (psd_ret (pd_eq hr (pd_call h_holds (hr.mono l_holds) (pad_cons (pd_var 0) (pad_cons (pd_var 3) (pad_cons (pd_var 4) pad_nil)))) (pd_var 6))))))
def N_law : List Str := ["_law_script", "_law_source_here", "_law_guide", "_law_held", "_law_target_here", "_law_primitive_here", "_law_after", "_law_about", "_law_kept", "_law_formula_here", "_law_condition", "_law_values", "_law_cell_here", "_law_other", "_law_value_here"]
theorem sc_law : FnScope N_law ["_law_script"] (defScope (top 91)) := ⟨rfl, rfl, rfl, by decide +kernel, rfl, by decide +kernel, by decide +kernel⟩
def B_law_1 (s_is_exact : SD) : TDS := (dSeq (dIf (dNotT (dB (dCall s_is_exact (aCons (dVar 10) (aCons (dVar 5) (aCons (dVar 9) (aCons (dVar 14) (aCons (dVar 3) aNil)))))))) (dRet (dC (.d (.bl false)))) dNext)
 (dIf (dNotT (dB (dCall s_is_exact (aCons (dVar 10) (aCons (dVar 5) (aCons (dVar 9) (aCons (dVar 14) (aCons (dVar 13) aNil)))))))) (dRet (dC (.d (.bl false)))) dNext))
def B_law_2 (s_changed s_source s_value : SD) : TDS := (dIf (dB (d2 fGt (d2 fMod (dCB fInt (aCons (dVar 12) aNil)) (dC (.d (.int 3)))) (dC (.d (.int 0))))) (dApp 11 (dCall s_changed (aCons (dCall s_source (aCons (d2 fDiv (dCB fInt (aCons (dVar 12) aNil)) (dC (.d (.int 3)))) aNil)) (aCons (dVar 2) aNil)))) (dApp 11 (dCall s_value (aCons (dCall s_source (aCons (d2 fDiv (dCB fInt (aCons (dVar 12) aNil)) (dC (.d (.int 3)))) aNil)) (aCons (dC (.d (.int 3))) aNil)))))
def T_law (s_is_exact s_cell s_source s_value s_changed s_is_formula s_before_primitive s_mixed s_primitive s_path s_wide : SD) : TDS := (dSeq (dSet 1 (dCall s_source (aCons (dCall s_cell (aCons (dVar 0) (aCons (dC (.d (.int 0))) aNil))) aNil)))
 (dSeq (dSet 2 (dCall s_wide (aCons (dVar 1) (aCons (dC (.d (.int 3))) aNil))))
 (dSeq (dSet 3 (dCall s_value (aCons (dCall s_source (aCons (dCall s_cell (aCons (dVar 0) (aCons (dC (.d (.int 1))) aNil))) aNil)) (aCons (dC (.d (.int 2))) aNil))))
 (dSeq (dSet 4 (dCall s_path (aCons (dVar 1) (aCons (dVar 2) (aCons (dC (.d (.int 6))) aNil)))))
 (dSeq (dSet 5 (dTup (aCons (dC (.d (.str "swap"))) (aCons (dVar 4) aNil))))
 (dSeq (dSet 6 (dCall s_primitive (aCons (dVar 5) (aCons (dVar 2) (aCons (dVar 3) aNil)))))
 (dSeq (dSet 7 (dVar 2))
 (dSeq (dSet 8 (dVar 3))
 (dSeq (dIf (dNotNT (dVar 6)) (dSeq (dSet 7 (d2 fIx (dVar 6) (dC (.d (.int 0)))))
 (dSet 8 (d2 fIx (dVar 6) (dC (.d (.int 1)))))) dNext)
 (dSeq (dSet 9 (dCall s_mixed (aCons (dCall s_source (aCons (dCall s_cell (aCons (dVar 0) (aCons (dC (.d (.int 2))) aNil))) aNil)) (aCons (dVar 7) (aCons (dVar 4) (aCons (dVar 8) aNil))))))
 (dSeq (dSet 10 (dCall s_before_primitive (aCons (dVar 5) (aCons (dVar 9) aNil))))
 (dSeq (dIf (dNotT (dB (dCall s_is_formula (aCons (dVar 10) (aCons (dC (.d (.bl false))) (aCons (dC (.d (.int 300))) aNil)))))) (dRet (dC (.d (.bl false)))) dNext)
 (dSeq (dSet 11 (dLst (aCons (dVar 2) aNil)))
 (dSeq (dForFz 12 (dSlFz (dVar 0) (dPart (dC (.d (.int 3)))) (dPart (dC (.d (.int 12))))) (B_law_2 s_changed s_source s_value))
 (dSeq (dSet 13 (dCall s_value (aCons (dCall s_source (aCons (dCall s_cell (aCons (dVar 0) (aCons (dC (.d (.int 12))) aNil))) aNil)) (aCons (dC (.d (.int 2))) aNil))))
 (dSeq (dForVar 14 11 (B_law_1 s_is_exact))
 (dRet (dC (.d (.bl true))))))))))))))))))))
theorem def_law {P : Program} {w : World} {K : PySem.W.Frag} {mg : Str → Option Value} {base : Heap} (G : Gs K mg) {k : Nat} {k_is_exact k_cell k_source k_value k_changed k_is_formula k_before_primitive k_mixed k_primitive k_path k_wide : Nat} {s_is_exact s_cell s_source s_value s_changed s_is_formula s_before_primitive s_mixed s_primitive s_path s_wide : SD} (h_is_exact : DefOk P w K mg base "_law_is_exact" k_is_exact ["_law_condition", "_law_primitive_here", "_law_formula_here", "_law_value_here", "_law_held"] s_is_exact) (l_is_exact : k_is_exact ≤ k) (h_cell : DefOk P w K mg base "_law_cell" k_cell ["_law_script", "_law_k"] s_cell) (l_cell : k_cell ≤ k) (h_source : DefOk P w K mg base "_law_source" k_source ["_law_cell_here"] s_source) (l_source : k_source ≤ k) (h_value : DefOk P w K mg base "_law_value" k_value ["_law_source_here", "_law_depth"] s_value) (l_value : k_value ≤ k) (h_changed : DefOk P w K mg base "_law_changed" k_changed ["_law_source_here", "_law_value_here"] s_changed) (l_changed : k_changed ≤ k) (h_is_formula : DefOk P w K mg base "_law_is_formula" k_is_formula ["_law_formula_here", "_law_plain", "_law_depth"] s_is_formula) (l_is_formula : k_is_formula ≤ k) (h_before_primitive : DefOk P w K mg base "before_primitive" k_before_primitive ["primitive", "formula"] s_before_primitive) (l_before_primitive : k_before_primitive ≤ k) (h_mixed : DefOk P w K mg base "_law_mixed" k_mixed ["_law_source_here", "_law_about", "_law_path_here", "_law_held"] s_mixed) (l_mixed : k_mixed ≤ k) (h_primitive : DefOk P w K mg base "_law_primitive" k_primitive ["_law_primitive_here", "_law_value_here", "_law_held"] s_primitive) (l_primitive : k_primitive ≤ k) (h_path : DefOk P w K mg base "_law_path" k_path ["_law_source_here", "_law_value_here", "_law_most"] s_path) (l_path : k_path ≤ k) (h_wide : DefOk P w K mg base "_law_wide" k_wide ["_law_source_here", "_law_depth"] s_wide) (l_wide : k_wide ≤ k) {sd : SD} (len : ∀ ss Q, sd ss Q → ss.length = 1)
    (pure : ∀ ss Q, sd ss Q → T_law s_is_exact s_cell s_source s_value s_changed s_is_formula s_before_primitive s_mixed s_primitive s_path s_wide { nx := fun _ => Q (.d .non), rt := Q } (ss.map some ++ List.replicate 14 none)) : DefOk P w K mg base "law" (k + 1) ["_law_script"] sd := by
  refine ok_def G 49 rfl sc_law (fun _ _ _ _ _ _ us hl => match us, hl with | [_], _ => rfl) len fun f cdv A outer s H E hr => ⟨_, ?_, pure⟩
  exact (psd_cons (psd_set 1 sc_law.nd (pd_call h_source (hr.mono l_source) (pad_cons (pd_call h_cell (hr.mono l_cell) (pad_cons (pd_var 0) (pad_cons pd_int pad_nil))) pad_nil)))
 (psd_cons (psd_set 2 sc_law.nd (pd_call h_wide (hr.mono l_wide) (pad_cons (pd_var 1) (pad_cons pd_int pad_nil))))
 (psd_cons (psd_set 3 sc_law.nd (pd_call h_value (hr.mono l_value) (pad_cons (pd_call h_source (hr.mono l_source) (pad_cons (pd_call h_cell (hr.mono l_cell) (pad_cons (pd_var 0) (pad_cons pd_int pad_nil))) pad_nil)) (pad_cons pd_int pad_nil))))
 (psd_cons (psd_set 4 sc_law.nd (pd_call h_path (hr.mono l_path) (pad_cons (pd_var 1) (pad_cons (pd_var 2) (pad_cons pd_int pad_nil)))))
 (psd_cons (psd_set 5 sc_law.nd (pd_tup (pad_cons pd_str (pad_cons (pd_var 4) pad_nil))))
 (psd_cons (psd_set 6 sc_law.nd (pd_call h_primitive (hr.mono l_primitive) (pad_cons (pd_var 5) (pad_cons (pd_var 2) (pad_cons (pd_var 3) pad_nil)))))
 (psd_cons (psd_set 7 sc_law.nd (pd_var 2))
 (psd_cons (psd_set 8 sc_law.nd (pd_var 3))
 (psd_cons (psd_if (pt_notN (pd_var 6)) (psd_cons (psd_set 7 sc_law.nd (pd_ix (pd_var 6) pd_int))
 (psd_one (psd_set 8 sc_law.nd (pd_ix (pd_var 6) pd_int)))) psd_nil)
 (psd_cons (psd_set 9 sc_law.nd (pd_call h_mixed (hr.mono l_mixed) (pad_cons (pd_call h_source (hr.mono l_source) (pad_cons (pd_call h_cell (hr.mono l_cell) (pad_cons (pd_var 0) (pad_cons pd_int pad_nil))) pad_nil)) (pad_cons (pd_var 7) (pad_cons (pd_var 4) (pad_cons (pd_var 8) pad_nil))))))
 (psd_cons (psd_set 10 sc_law.nd (pd_call h_before_primitive (hr.mono l_before_primitive) (pad_cons (pd_var 5) (pad_cons (pd_var 9) pad_nil))))
 (psd_cons (psd_if (ptd_not (pt_e (pd_call h_is_formula (hr.mono l_is_formula) (pad_cons (pd_var 10) (pad_cons pd_bl (pad_cons pd_int pad_nil)))))) (psd_one (psd_ret pd_bl)) psd_nil)
 (psd_cons (psd_set 11 sc_law.nd (pd_lst (pad_cons (pd_var 2) pad_nil)))
 (psd_cons (psd_for_fz 12 PassesOwn.never (pd_sliceFz (pd_var 0) (pod_some pd_int) (pod_some pd_int)) (pg_name (i := 12) sc_law.nd rfl (by first | exact Or.inl rfl | exact Or.inr rfl)) (psd_one (psd_if (pt_gt (pd_mod (pd_callTy call_int1 fInt_ok G.z_int (pad_cons (pd_var 12) pad_nil)) pd_int) pd_int) (psd_one (psd_app 11 (pd_call h_changed (hr.mono l_changed) (pad_cons (pd_call h_source (hr.mono l_source) (pad_cons (pd_div (pd_callTy call_int1 fInt_ok G.z_int (pad_cons (pd_var 12) pad_nil)) pd_int) pad_nil)) (pad_cons (pd_var 2) pad_nil))))) (psd_one (psd_app 11 (pd_call h_value (hr.mono l_value) (pad_cons (pd_call h_source (hr.mono l_source) (pad_cons (pd_div (pd_callTy call_int1 fInt_ok G.z_int (pad_cons (pd_var 12) pad_nil)) pd_int) pad_nil)) (pad_cons pd_int pad_nil))))))))
 (psd_cons (psd_set 13 sc_law.nd (pd_call h_value (hr.mono l_value) (pad_cons (pd_call h_source (hr.mono l_source) (pad_cons (pd_call h_cell (hr.mono l_cell) (pad_cons (pd_var 0) (pad_cons pd_int pad_nil))) pad_nil)) (pad_cons pd_int pad_nil))))
 (psd_cons (psd_for_var 14 11 PassesOwn.never (pg_name (i := 14) sc_law.nd rfl (by first | exact Or.inl rfl | exact Or.inr rfl)) (psd_cons (psd_if (ptd_not (pt_e (pd_call h_is_exact (hr.mono l_is_exact) (pad_cons (pd_var 10) (pad_cons (pd_var 5) (pad_cons (pd_var 9) (pad_cons (pd_var 14) (pad_cons (pd_var 3) pad_nil)))))))) (psd_one (psd_ret pd_bl)) psd_nil)
 (psd_one (psd_if (ptd_not (pt_e (pd_call h_is_exact (hr.mono l_is_exact) (pad_cons (pd_var 10) (pad_cons (pd_var 5) (pad_cons (pd_var 9) (pad_cons (pd_var 14) (pad_cons (pd_var 13) pad_nil)))))))) (psd_one (psd_ret pd_bl)) psd_nil))))
 (psd_one (psd_ret pd_bl))))))))))))))))))
end Pk

/-! ## Ty -/
set_option Elab.async false
set_option linter.all false
set_option maxRecDepth 100000
set_option maxHeartbeats 4000000
namespace Pk
open PySem L2
/-! ### texts -/
theorem ofString_inj {a b : String} : (Str.ofString a = Str.ofString b) ↔ a = b := by
  constructor
  · intro h
    rw [Str.ofString_eq_toList, Str.ofString_eq_toList] at h
    have h1 : (a.toList.map Char.toNat) = b.toList.map Char.toNat := by
      have := congrArg (fun z : Str => z.cps.toList) h
      simpa using this
    have h2 : a.toList = b.toList := by
      refine (List.map_inj_right fun x y e => ?_).mp h1
      exact Char.toNat_inj.mp e
    exact String.toList_inj.mp h2
  · rintro rfl; rfl
/-! ### the data -/
inductive Tok where
  | s (z : Str) | i (n : Int)
  deriving DecidableEq
abbrev Path := List Tok
def encT : Tok → D
  | .s z => .str z
  | .i n => .int n
def encP (p : Path) : D := .tup (p.map encT)
inductive Val where
  | nul | bool (b : Bool) | int (n : Int) | text (z : Str) | list (xs : List Val) | obj (fs : List (Str × Val))
mutual
def encV : Val → D
  | .nul => .tup [.str "null"]
  | .bool b => .tup [.str "bool", .bl b]
  | .int n => .tup [.str "int", .int n]
  | .text z => .tup [.str "text", .str z]
  | .list xs => .tup [.str "list", .tup (encVs xs)]
  | .obj fs => .tup [.str "object", .tup (encFs fs)]
def encVs : List Val → List D
  | [] => []
  | x :: r => encV x :: encVs r
def encFd : Str × Val → D
  | (n, v) => .tup [.str n, encV v]
def encFs : List (Str × Val) → List D
  | [] => []
  | f :: r => encFd f :: encFs r
end
inductive Fm where
  | tru | fls | neg (f : Fm) | conj (fs : List Fm) | disj (fs : List Fm) | at_ (p : Path) (f : Fm) | kind (k : Str) | intFrom (n : Int) | boolIs (b : Bool) | textIs (z : Str)
  | textFrom (n : Int) | itemsFrom (n : Int) | eachItem (n : Int) (f : Fm) | eachField (ns : List Str) (f : Fm) | held (f : Fm)
mutual
def enc : Fm → D
  | .tru => .tup [.str "true"]
  | .fls => .tup [.str "false"]
  | .neg f => .tup [.str "not", enc f]
  | .conj fs => .tup [.str "and", .tup (encL fs)]
  | .disj fs => .tup [.str "or", .tup (encL fs)]
  | .at_ p f => .tup [.str "at", encP p, enc f]
  | .kind k => .tup [.str "kind", .str k]
  | .intFrom n => .tup [.str "int_from", .int n]
  | .boolIs b => .tup [.str "bool_is", .bl b]
  | .textIs z => .tup [.str "text_is", .str z]
  | .textFrom n => .tup [.str "text_from", .int n]
  | .itemsFrom n => .tup [.str "items_from", .int n]
  | .eachItem n f => .tup [.str "each_item", .int n, enc f]
  | .eachField ns f => .tup [.str "each_field", .tup (ns.map D.str), enc f]
  | .held f => .tup [.str "held", enc f]
def encL : List Fm → List D
  | [] => []
  | f :: r => enc f :: encL r
end
theorem encL_map : ∀ fs : List Fm, encL fs = fs.map enc
  | [] => by simp [encL]
  | f :: r => by simp [encL, encL_map r]
theorem encVs_map : ∀ fs : List Val, encVs fs = fs.map encV
  | [] => by simp [encVs]
  | f :: r => by simp [encVs, encVs_map r]
theorem encFs_map : ∀ fs : List (Str × Val), encFs fs = fs.map encFd
  | [] => by simp [encFs]
  | f :: r => by simp [encFs, encFs_map r]
/-! ### what the program makes of formulas -/
namespace Fm
def no : Fm → Fm
  | .tru => .fls
  | .fls => .tru
  | .neg f => f
  | f => .neg f
def bothP : List Fm → Option (List Fm)
  | [] => some []
  | .fls :: _ => none
  | .conj gs :: r => (bothP r).map (gs ++ ·)
  | .tru :: r => bothP r
  | f :: r => (bothP r).map (f :: ·)
def wrapC : List Fm → Fm
  | [] => .tru
  | [f] => f
  | fs => .conj fs
def both (fs : List Fm) : Fm := match bothP fs with
  | none => .fls
  | some ps => wrapC ps
def oneP : List Fm → Option (List Fm)
  | [] => some []
  | .tru :: _ => none
  | .disj gs :: r => (oneP r).map (gs ++ ·)
  | .fls :: r => oneP r
  | f :: r => (oneP r).map (f :: ·)
def wrapD : List Fm → Fm
  | [] => .fls
  | [f] => f
  | fs => .disj fs
def oneOf (fs : List Fm) : Fm := match oneP fs with
  | none => .tru
  | some ps => wrapD ps
def at' (p : Path) (f : Fm) : Fm := if p = [] then f else match f with
  | .fls => .fls
  | .at_ q g => .at_ (p ++ q) g
  | f => .at_ p f
def ofHeld : Fm → Fm
  | .tru => .tru
  | .fls => .fls
  | f => .held f
def afterSwap (t p : Path) (f : Fm) : Fm := if p.take t.length = t then ofHeld (at' (p.drop t.length) f) else at' p f
/-- the place lies above the target -/
def above (t p : Path) : Prop := p.length < t.length ∧ t.take p.length = p
instance (t p : Path) : Decidable (above t p) := by unfold above; exact inferInstance
def items (p : Path) (f : Fm) (n m : Int) : List Fm := (List.range (m - n).toNat).map fun (j : Nat) => at' (p ++ [.i (n + j)]) f
/-- the formula before for a formula that has no parts at its place and no formula within -/
def simple0 (t p : Path) (f : Fm) : Fm := if above t p then at' p f else afterSwap t p f
mutual
def there (t : Path) : Fm → Path → Fm
  | .fls, _ => .fls
  | .neg f, p => no (there t f p)
  | .conj fs, p => both (theres t fs p)
  | .disj fs, p => oneOf (theres t fs p)
  | .at_ q f, p => both [simple0 t (p ++ q) .tru, there t f (p ++ q)]
  | .eachItem n f, p => if above t p then
      (match t[p.length]? with
      | some (.i m) => if n ≤ m then both (items p f n m ++ [both [simple0 t (p ++ [.i m]) .tru, there t f (p ++ [.i m])], at' p (.eachItem (m + 1) f)]) else at' p (.eachItem n f)
      | _ => at' p (.eachItem n f))
    else afterSwap t p (.eachItem n f)
  | .eachField ns f, p => if above t p then
      (match t[p.length]? with
      | some (.s z) => if z ∉ ns then both [both [simple0 t (p ++ [.s z]) .tru, there t f (p ++ [.s z])], at' p (.eachField (ns ++ [z]) f)] else at' p (.eachField ns f)
      | _ => at' p (.eachField ns f))
    else afterSwap t p (.eachField ns f)
  | .tru, p => simple0 t p .tru
  | .kind k, p => simple0 t p (.kind k)
  | .intFrom n, p => simple0 t p (.intFrom n)
  | .boolIs b, p => simple0 t p (.boolIs b)
  | .textIs z, p => simple0 t p (.textIs z)
  | .textFrom n, p => simple0 t p (.textFrom n)
  | .itemsFrom n, p => simple0 t p (.itemsFrom n)
  | .held f, p => simple0 t p (.held f)
def theres (t : Path) : List Fm → Path → List Fm
  | [], _ => []
  | f :: r, p => there t f p :: theres t r p
end
def afterAt (t : Path) (f : Fm) (p : Path) : Fm := both [simple0 t p .tru, there t f p]
mutual
def rewr (t : Path) : Fm → Fm
  | .neg f => no (rewr t f)
  | .conj fs => both (rewrs t fs)
  | .disj fs => oneOf (rewrs t fs)
  | .held f => .held f
  | .tru => afterAt t .tru []
  | .fls => afterAt t .fls []
  | .at_ q f => afterAt t (.at_ q f) []
  | .kind k => afterAt t (.kind k) []
  | .intFrom n => afterAt t (.intFrom n) []
  | .boolIs b => afterAt t (.boolIs b) []
  | .textIs z => afterAt t (.textIs z) []
  | .textFrom n => afterAt t (.textFrom n) []
  | .itemsFrom n => afterAt t (.itemsFrom n) []
  | .eachItem n f => afterAt t (.eachItem n f) []
  | .eachField ns f => afterAt t (.eachField ns f) []
def rewrs (t : Path) : List Fm → List Fm
  | [] => []
  | f :: r => rewr t f :: rewrs t r
end
def before (t : Path) (f : Fm) : Fm := both [at' t .tru, rewr t f]
end Fm
/-! ### values: places, holds -/
def child : Val → Tok → Option Val
  | .list xs, .i n => if 0 ≤ n ∧ n < xs.length then xs[n.toNat]? else none
  | .obj fs, .s z => (fs.find? fun f => f.1 = z).map (·.2)
  | _, _ => none
def lookup : Val → Path → Option Val
  | v, [] => some v
  | v, t :: p => (child v t).bind fun c => lookup c p
def withC : Val → Tok → Val → Val
  | .list xs, .i n, w => .list (xs.take n.toNat ++ [w] ++ xs.drop (n.toNat + 1))
  | .obj fs, .s z, w => .obj ((fs.filter fun f => ltS f.1 z) ++ [(z, w)] ++ fs.filter fun f => ltS z f.1)
  | v, _, _ => v
def replace : Val → Path → Val → Option Val
  | _, [], w => some w
  | v, t :: p, w => (child v t).bind fun c => (replace c p w).map fun c' => withC v t c'
def kindOf : Val → Str
  | .nul => "null"
  | .bool _ => "bool"
  | .int _ => "int"
  | .text _ => "text"
  | .list _ => "list"
  | .obj _ => "object"
mutual
def holds : Fm → Val → Val → Bool
  | .tru, _, _ => true
  | .fls, _, _ => false
  | .neg f, v, h => !holds f v h
  | .conj fs, v, h => holdsA fs v h
  | .disj fs, v, h => holdsO fs v h
  | .at_ p f, v, h => (match lookup v p with
    | some x => holds f x h
    | none => false)
  | .kind k, v, _ => decide (kindOf v = k)
  | .intFrom n, v, _ => (match v with
    | .int m => decide (n ≤ m)
    | _ => false)
  | .boolIs b, v, _ => (match v with
    | .bool c => decide (c = b)
    | _ => false)
  | .textIs z, v, _ => (match v with
    | .text y => decide (y = z)
    | _ => false)
  | .textFrom n, v, _ => (match v with
    | .text y => decide (n ≤ (y.length : Int))
    | _ => false)
  | .itemsFrom n, v, _ => (match v with
    | .list xs => decide (n ≤ (xs.length : Int))
    | _ => false)
  | .eachItem n f, v, h => (match v with
    | .list xs => (xs.drop n.toNat).all fun x => holds f x h
    | _ => false)
  | .eachField ns f, v, h => (match v with
    | .obj fs => fs.all fun d => decide (d.1 ∈ ns) || holds f d.2 h
    | _ => false)
  | .held f, _, h => holds f h h
def holdsA : List Fm → Val → Val → Bool
  | [], _, _ => true
  | f :: r, v, h => holds f v h && holdsA r v h
def holdsO : List Fm → Val → Val → Bool
  | [], _, _ => false
  | f :: r, v, h => holds f v h || holdsO r v h
end
end Pk

/-! ## Lc -/
set_option Elab.async false
set_option linter.all false
set_option maxRecDepth 100000
set_option maxHeartbeats 4000000
namespace Pk
open PySem L2
@[simp] theorem ofs_inj {a b : String} : (Str.ofString a = Str.ofString b) = (a = b) := propext ofString_inj
@[simp] theorem atI_cons0 {α : Type} (x : α) (r : List α) : atI (x :: r) 0 = some x := atI_nat (j := 0) rfl
@[simp] theorem atI_cons1 {α : Type} (x y : α) (r : List α) : atI (x :: y :: r) 1 = some y := atI_nat (j := 1) rfl
@[simp] theorem atI_cons2 {α : Type} (x y z : α) (r : List α) : atI (x :: y :: z :: r) 2 = some z := atI_nat (j := 2) rfl
@[simp] theorem noInt_tup (x : List D) : noInt (.tup x) := trivial
@[simp] theorem noInt_str (x : Str) : noInt (.str x) := trivial
@[simp] theorem noInt_bl (x : Bool) : noInt (.bl x) := trivial
@[simp] theorem noInt_non : noInt .non := trivial
@[simp] theorem noInt_enc (f : Fm) : noInt (enc f) := by cases f <;> simp [enc]
@[simp] theorem noInt_encV (f : Val) : noInt (encV f) := by cases f <;> simp [encV]
@[simp] theorem nsrcD_0 : nsrcD [] := trivial
@[simp] theorem nsrcD_1 (x : D) : nsrcD [x] := by cases x <;> trivial
@[simp] theorem nsrcD_2 (x y : D) : nsrcD [x, y] := by cases x <;> cases y <;> trivial
@[simp] theorem nsrcD_t (x : List D) (r : List D) : nsrcD (.tup x :: r) := trivial
@[simp] theorem nsrcD_s (x : Str) (r : List D) : nsrcD (.str x :: r) := trivial
@[simp] theorem nsrcD_b (x : Bool) (r : List D) : nsrcD (.bl x :: r) := trivial
@[simp] theorem nsrcD_4 (x y z u : D) (r : List D) : nsrcD (x :: y :: z :: u :: r) := by unfold nsrcD; split <;> simp_all
@[simp] theorem kit1 : kitB "str" "int" = some false := by decide +kernel
@[simp] theorem kit2 : kitB "str" "str" = some true := by decide +kernel
@[simp] theorem kit3 : kitB "int" "int" = some true := by decide +kernel
@[simp] theorem kit4 : kitB "int" "str" = some false := by decide +kernel
@[simp] theorem kit5 : kitB "str" "bool" = some false := by decide +kernel
@[simp] theorem kit6 : kitB "int" "bool" = some false := by decide +kernel
@[simp] theorem kit7 : kitB "bool" "bool" = some true := by decide +kernel
@[simp] theorem kit8 : kitB "bool" "int" = some true := by decide +kernel
@[simp] theorem kit9 : kitB "tuple" "tuple" = some true := by decide +kernel
@[simp] theorem kit10 : kitB "tuple" "int" = some false := by decide +kernel
@[simp] theorem kit11 : kitB "tuple" "str" = some false := by decide +kernel
@[simp] theorem kit12 : kitB "NoneType" "int" = some false := by decide +kernel
@[simp] theorem kit13 : kitB "NoneType" "str" = some false := by decide +kernel
@[simp] theorem kit14 : kitB "tuple" "bool" = some false := by decide +kernel
@[simp] theorem kit15 : kitB "int" "tuple" = some false := by decide +kernel
@[simp] theorem kit16 : kitB "str" "tuple" = some false := by decide +kernel
@[simp] theorem kit17 : kitB "bool" "str" = some false := by decide +kernel
@[simp] theorem kit18 : kitB "bool" "tuple" = some false := by decide +kernel
@[simp] theorem view_d (x : D) : view (.d x) = .d x := rfl
@[simp] theorem view_l (x : List D) : view (.lst x) = .lst x := rfl
@[simp] theorem view_o (x : List D) : view (.own x) = .lst x := rfl
@[simp] theorem view_z (x : List D) : view (.fz x) = .fz x := rfl
@[simp] theorem view_s : view .src = .src := rfl
@[simp] theorem stor_d (x : D) : stor (.d x) = True := rfl
@[simp] theorem stor_o (x : List D) : stor (.own x) = True := rfl
@[simp] theorem stor_z (x : List D) : stor (.fz x) = True := rfl
@[simp] theorem stor_s : stor .src = True := rfl
@[simp] theorem isN_n : isN (.d .non) = true := rfl
@[simp] theorem isN_t (x : List D) : isN (.d (.tup x)) = false := rfl
@[simp] theorem isN_i (x : Int) : isN (.d (.int x)) = false := rfl
@[simp] theorem isN_st (x : Str) : isN (.d (.str x)) = false := rfl
@[simp] theorem isN_b (x : Bool) : isN (.d (.bl x)) = false := rfl
@[simp] theorem isN_o (x : List D) : isN (.own x) = false := rfl
@[simp] theorem isN_l (x : List D) : isN (.lst x) = false := rfl
@[simp] theorem isN_tok (x : Tok) : isN (.d (encT x)) = false := by cases x <;> rfl
@[simp] theorem isN_encV (v : Val) : isN (.d (encV v)) = false := by cases v <;> simp [encV]
section
variable {Q : S → Prop}
@[simp] theorem fI_ii {g : Int → Int → Int} {C : Int → Int → Prop} {i j : Int} : fI g C (.d (.int i)) (.d (.int j)) Q = (C i j ∧ Q (.d (.int (g i j)))) := rfl
@[simp] theorem fAdd_ii {i j : Int} : fAdd (.d (.int i)) (.d (.int j)) Q = Q (.d (.int (i + j))) := rfl
@[simp] theorem fAdd_ss {i j : Str} : fAdd (.d (.str i)) (.d (.str j)) Q = (i.length + j.length ≤ 1000000 ∧ Q (.d (.str (i ++ j)))) := rfl
@[simp] theorem fAdd_tt {i j : List D} : fAdd (.d (.tup i)) (.d (.tup j)) Q = (i.length + j.length ≤ 1000000 ∧ Q (.d (.tup (i ++ j)))) := rfl
@[simp] theorem fAdd_oo {i j : List D} : fAdd (.own i) (.own j) Q = (i.length + j.length ≤ 1000000 ∧ nsrcD (i ++ j) ∧ Q (.own (i ++ j))) := rfl
@[simp] theorem fAdd_lo {i j : List D} : fAdd (.lst i) (.own j) Q = (i.length + j.length ≤ 1000000 ∧ nsrcD (i ++ j) ∧ Q (.own (i ++ j))) := rfl
@[simp] theorem fMul_ii {i j : Int} : fMul (.d (.int i)) (.d (.int j)) Q = (CMul i j ∧ Q (.d (.int (i * j)))) := rfl
@[simp] theorem fMul_si {i : Str} {j : Int} : fMul (.d (.str i)) (.d (.int j)) Q = ((0 < i.length ∧ i.length ≤ 1000 ∧ j ≤ 1000 ∧ -1000 ≤ j) ∧ Q (.d (.str (repS i j)))) := rfl
@[simp] theorem fEq_ss {i j : Str} : fEq (.d (.str i)) (.d (.str j)) Q = Q (.d (.bl (decide (i = j)))) := rfl
@[simp] theorem fEq_ii {i j : Int} : fEq (.d (.int i)) (.d (.int j)) Q = Q (.d (.bl (decide (i = j)))) := rfl
@[simp] theorem fEq_bb {i j : Bool} : fEq (.d (.bl i)) (.d (.bl j)) Q = Q (.d (.bl (decide (i = j)))) := rfl
@[simp] theorem fEq_tt {a b : List D} : fEq (.d (.tup a)) (.d (.tup b)) Q = (SeqAt.shaped (toP (.tup a)) = true ∧ SeqAt.shaped (toP (.tup b)) = true ∧ Q (.d (.bl (PyData.eqv (toP (.tup a)) (toP (.tup b)))))) := rfl
@[simp] theorem fNe_ss {i j : Str} : fNe (.d (.str i)) (.d (.str j)) Q = Q (.d (.bl (!decide (i = j)))) := rfl
@[simp] theorem fNe_ii {i j : Int} : fNe (.d (.int i)) (.d (.int j)) Q = Q (.d (.bl (!decide (i = j)))) := rfl
@[simp] theorem fOrd_ii {g : Int → Int → Bool} {k : Str → Str → Bool} {i j : Int} : fOrd g k (.d (.int i)) (.d (.int j)) Q = Q (.d (.bl (g i j))) := rfl
@[simp] theorem fOrd_ss {g : Int → Int → Bool} {k : Str → Str → Bool} {i j : Str} : fOrd g k (.d (.str i)) (.d (.str j)) Q = Q (.d (.bl (k i j))) := rfl
@[simp] theorem fIn_st {neg : Bool} {z : Str} {ys : List D} : fIn neg (.d (.str z)) (.d (.tup ys)) Q = (match strsOf ys with
    | some zs => Q (.d (.bl (if neg then !decide (z ∈ zs) else decide (z ∈ zs))))
    | none => False) := rfl
@[simp] theorem fIn_so {neg : Bool} {z : Str} {ys : List D} : fIn neg (.d (.str z)) (.own ys) Q = (match strsOf ys with
    | some zs => Q (.d (.bl (if neg then !decide (z ∈ zs) else decide (z ∈ zs))))
    | none => False) := rfl
@[simp] theorem fIx_t {xs : List D} {i : Int} : fIx (.d (.tup xs)) (.d (.int i)) Q = (match atI xs i with
      | some d => Q (.d d)
      | none => False) := rfl
@[simp] theorem fIx_o {xs : List D} {i : Int} : fIx (.own xs) (.d (.int i)) Q = (match atI xs i with
      | some d => Q (.d d)
      | none => False) := rfl
@[simp] theorem fIx_l {xs : List D} {i : Int} : fIx (.lst xs) (.d (.int i)) Q = (match atI xs i with
      | some d => Q (.d d)
      | none => False) := rfl
@[simp] theorem fIx_z {xs : List D} {i : Int} : fIx (.fz xs) (.d (.int i)) Q = (match atI xs i with
      | some d => Q (.d d)
      | none => False) := rfl
@[simp] theorem fIx_s {z : Str} {i : Int} : fIx (.d (.str z)) (.d (.int i)) Q = (z.length ≤ 1000000 ∧ (match atI z.cps.toList i with
    | some c => Q (.d (.str ⟨#[c]⟩))
    | none => False)) := rfl
@[simp] theorem fLen_s {z : Str} : fLen [.d (.str z)] Q = (z.length ≤ 1000000 ∧ Q (.d (.int z.length))) := rfl
@[simp] theorem fLen_t {xs : List D} : fLen [.d (.tup xs)] Q = Q (.d (.int xs.length)) := rfl
@[simp] theorem fLen_o {xs : List D} : fLen [.own xs] Q = Q (.d (.int xs.length)) := rfl
@[simp] theorem fLen_l {xs : List D} : fLen [.lst xs] Q = Q (.d (.int xs.length)) := rfl
@[simp] theorem fLen_z {xs : List D} : fLen [.fz xs] Q = Q (.d (.int xs.length)) := rfl
@[simp] theorem fBools_o {g : List Bool → Bool} {xs : List D} : fBools g [.own xs] Q = (match bools xs with
    | some bs => Q (.d (.bl (g bs)))
    | none => False) := rfl
@[simp] theorem fTuple_t {xs : List D} : fTuple [.d (.tup xs)] Q = Q (.d (.tup xs)) := rfl
@[simp] theorem fTuple_o {xs : List D} : fTuple [.own xs] Q = Q (.d (.tup xs)) := rfl
@[simp] theorem fTuple_l {xs : List D} : fTuple [.lst xs] Q = Q (.d (.tup xs)) := rfl
@[simp] theorem fList_t {xs : List D} : fList [.d (.tup xs)] Q = (nsrcD xs ∧ Q (.own xs)) := rfl
@[simp] theorem fInt_i {i : Int} : fInt [.d (.int i)] Q = Q (.d (.int i)) := rfl
@[simp] theorem fInt_b {i : Bool} : fInt [.d (.bl i)] Q = Q (.d (.int (if i then 1 else 0))) := rfl
@[simp] theorem f2I_ii {g : Int → Int → Int} {i j : Int} : f2I g [.d (.int i), .d (.int j)] Q = Q (.d (.int (g i j))) := rfl
@[simp] theorem fOrd1_s {z : Str} : fOrd1 [.d (.str z)] Q = (z.length = 1 ∧ Q (.d (.int (z.cps.getD 0 0 : Nat)))) := rfl
end
@[simp high] theorem fAdd_ps (p : Path) (z : Str) (Q : S → Prop) : fAdd (.d (encP p)) (.d (.tup [.str z])) Q = (p.length + 1 ≤ 1000000 ∧ Q (.d (encP (p ++ [.s z])))) := by simp [fAdd, encP, encT]
@[simp high] theorem fAdd_pi (p : Path) (z : Int) (Q : S → Prop) : fAdd (.d (encP p)) (.d (.tup [.int z])) Q = (p.length + 1 ≤ 1000000 ∧ Q (.d (encP (p ++ [.i z])))) := by simp [fAdd, encP, encT]
@[simp high] theorem fAdd_pt (p : Path) (z : Tok) (Q : S → Prop) : fAdd (.d (encP p)) (.d (.tup [encT z])) Q = (p.length + 1 ≤ 1000000 ∧ Q (.d (encP (p ++ [z])))) := by simp [fAdd, encP]
@[simp high] theorem fAdd_pp (p q : Path) (Q : S → Prop) : fAdd (.d (encP p)) (.d (encP q)) Q = (p.length + q.length ≤ 1000000 ∧ Q (.d (encP (p ++ q)))) := by simp [fAdd, encP]
@[simp high] theorem fLen_p (p : Path) (Q : S → Prop) : fLen [.d (encP p)] Q = Q (.d (.int p.length)) := by simp [fLen, encP]
theorem nsrcD_of {xs : List D} (h : ∀ x ∈ xs, noInt x) : nsrcD xs := by
  unfold nsrcD
  split
  · rename_i a b c
    exact h (.int a) (by simp)
  · trivial
@[simp] theorem nsrcD_enc (fs : List Fm) : nsrcD (fs.map enc) := nsrcD_of fun x hx => by
  obtain ⟨f, _, rfl⟩ := List.mem_map.mp hx
  exact noInt_enc f
/-! ### comprehensions -/
/-- elements of some kind -/
theorem lcD_any {i : Nat} {Te : TDE} {ρ : DE} {P : D → D → Prop} (hn : ∀ x y, P x y → noInt y) : ∀ {xs acc : List D} {Q : List D → Prop}, (∀ x ∈ xs, ∀ Q : S → Prop, (∀ y, P x y → Q (.d y)) → Te (ρ.set i (some (.d x))) Q) → acc.length + xs.length ≤ 1000000 →
    (∀ ys, Paired P xs ys → Q (acc ++ ys)) → lcD i dYes Te ρ xs acc Q
  | [], acc, Q, _, _, h => by
    have := h [] .nil
    rw [List.append_nil] at this
    exact this
  | x :: r, acc, Q, he, hl, h => by
    simp only [lcD, dYes, if_true]
    refine he x (by simp) _ fun y py => ⟨hn x y py, by simp at hl; omega, ?_⟩
    refine lcD_any hn (fun x hx => he x (by simp [hx])) (by simp at hl ⊢; omega) fun ys pys => ?_
    rw [List.append_assoc]
    exact h (y :: ys) (.cons py pys)
theorem paired_map {α β : Type} {g : α → β} : ∀ {xs : List α} {ys : List β}, Paired (fun x y => y = g x) xs ys → ys = xs.map g
  | _, _, .nil => rfl
  | _, _, .cons h r => by rw [h, paired_map r]; rfl
/-- elements by a function -/
theorem lcD_map {i : Nat} {Te : TDE} {ρ : DE} (g : D → D) {xs acc : List D} {Q : List D → Prop} (hn : ∀ x, noInt (g x)) (he : ∀ x ∈ xs, ∀ Q : S → Prop, Q (.d (g x)) → Te (ρ.set i (some (.d x))) Q) (hl : acc.length + xs.length ≤ 1000000)
    (h : Q (acc ++ xs.map g)) : lcD i dYes Te ρ xs acc Q :=
  lcD_any (P := fun x y => y = g x) (fun x y e => by rw [e]; exact hn x) (fun x hx Q q => he x hx Q (q _ rfl)) hl fun ys p => by rw [paired_map p]; exact h
/-- with a test, both by functions -/
theorem lcD_filter {i : Nat} {Tt : TDT} {Te : TDE} {ρ : DE} (c : D → Bool) (g : D → D) : ∀ {xs acc : List D} {Q : List D → Prop}, (∀ x ∈ xs, noInt (g x)) → (∀ x ∈ xs, ∀ Q : Bool → Prop, Q (c x) → Tt (ρ.set i (some (.d x))) Q) →
    (∀ x ∈ xs, ∀ Q : S → Prop, Q (.d (g x)) → Te (ρ.set i (some (.d x))) Q) → acc.length + xs.length ≤ 1000000 → Q (acc ++ (xs.filter c).map g) → lcD i Tt Te ρ xs acc Q
  | [], acc, Q, _, _, _, _, h => by simpa [lcD] using h
  | x :: r, acc, Q, hn, ht, he, hl, h => by
    simp only [lcD]
    refine ht x (by simp) _ ?_
    by_cases hc : c x = true
    · rw [if_pos hc]
      refine he x (by simp) _ ⟨hn x (by simp), by simp at hl; omega, ?_⟩
      refine lcD_filter c g (fun x hx => hn x (by simp [hx])) (fun x hx => ht x (by simp [hx])) (fun x hx => he x (by simp [hx])) (by simp at hl ⊢; omega) ?_
      rw [List.filter_cons_of_pos hc] at h
      rw [List.append_assoc]
      exact h
    · rw [if_neg hc]
      refine lcD_filter c g (fun x hx => hn x (by simp [hx])) (fun x hx => ht x (by simp [hx])) (fun x hx => he x (by simp [hx])) (by simp at hl ⊢; omega) ?_
      rw [List.filter_cons_of_neg hc] at h
      exact h
/-- with a test that may go either way -/
theorem lcD_some {i : Nat} {Tt : TDT} {Te : TDE} {ρ : DE} {P : D → Prop} (hn : ∀ y, P y → noInt y) : ∀ {xs acc : List D} {Q : List D → Prop}, (∀ x ∈ xs, ∀ Q : Bool → Prop, (∀ b, Q b) → Tt (ρ.set i (some (.d x))) Q) →
    (∀ x ∈ xs, ∀ Q : S → Prop, (∀ y, P y → Q (.d y)) → Te (ρ.set i (some (.d x))) Q) → acc.length + xs.length ≤ 1000000 → (∀ ys : List D, ys.length ≤ xs.length → (∀ y ∈ ys, P y) → Q (acc ++ ys)) → lcD i Tt Te ρ xs acc Q
  | [], acc, Q, _, _, _, h => by
    have := h [] (by simp) (by simp)
    simpa [lcD] using this
  | x :: r, acc, Q, ht, he, hl, h => by
    simp only [lcD]
    refine ht x (by simp) _ fun b => ?_
    cases b with
    | true =>
      rw [if_pos rfl]
      refine he x (by simp) _ fun y py => ⟨hn y py, by simp at hl; omega, ?_⟩
      refine lcD_some hn (fun x hx => ht x (by simp [hx])) (fun x hx => he x (by simp [hx])) (by simp at hl ⊢; omega) fun ys h1 h2 => ?_
      rw [List.append_assoc]
      exact h (y :: ys) (by simp; omega) (by simpa using ⟨py, h2⟩)
    | false =>
      rw [if_neg Bool.false_ne_true]
      refine lcD_some hn (fun x hx => ht x (by simp [hx])) (fun x hx => he x (by simp [hx])) (by simp at hl ⊢; omega) fun ys h1 h2 => h ys (by simp; omega) h2
/-- the same over things of any type -/
theorem lcD_mapA {α : Type} {i : Nat} {Te : TDE} {ρ : DE} (e g : α → D) : ∀ {xs : List α} {acc : List D} {Q : List D → Prop}, (∀ x ∈ xs, noInt (g x)) → (∀ x ∈ xs, ∀ Q : S → Prop, Q (.d (g x)) → Te (ρ.set i (some (.d (e x)))) Q) → acc.length + xs.length ≤ 1000000 →
    Q (acc ++ xs.map g) → lcD i dYes Te ρ (xs.map e) acc Q
  | [], acc, Q, _, _, _, h => by simpa [lcD] using h
  | x :: r, acc, Q, hn, he, hl, h => by
    simp only [List.map_cons, lcD, dYes, if_true]
    refine he x (by simp) _ ⟨hn x (by simp), by simp at hl; omega, ?_⟩
    refine lcD_mapA e g (fun x hx => hn x (by simp [hx])) (fun x hx => he x (by simp [hx])) (by simp at hl ⊢; omega) ?_
    rw [List.append_assoc]
    exact h
theorem lcD_filterA {α : Type} {i : Nat} {Tt : TDT} {Te : TDE} {ρ : DE} (e g : α → D) (c : α → Bool) : ∀ {xs : List α} {acc : List D} {Q : List D → Prop}, (∀ x ∈ xs, noInt (g x)) → (∀ x ∈ xs, ∀ Q : Bool → Prop, Q (c x) → Tt (ρ.set i (some (.d (e x)))) Q) →
    (∀ x ∈ xs, ∀ Q : S → Prop, Q (.d (g x)) → Te (ρ.set i (some (.d (e x)))) Q) → acc.length + xs.length ≤ 1000000 → Q (acc ++ (xs.filter c).map g) → lcD i Tt Te ρ (xs.map e) acc Q
  | [], acc, Q, _, _, _, _, h => by simpa [lcD] using h
  | x :: r, acc, Q, hn, ht, he, hl, h => by
    simp only [List.map_cons, lcD]
    refine ht x (by simp) _ ?_
    by_cases hc : c x = true
    · rw [if_pos hc]
      refine he x (by simp) _ ⟨hn x (by simp), by simp at hl; omega, ?_⟩
      refine lcD_filterA e g c (fun x hx => hn x (by simp [hx])) (fun x hx => ht x (by simp [hx])) (fun x hx => he x (by simp [hx])) (by simp at hl ⊢; omega) ?_
      rw [List.filter_cons_of_pos hc] at h
      rw [List.append_assoc]
      exact h
    · rw [if_neg hc]
      refine lcD_filterA e g c (fun x hx => hn x (by simp [hx])) (fun x hx => ht x (by simp [hx])) (fun x hx => he x (by simp [hx])) (by simp at hl ⊢; omega) ?_
      rw [List.filter_cons_of_neg hc] at h
      exact h
/-! ### slices -/
theorem cutD_to (xs : List D) (n : Nat) : cutD xs none (some (n : Int)) = xs.take n := by
  unfold cutD
  rw [HT.sIx_none, HT.sIx_nat, List.drop_zero, Nat.sub_zero]
  by_cases h : n ≤ xs.length
  · rw [Nat.min_eq_left h]
  · rw [Nat.min_eq_right (by omega), List.take_length, List.take_of_length_le (by omega)]
theorem cutD_from (xs : List D) (n : Nat) : cutD xs (some (n : Int)) none = xs.drop n := by
  unfold cutD
  rw [HT.sIx_none, HT.sIx_nat]
  by_cases h : n ≤ xs.length
  · rw [Nat.min_eq_left h, List.take_of_length_le (by simp)]
  · rw [Nat.min_eq_right (by omega), List.drop_length, List.drop_of_length_le (by omega)]
    simp
/-! ### paths -/
def okS (z : Str) : Prop := (∀ c ∈ z.cps.toList, 32 ≤ c ∧ c ≤ 126 ∧ c ≠ 37) ∧ z.length ≤ 1000
def okTok : Tok → Prop
  | .s z => okS z
  | .i n => 0 ≤ n
theorem strOk_of {z : Str} (h : okS z) : PyData.strOk z = true := by
  unfold PyData.strOk
  rw [Array.all_eq_true]
  intro i hi
  have := h.1 z.cps[i] (by simp)
  simp
  omega
theorem toPs_map (xs : List D) : toPs xs = xs.map toP := by
  induction xs with
  | nil => simp [toPs]
  | cons x r ih => simp [toPs, ih]
theorem shaped_path {p : Path} (h : ∀ t ∈ p, okTok t) : SeqAt.shaped (toP (encP p)) = true := by
  have h1 : ∀ p : Path, (∀ t ∈ p, okTok t) → PyData.canLayAll0 (toPs (p.map encT)) = true ∧ PyData.depthAll (toPs (p.map encT)) = 0 := by
    intro p
    induction p with
    | nil => intro _; simp [toPs, PyData.canLayAll0, PyData.depthAll]
    | cons t r ih =>
      intro h
      obtain ⟨a, b⟩ := ih fun t ht => h t (by simp [ht])
      have ht := h t (by simp)
      cases t with
      | s z => simp [toPs, toP, encT, PyData.canLayAll0, PyData.depthAll, PyData.canLay0, PyData.depth, a, b, strOk_of (show okS z from ht)]
      | i n => simp [toPs, toP, encT, PyData.canLayAll0, PyData.depthAll, PyData.canLay0, PyData.depth, a, b]
  obtain ⟨a, b⟩ := h1 p h
  simp [SeqAt.shaped, encP, toP, PyData.canLay0, PyData.depth, a, b]
theorem eqv_path : ∀ p q : Path, PyData.eqv (toP (encP p)) (toP (encP q)) = decide (p = q)
  | [], [] => by simp [encP, toP, toPs, PyData.eqv, PyData.eqvAll]
  | [], _ :: _ => by simp [encP, toP, toPs, PyData.eqv, PyData.eqvAll]
  | _ :: _, [] => by simp [encP, toP, toPs, PyData.eqv, PyData.eqvAll]
  | a :: p, b :: q => by
    have ih := eqv_path p q
    simp only [encP, toP, PyData.eqv] at ih
    have e : PyData.eqv (toP (encT a)) (toP (encT b)) = decide (a = b) := by
      cases a <;> cases b <;> simp [encT, toP, PyData.eqv, Bool.beq_eq_decide_eq]
    simp only [encP, toP, PyData.eqv, List.map_cons, toPs, PyData.eqvAll, ih, e]
    simp
section
variable {Q : S → Prop}
@[simp] theorem fSl_t {xs : List D} {i j : Option Int} : fSl (.d (.tup xs)) i j Q = Q (.d (.tup (cutD xs i j))) := rfl
@[simp] theorem fSl_s {z : Str} {i j : Option Int} : fSl (.d (.str z)) i j Q = (z.length ≤ 1000000 ∧ Q (.d (.str (cutS z i j)))) := rfl
@[simp] theorem fSl_pto {p : Path} {n : Nat} : fSl (.d (encP p)) none (some (n : Int)) Q = Q (.d (encP (p.take n))) := by
  simp [encP, cutD_to, List.map_take]
@[simp] theorem fSl_pfrom {p : Path} {n : Nat} : fSl (.d (encP p)) (some (n : Int)) none Q = Q (.d (encP (p.drop n))) := by
  simp [encP, cutD_from, List.map_drop]
@[simp] theorem fSl_p1 {p : Path} : fSl (.d (encP p)) (some 1) none Q = Q (.d (encP (p.drop 1))) := fSl_pfrom (n := 1)
theorem cutD_init (xs : List D) : cutD xs none (some (-1)) = xs.dropLast := by
  unfold cutD HT.sIx
  rw [List.dropLast_eq_take]
  simp
  congr 1
  first | omega | (split <;> omega) | skip
@[simp] theorem fSl_pm {p : Path} : fSl (.d (encP p)) none (some (-1)) Q = Q (.d (encP p.dropLast)) := by
  simp [encP, cutD_init]
@[simp] theorem fEq_pp {p q : Path} : fEq (.d (encP p)) (.d (encP q)) Q = (SeqAt.shaped (toP (encP p)) = true ∧ SeqAt.shaped (toP (encP q)) = true ∧ Q (.d (.bl (decide (p = q))))) := by
  rw [← eqv_path p q]
  rfl
@[simp] theorem fIx_p {p : Path} {n : Nat} : fIx (.d (encP p)) (.d (.int (n : Int))) Q = (match p[n]? with
    | some t => Q (.d (encT t))
    | none => False) := by
  have e : fIx (.d (encP p)) (.d (.int (n : Int))) Q = (match atI (p.map encT) (n : Int) with
      | some d => Q (.d d)
      | none => False) := rfl
  rw [e]
  cases h : p[n]? with
  | some t => rw [atI_nat (v := encT t) (by simp [h])]
  | none =>
    have : atI (p.map encT) (n : Int) = none := by
      unfold atI ixN
      have hn : p.length ≤ n := List.getElem?_eq_none_iff.mp h
      rw [if_pos (by omega), if_neg (by simp; omega)]
      rfl
    rw [this]
end
@[simp] theorem strsOf_map : ∀ ns : List Str, strsOf (ns.map D.str) = some ns
  | [] => rfl
  | z :: r => by simp [strsOf_map r]
/-! ### sizes of formulas -/
mutual
def wt : Fm → Nat
  | .neg f => wt f + 1
  | .conj fs => wtL fs + 1
  | .disj fs => wtL fs + 1
  | .at_ _ f => wt f + 1
  | .eachItem _ f => wt f + 1
  | .eachField ns f => wt f + ns.length + 1
  | .held f => wt f + 1
  | .tru => 1
  | .fls => 1
  | .kind _ => 1
  | .intFrom _ => 1
  | .boolIs _ => 1
  | .textIs _ => 1
  | .textFrom _ => 1
  | .itemsFrom _ => 1
def wtL : List Fm → Nat
  | [] => 0
  | f :: r => wt f + wtL r
end
theorem wtL_len : ∀ fs : List Fm, fs.length ≤ wtL fs
  | [] => by simp
  | f :: r => by
    have h1 := wtL_len r
    have h2 : 1 ≤ wt f := by cases f <;> simp [wt]
    simp only [wtL, List.length_cons]
    omega
theorem wtL_app : ∀ (fs gs : List Fm), wtL (fs ++ gs) = wtL fs + wtL gs
  | [], gs => by simp [wtL]
  | f :: r, gs => by simp only [List.cons_append, wtL, wtL_app r gs]; omega
end Pk

/-! ## M1 -/
set_option Elab.async false
set_option linter.all false
set_option maxRecDepth 100000
set_option maxHeartbeats 4000000
namespace Pk
open PySem L2
namespace Fm
/-- the program's divided -/
def divi (t p : Path) (tok : Tok) : Fm → Fm
  | .eachItem n f => (match tok with
    | .i m => if n ≤ m then both (items p f n m ++ [afterAt t f (p ++ [.i m]), at' p (.eachItem (m + 1) f)]) else at' p (.eachItem n f)
    | .s _ => at' p (.eachItem n f))
  | .eachField ns f => (match tok with
    | .s z => if z ∉ ns then both [afterAt t f (p ++ [.s z]), at' p (.eachField (ns ++ [z]) f)] else at' p (.eachField ns f)
    | .i _ => at' p (.eachField ns f))
  | f => at' p f
/-- the program's after_simple -/
def simple (t p : Path) (f : Fm) : Fm := if above t p then (match t[p.length]? with
    | some tok => divi t p tok f
    | none => at' p f) else afterSwap t p f
/-- no formula for after_there to take apart -/
def isSimple : Fm → Prop
  | .fls => False
  | .neg _ => False
  | .conj _ => False
  | .disj _ => False
  | .at_ _ _ => False
  | _ => True
theorem above_get {t p : Path} (h : above t p) : ∃ tok, t[p.length]? = some tok := ⟨t[p.length]'h.1, by simp [h.1]⟩
theorem simple_tru (t p : Path) : simple t p .tru = simple0 t p .tru := by
  unfold simple simple0
  split
  · rename_i h
    obtain ⟨tok, e⟩ := above_get h
    rw [e]
    rfl
  · rfl
theorem simple_there {t p : Path} {f : Fm} (h : isSimple f) : simple t p f = there t f p := by
  cases f with
  | fls => exact h.elim
  | neg _ => exact h.elim
  | conj _ => exact h.elim
  | disj _ => exact h.elim
  | at_ _ _ => exact h.elim
  | eachItem n f =>
    unfold simple there
    split
    · rename_i h
      obtain ⟨tok, e⟩ := above_get h
      rw [e]
      cases tok <;> rfl
    · rfl
  | eachField n f =>
    unfold simple there
    split
    · rename_i h
      obtain ⟨tok, e⟩ := above_get h
      rw [e]
      cases tok <;> rfl
    · rfl
  | _ =>
    unfold simple there simple0
    split
    · rename_i h
      obtain ⟨tok, e⟩ := above_get h
      rw [e]
      rfl
    · rfl
theorem theres_map (t p : Path) : ∀ fs, theres t fs p = fs.map fun f => there t f p
  | [] => by simp [theres]
  | f :: r => by simp [theres, theres_map t p r]
theorem rewrs_map (t : Path) : ∀ fs, rewrs t fs = fs.map fun f => rewr t f
  | [] => by simp [rewrs]
  | f :: r => by simp [rewrs, rewrs_map t r]
/-! ### sizes -/
theorem wt_no (f : Fm) : wt (no f) ≤ wt f + 1 := by cases f <;> simp [no, wt]; omega
theorem bothP_wt : ∀ (fs ps : List Fm), bothP fs = some ps → wtL ps ≤ wtL fs
  | [], ps, h => by cases h; simp
  | f :: r, ps, h => by
    have ih := bothP_wt r
    cases f with
    | fls => cases h
    | tru => have := ih ps h; simp only [wtL, wt]; omega
    | conj gs =>
      obtain ⟨qs, e, rfl⟩ := Option.map_eq_some_iff.mp (show (bothP r).map (gs ++ ·) = some ps from h)
      have := ih qs e
      rw [wtL_app]; simp only [wtL, wt]; omega
    | _ =>
      obtain ⟨qs, e, rfl⟩ := Option.map_eq_some_iff.mp h
      have := ih qs e
      simp only [wtL]; omega
theorem wt_both (fs : List Fm) : wt (both fs) ≤ wtL fs + 1 := by
  unfold both
  cases e : bothP fs with
  | none => simp [wt]
  | some ps =>
    have h := bothP_wt fs ps e
    match ps, h with
    | [], h => simp [wrapC, wt]
    | [f], h => simp [wrapC, wtL] at h ⊢; omega
    | f :: g :: r, h => simp only [wrapC, wt]; omega
theorem oneP_wt : ∀ (fs ps : List Fm), oneP fs = some ps → wtL ps ≤ wtL fs
  | [], ps, h => by cases h; simp
  | f :: r, ps, h => by
    have ih := oneP_wt r
    cases f with
    | tru => cases h
    | fls => have := ih ps h; simp only [wtL, wt]; omega
    | disj gs =>
      obtain ⟨qs, e, rfl⟩ := Option.map_eq_some_iff.mp (show (oneP r).map (gs ++ ·) = some ps from h)
      have := ih qs e
      rw [wtL_app]; simp only [wtL, wt]; omega
    | _ =>
      obtain ⟨qs, e, rfl⟩ := Option.map_eq_some_iff.mp h
      have := ih qs e
      simp only [wtL]; omega
theorem wt_oneOf (fs : List Fm) : wt (oneOf fs) ≤ wtL fs + 1 := by
  unfold oneOf
  cases e : oneP fs with
  | none => simp [wt]
  | some ps =>
    have h := oneP_wt fs ps e
    match ps, h with
    | [], h => simp [wrapD, wt]
    | [f], h => simp [wrapD, wtL] at h ⊢; omega
    | f :: g :: r, h => simp only [wrapD, wt]; omega
theorem wt_at (p : Path) (f : Fm) : wt (at' p f) ≤ wt f + 1 := by
  unfold at'
  split
  · omega
  · split <;> simp [wt]
theorem wt_ofHeld (f : Fm) : wt (ofHeld f) ≤ wt f + 1 := by cases f <;> simp [ofHeld, wt]
theorem wt_afterSwap (t p : Path) (f : Fm) : wt (afterSwap t p f) ≤ wt f + 2 := by
  unfold afterSwap
  split
  · have := wt_ofHeld (at' (p.drop t.length) f)
    have := wt_at (p.drop t.length) f
    omega
  · have := wt_at p f; omega
theorem wt_simple0 (t p : Path) (f : Fm) : wt (simple0 t p f) ≤ wt f + 2 := by
  unfold simple0
  split
  · have := wt_at p f; omega
  · exact wt_afterSwap t p f
theorem wt_items (p : Path) (f : Fm) (n m : Int) : wtL (items p f n m) ≤ (m - n).toNat * (wt f + 1) := by
  unfold items
  have h : ∀ l : List Nat, wtL (l.map fun (j : Nat) => at' (p ++ [.i (n + j)]) f) ≤ l.length * (wt f + 1) := by
    intro l
    induction l with
    | nil => simp [wtL]
    | cons a r ih =>
      have h1 := wt_at (p ++ [.i (n + a)]) f
      simp only [List.map_cons, wtL, List.length_cons, Nat.succ_mul]
      omega
  have := h (List.range (m - n).toNat)
  rwa [List.length_range] at this
mutual
/-- a bound of what stands before, for a target whose ints are at most 100 -/
def Cw : Fm → Nat
  | .neg f => Cw f + 1
  | .conj fs => CwL fs + 1
  | .disj fs => CwL fs + 1
  | .at_ _ f => Cw f + 5
  | .eachItem _ f => Cw f + 102 * (wt f + 1) + 20
  | .eachField ns f => Cw f + wt f + ns.length + 20
  | .held f => wt f + 3
  | .tru => 3
  | .fls => 3
  | .kind _ => 3
  | .intFrom _ => 3
  | .boolIs _ => 3
  | .textIs _ => 3
  | .textFrom _ => 3
  | .itemsFrom _ => 3
def CwL : List Fm → Nat
  | [] => 0
  | f :: r => Cw f + CwL r
end
/-- the target's ints are small -/
def small (t : Path) : Prop := ∀ m, Tok.i m ∈ t → 0 ≤ m ∧ m ≤ 100
mutual
/-- well formed; pl: plain -/
def okF (pl : Bool) : Fm → Prop
  | .neg f => okF pl f
  | .conj fs => okFs pl fs
  | .disj fs => okFs pl fs
  | .at_ p f => (∀ t ∈ p, okTok t) ∧ okF true f
  | .kind k => k ∈ ([("null" : Str), ("bool" : Str), ("int" : Str), ("text" : Str), ("list" : Str), ("object" : Str)] : List Str)
  | .textIs z => okS z
  | .textFrom n => 0 ≤ n
  | .itemsFrom n => 0 ≤ n
  | .eachItem n f => 0 ≤ n ∧ okF true f
  | .eachField ns f => (∀ z ∈ ns, okS z) ∧ okF true f
  | .held f => pl = false ∧ okF true f
  | .tru => True
  | .fls => True
  | .intFrom _ => True
  | .boolIs _ => True
def okFs (pl : Bool) : List Fm → Prop
  | [] => True
  | f :: r => okF pl f ∧ okFs pl r
end
theorem okFs_iff {pl : Bool} : ∀ {fs : List Fm}, okFs pl fs ↔ ∀ f ∈ fs, okF pl f
  | [] => by simp [okFs]
  | f :: r => by simp [okFs, okFs_iff (fs := r)]
mutual
theorem wt_there {t : Path} (ht : small t) : ∀ (f : Fm), okF true f → ∀ p : Path, wt (there t f p) ≤ Cw f
  | .fls, _, p => by simp [there, wt, Cw]
  | .neg f, h, p => by
    have := wt_there ht f (by simpa [okF] using h) p
    have := wt_no (there t f p)
    simp only [there, Cw]; omega
  | .conj fs, h, p => by
    have := wt_theres ht fs (by simpa [okF] using h) p
    have := wt_both (theres t fs p)
    simp only [there, Cw]; omega
  | .disj fs, h, p => by
    have := wt_theres ht fs (by simpa [okF] using h) p
    have := wt_oneOf (theres t fs p)
    simp only [there, Cw]; omega
  | .at_ q f, h, p => by
    have h1 := wt_there ht f (by simp only [okF] at h; exact h.2) (p ++ q)
    have h2 := wt_simple0 t (p ++ q) .tru
    have h3 := wt_both [simple0 t (p ++ q) .tru, there t f (p ++ q)]
    simp only [wtL, wt] at h2 h3
    simp only [there, Cw]; omega
  | .eachItem n f, h, p => by
    have hn : 0 ≤ n := by simp only [okF] at h; exact h.1
    have hf : okF true f := by simp only [okF] at h; exact h.2
    have a1 := wt_afterSwap t p (.eachItem n f)
    have a2 := wt_at p (.eachItem n f)
    simp only [wt] at a1 a2
    simp only [there, Cw]
    split
    · split
      · rename_i m em
        split
        · have hm := ht m (List.mem_of_getElem? em)
          have h1 := wt_there ht f hf (p ++ [.i m])
          have h2 := wt_simple0 t (p ++ [.i m]) .tru
          have h3 := wt_both [simple0 t (p ++ [.i m]) .tru, there t f (p ++ [.i m])]
          have h4 := wt_at p (.eachItem (m + 1) f)
          have h5 := wt_items p f n m
          have h6 := wt_both (items p f n m ++ [both [simple0 t (p ++ [.i m]) .tru, there t f (p ++ [.i m])], at' p (.eachItem (m + 1) f)])
          rw [wtL_app] at h6
          simp only [wtL, wt] at h2 h3 h4 h6
          have h7 : (m - n).toNat * (wt f + 1) ≤ 100 * (wt f + 1) := Nat.mul_le_mul_right _ (by omega)
          omega
        · omega
      · omega
    · omega
  | .eachField ns f, h, p => by
    have hf : okF true f := by simp only [okF] at h; exact h.2
    have a1 := wt_afterSwap t p (.eachField ns f)
    have a2 := wt_at p (.eachField ns f)
    simp only [wt] at a1 a2
    simp only [there, Cw]
    split
    · split
      · rename_i z ez
        split
        · have h1 := wt_there ht f hf (p ++ [.s z])
          have h2 := wt_simple0 t (p ++ [.s z]) .tru
          have h3 := wt_both [simple0 t (p ++ [.s z]) .tru, there t f (p ++ [.s z])]
          have h4 := wt_at p (.eachField (ns ++ [z]) f)
          have h6 := wt_both [both [simple0 t (p ++ [.s z]) .tru, there t f (p ++ [.s z])], at' p (.eachField (ns ++ [z]) f)]
          simp only [wtL, wt, List.length_append, List.length_cons, List.length_nil] at h2 h3 h4 h6
          omega
        · omega
      · omega
    · omega
  | .tru, _, p => by have := wt_simple0 t p .tru; simp only [there, Cw, wt] at this ⊢; omega
  | .kind k, _, p => by have := wt_simple0 t p (.kind k); simp only [there, Cw, wt] at this ⊢; omega
  | .intFrom k, _, p => by have := wt_simple0 t p (.intFrom k); simp only [there, Cw, wt] at this ⊢; omega
  | .boolIs k, _, p => by have := wt_simple0 t p (.boolIs k); simp only [there, Cw, wt] at this ⊢; omega
  | .textIs k, _, p => by have := wt_simple0 t p (.textIs k); simp only [there, Cw, wt] at this ⊢; omega
  | .textFrom k, _, p => by have := wt_simple0 t p (.textFrom k); simp only [there, Cw, wt] at this ⊢; omega
  | .itemsFrom k, _, p => by have := wt_simple0 t p (.itemsFrom k); simp only [there, Cw, wt] at this ⊢; omega
  | .held k, _, p => by have := wt_simple0 t p (.held k); simp only [there, Cw, wt] at this ⊢; omega
theorem wt_theres {t : Path} (ht : small t) : ∀ (fs : List Fm), okFs true fs → ∀ p : Path, wtL (theres t fs p) ≤ CwL fs
  | [], _, p => by simp [theres, wtL]
  | f :: r, h, p => by
    have h1 := wt_there ht f (by simp only [okFs] at h; exact h.1) p
    have h2 := wt_theres ht r (by simp only [okFs] at h; exact h.2) p
    simp only [theres, wtL, CwL]; omega
end
theorem wt_afterAt {t : Path} (ht : small t) {f : Fm} (h : okF true f) (p : Path) : wt (afterAt t f p) ≤ Cw f + 4 := by
  have h1 := wt_there ht f h p
  have h2 := wt_simple0 t p .tru
  have h3 := wt_both [simple0 t p .tru, there t f p]
  unfold afterAt
  simp only [wtL, wt] at h2 h3
  omega
/-! ### depth, length of paths within -/
mutual
def dep : Fm → Nat
  | .neg f => dep f + 1
  | .conj fs => depL fs + 1
  | .disj fs => depL fs + 1
  | .at_ _ f => dep f + 1
  | .eachItem _ f => dep f + 1
  | .eachField _ f => dep f + 1
  | .held f => dep f + 1
  | .tru => 1
  | .fls => 1
  | .kind _ => 1
  | .intFrom _ => 1
  | .boolIs _ => 1
  | .textIs _ => 1
  | .textFrom _ => 1
  | .itemsFrom _ => 1
def depL : List Fm → Nat
  | [] => 0
  | f :: r => max (dep f) (depL r)
end
mutual
def pl : Fm → Nat
  | .neg f => pl f
  | .conj fs => plL fs
  | .disj fs => plL fs
  | .at_ p f => p.length + pl f
  | .eachItem _ f => pl f + 1
  | .eachField _ f => pl f + 1
  | .held f => pl f
  | .tru => 0
  | .fls => 0
  | .kind _ => 0
  | .intFrom _ => 0
  | .boolIs _ => 0
  | .textIs _ => 0
  | .textFrom _ => 0
  | .itemsFrom _ => 0
def plL : List Fm → Nat
  | [] => 0
  | f :: r => max (pl f) (plL r)
end
theorem depL_mem {f : Fm} : ∀ {fs : List Fm}, f ∈ fs → dep f ≤ depL fs
  | g :: r, h => by
    simp only [depL]
    rcases List.mem_cons.mp h with rfl | h
    · omega
    · have := depL_mem h; omega
theorem plL_mem {f : Fm} : ∀ {fs : List Fm}, f ∈ fs → pl f ≤ plL fs
  | g :: r, h => by
    simp only [plL]
    rcases List.mem_cons.mp h with rfl | h
    · omega
    · have := plL_mem h; omega
theorem CwL_mem {f : Fm} : ∀ {fs : List Fm}, f ∈ fs → Cw f ≤ CwL fs
  | g :: r, h => by
    simp only [CwL]
    rcases List.mem_cons.mp h with rfl | h
    · omega
    · have := CwL_mem h; omega
end Fm
end Pk

/-! ## M2 -/
set_option Elab.async false
set_option linter.all false
set_option maxRecDepth 100000
set_option maxHeartbeats 4000000
namespace Pk
open PySem L2
/-! ### the order of texts -/
theorem ltS_irrefl (a : Str) : ltS a a = false := by
  unfold ltS
  exact decide_eq_false (List.lt_irrefl _)
theorem ltS_trans {a b c : Str} (h1 : ltS a b = true) (h2 : ltS b c = true) : ltS a c = true := by
  unfold ltS at *
  exact decide_eq_true (List.lt_trans (of_decide_eq_true h1) (of_decide_eq_true h2))
theorem ltS_asymm {a b : Str} (h : ltS a b = true) : ltS b a = false := by
  cases e : ltS b a with
  | false => rfl
  | true =>
    have := ltS_trans h e
    rw [ltS_irrefl] at this
    cases this
/-! ### well formed values: d a bound of the depth, L of the lengths -/
def sortedF (fs : List (Str × Val)) : Prop := fs.Pairwise fun a b => ltS a.1 b.1 = true
mutual
def wfV (d L : Nat) : Val → Prop
  | .nul => True
  | .bool _ => True
  | .int _ => True
  | .text z => okS z
  | .list xs => 0 < d ∧ xs.length ≤ L ∧ wfVs (d - 1) L xs
  | .obj fs => 0 < d ∧ fs.length ≤ L ∧ sortedF fs ∧ wfFs (d - 1) L fs
def wfVs (d L : Nat) : List Val → Prop
  | [] => True
  | x :: r => wfV d L x ∧ wfVs d L r
def wfFd (d L : Nat) : Str × Val → Prop
  | (n, v) => okS n ∧ wfV d L v
def wfFs (d L : Nat) : List (Str × Val) → Prop
  | [] => True
  | f :: r => wfFd d L f ∧ wfFs d L r
end
theorem wfVs_iff {d L : Nat} : ∀ {xs : List Val}, wfVs d L xs ↔ ∀ x ∈ xs, wfV d L x
  | [] => by simp [wfVs]
  | x :: r => by simp [wfVs, wfVs_iff (xs := r)]
theorem wfFs_iff {d L : Nat} : ∀ {xs : List (Str × Val)}, wfFs d L xs ↔ ∀ x ∈ xs, okS x.1 ∧ wfV d L x.2
  | [] => by simp [wfFs]
  | (n, v) :: r => by simp [wfFs, wfFd, wfFs_iff (xs := r)]
mutual
theorem wfV_mono {d L d' L' : Nat} (h1 : d ≤ d') (h2 : L ≤ L') : ∀ v : Val, wfV d L v → wfV d' L' v
  | .nul, _ => by simp [wfV]
  | .bool _, _ => by simp [wfV]
  | .int _, _ => by simp [wfV]
  | .text _, h => by simpa [wfV] using h
  | .list xs, h => by
    simp only [wfV] at h ⊢
    exact ⟨by omega, by omega, wfVs_mono (by omega) h2 xs h.2.2⟩
  | .obj fs, h => by
    simp only [wfV] at h ⊢
    exact ⟨by omega, by omega, h.2.2.1, wfFs_mono (by omega) h2 fs h.2.2.2⟩
theorem wfVs_mono {d L d' L' : Nat} (h1 : d ≤ d') (h2 : L ≤ L') : ∀ xs : List Val, wfVs d L xs → wfVs d' L' xs
  | [], _ => by simp [wfVs]
  | x :: r, h => by
    simp only [wfVs] at h ⊢
    exact ⟨wfV_mono h1 h2 x h.1, wfVs_mono h1 h2 r h.2⟩
theorem wfFd_mono {d L d' L' : Nat} (h1 : d ≤ d') (h2 : L ≤ L') : ∀ f : Str × Val, wfFd d L f → wfFd d' L' f
  | (n, v), h => by
    simp only [wfFd] at h ⊢
    exact ⟨h.1, wfV_mono h1 h2 v h.2⟩
theorem wfFs_mono {d L d' L' : Nat} (h1 : d ≤ d') (h2 : L ≤ L') : ∀ xs : List (Str × Val), wfFs d L xs → wfFs d' L' xs
  | [], _ => by simp [wfFs]
  | x :: r, h => by
    simp only [wfFs] at h ⊢
    exact ⟨wfFd_mono h1 h2 x h.1, wfFs_mono h1 h2 r h.2⟩
end
/-! ### their data has a bounded depth -/
mutual
theorem shape_V {d L : Nat} : ∀ v : Val, wfV d L v → PyData.canLay0 (toP (encV v)) = true ∧ PyData.depth (toP (encV v)) ≤ 3 * d + 1
  | .nul, _ => by simp [encV, toP, toPs, PyData.canLay0, PyData.canLayAll0, PyData.depth, PyData.depthAll]; decide +kernel
  | .bool b, _ => by simp [encV, toP, toPs, PyData.canLay0, PyData.canLayAll0, PyData.depth, PyData.depthAll]; decide +kernel
  | .int b, _ => by simp [encV, toP, toPs, PyData.canLay0, PyData.canLayAll0, PyData.depth, PyData.depthAll]; decide +kernel
  | .text z, h => by
    have hz := strOk_of (show okS z by simpa [wfV] using h)
    simp [encV, toP, toPs, PyData.canLay0, PyData.canLayAll0, PyData.depth, PyData.depthAll, hz]; decide +kernel
  | .list xs, h => by
    simp only [wfV] at h
    obtain ⟨a, b⟩ := shape_Vs xs h.2.2
    have e : PyData.strOk "list" = true := by decide +kernel
    simp [encV, toP, toPs, PyData.canLay0, PyData.canLayAll0, PyData.depth, PyData.depthAll, a, e]
    omega
  | .obj fs, h => by
    simp only [wfV] at h
    obtain ⟨a, b⟩ := shape_Fs fs h.2.2.2
    have e : PyData.strOk "object" = true := by decide +kernel
    simp [encV, toP, toPs, PyData.canLay0, PyData.canLayAll0, PyData.depth, PyData.depthAll, a, e]
    omega
theorem shape_Vs {d L : Nat} : ∀ xs : List Val, wfVs d L xs → PyData.canLayAll0 (toPs (encVs xs)) = true ∧ PyData.depthAll (toPs (encVs xs)) ≤ 3 * d + 1
  | [], _ => by simp [encVs, toPs, PyData.canLayAll0, PyData.depthAll]
  | x :: r, h => by
    simp only [wfVs] at h
    obtain ⟨a, b⟩ := shape_V x h.1
    obtain ⟨a', b'⟩ := shape_Vs r h.2
    simp [encVs, toPs, PyData.canLayAll0, PyData.depthAll, a, a']
    omega
theorem shape_Fd {d L : Nat} : ∀ f : Str × Val, wfFd d L f → PyData.canLay0 (toP (encFd f)) = true ∧ PyData.depth (toP (encFd f)) ≤ 3 * d + 2
  | (n, v), h => by
    simp only [wfFd] at h
    obtain ⟨a, b⟩ := shape_V v h.2
    have hz := strOk_of h.1
    simp [encFd, toP, toPs, PyData.canLay0, PyData.canLayAll0, PyData.depth, PyData.depthAll, a, hz]
    omega
theorem shape_Fs {d L : Nat} : ∀ xs : List (Str × Val), wfFs d L xs → PyData.canLayAll0 (toPs (encFs xs)) = true ∧ PyData.depthAll (toPs (encFs xs)) ≤ 3 * d + 2
  | [], _ => by simp [encFs, toPs, PyData.canLayAll0, PyData.depthAll]
  | x :: r, h => by
    simp only [wfFs] at h
    obtain ⟨a, b⟩ := shape_Fd x h.1
    obtain ⟨a', b'⟩ := shape_Fs r h.2
    simp [encFs, toPs, PyData.canLayAll0, PyData.depthAll, a, a']
    omega
end
theorem shaped_V {v : Val} {L : Nat} (h : wfV 20 L v) : SeqAt.shaped (toP (encV v)) = true := by
  obtain ⟨a, b⟩ := shape_V v h
  simp [SeqAt.shaped, a]
  omega
/-! ### places -/
theorem child_wf {d L : Nat} {v c : Val} {t : Tok} (h : wfV d L v) (e : child v t = some c) : 0 < d ∧ wfV (d - 1) L c := by
  cases v with
  | list xs =>
    cases t with
    | i n =>
      simp only [child] at e
      split at e
      · simp only [wfV] at h
        exact ⟨h.1, wfVs_iff.mp h.2.2 c (List.mem_of_getElem? e)⟩
      · cases e
    | s z => cases e
  | obj fs =>
    cases t with
    | s z =>
      simp only [child] at e
      obtain ⟨f, e1, rfl⟩ := Option.map_eq_some_iff.mp e
      simp only [wfV] at h
      exact ⟨h.1, (wfFs_iff.mp h.2.2.2 f (List.mem_of_find?_eq_some e1)).2⟩
    | i n => cases e
  | _ => cases t <;> cases e
theorem lookup_wf {d L : Nat} {c : Val} : ∀ {p : Path} {v : Val}, wfV d L v → lookup v p = some c → wfV d L c
  | [], v, h, e => by cases e; exact h
  | t :: p, v, h, e => by
    simp only [lookup] at e
    obtain ⟨x, e1, e2⟩ := Option.bind_eq_some_iff.mp e
    exact lookup_wf (wfV_mono (by omega) (Nat.le_refl _) x (child_wf h e1).2) e2
/-- what a child may be put into -/
def fits : Val → Tok → Prop
  | .list xs, .i n => 0 ≤ n ∧ n < xs.length
  | .obj _, .s _ => True
  | _, _ => False
theorem child_fits {v c : Val} {t : Tok} (e : child v t = some c) : fits v t := by
  cases v with
  | list xs =>
    cases t with
    | i n =>
      simp only [child] at e
      split at e
      · assumption
      · cases e
    | s z => cases e
  | obj fs =>
    cases t with
    | s z => trivial
    | i n => cases e
  | _ => cases t <;> cases e
theorem sorted_with {fs : List (Str × Val)} (h : sortedF fs) (z : Str) (w : Val) : sortedF ((fs.filter fun f => ltS f.1 z) ++ [(z, w)] ++ fs.filter fun f => ltS z f.1) := by
  unfold sortedF at *
  refine List.pairwise_append.mpr ⟨List.pairwise_append.mpr ⟨h.sublist List.filter_sublist, List.pairwise_singleton _ _, fun a ha b hb => ?_⟩, h.sublist List.filter_sublist, fun a ha b hb => ?_⟩
  · have e : b = (z, w) := by simpa using hb
    subst e
    exact (List.mem_filter.mp ha).2
  · have hb2 := (List.mem_filter.mp hb).2
    rcases List.mem_append.mp ha with ha | ha
    · exact ltS_trans (List.mem_filter.mp ha).2 hb2
    · have e : a = (z, w) := by simpa using ha
      subst e
      exact hb2
theorem filter2_len (fs : List (Str × Val)) (z : Str) : (fs.filter fun f => ltS f.1 z).length + (fs.filter fun f => ltS z f.1).length ≤ fs.length := by
  induction fs with
  | nil => simp
  | cons f r ih =>
    by_cases h1 : ltS f.1 z = true
    · have h2 := ltS_asymm h1
      simp [List.filter_cons, h1, h2]; omega
    · by_cases h2 : ltS z f.1 = true
      · simp [List.filter_cons, h1, h2]; omega
      · simp [List.filter_cons, h1, h2]; omega
/-- with a child put in: one item more at most -/
theorem with_wf {d L e : Nat} {v w : Val} {t : Tok} (h : wfV d L v) (hf : fits v t) (hw : wfV e L w) (hz : ∀ z, t = .s z → okS z) : wfV (max d (e + 1)) (L + 1) (withC v t w) := by
  cases v with
  | list xs =>
    cases t with
    | i n =>
      simp only [wfV] at h
      simp only [fits] at hf
      simp only [withC, wfV]
      refine ⟨by omega, by simp; omega, wfVs_iff.mpr fun x hx => ?_⟩
      have old : ∀ x ∈ xs, wfV (max d (e + 1) - 1) (L + 1) x := fun x hx => wfV_mono (by omega) (by omega) x (wfVs_iff.mp h.2.2 x hx)
      rcases List.mem_append.mp hx with hx | hx
      · rcases List.mem_append.mp hx with hx | hx
        · exact old x (List.mem_of_mem_take hx)
        · have e : x = w := by simpa using hx
          subst e
          exact wfV_mono (by omega) (by omega) x hw
      · exact old x (List.mem_of_mem_drop hx)
    | s z => exact hf.elim
  | obj fs =>
    cases t with
    | s z =>
      simp only [wfV] at h
      simp only [withC, wfV]
      have hl := filter2_len fs z
      refine ⟨by omega, by simp; omega, sorted_with h.2.2.1 z w, wfFs_iff.mpr fun x hx => ?_⟩
      have old : ∀ x ∈ fs, okS x.1 ∧ wfV (max d (e + 1) - 1) (L + 1) x.2 := fun x hx => ⟨(wfFs_iff.mp h.2.2.2 x hx).1, wfV_mono (by omega) (by omega) x.2 (wfFs_iff.mp h.2.2.2 x hx).2⟩
      rcases List.mem_append.mp hx with hx | hx
      · rcases List.mem_append.mp hx with hx | hx
        · exact old x (List.mem_filter.mp hx).1
        · have e : x = (z, w) := by simpa using hx
          subst e
          exact ⟨hz z rfl, wfV_mono (by omega) (by omega) w hw⟩
      · exact old x (List.mem_filter.mp hx).1
    | i n => exact hf.elim
  | _ => cases t <;> exact hf.elim
theorem child_name {v c : Val} {z : Str} {d L : Nat} (h : wfV d L v) (e : child v (.s z) = some c) : okS z := by
  cases v with
  | obj fs =>
    simp only [child] at e
    obtain ⟨f, e1, _⟩ := Option.map_eq_some_iff.mp e
    simp only [wfV] at h
    have hz : f.1 = z := by simpa using List.find?_some e1
    rw [← hz]
    exact (wfFs_iff.mp h.2.2.2 f (List.mem_of_find?_eq_some e1)).1
  | _ => cases e
/-- replaced: each length as it was but where a field's place is lost: at most one more for each level -/
theorem replace_wf {L e : Nat} {w : Val} (hw : wfV e L w) : ∀ {p : Path} {d : Nat} {v v' : Val}, wfV d L v → replace v p w = some v' → wfV (d + e) (L + p.length) v'
  | [], d, v, v', h, q => by cases q; exact wfV_mono (by omega) (by simp) w hw
  | t :: p, d, v, v', h, q => by
    simp only [replace] at q
    obtain ⟨c, e1, e2⟩ := Option.bind_eq_some_iff.mp q
    obtain ⟨c', e3, rfl⟩ := Option.map_eq_some_iff.mp e2
    have hc := child_wf h e1
    have ih := replace_wf hw hc.2 e3
    have := with_wf (L := L + p.length) (wfV_mono (Nat.le_refl d) (by omega) v h) (child_fits e1) ih fun z hz => by subst hz; exact child_name h e1
    exact wfV_mono (by omega) (by simp; omega) _ this
end Pk

/-! ## M3 -/
set_option Elab.async false
set_option linter.all false
set_option maxRecDepth 100000
set_option maxHeartbeats 4000000
namespace Pk
open PySem L2 Fm
/-! ### what the makers of formulas mean -/
theorem holdsA_all (v h : Val) : ∀ fs : List Fm, holdsA fs v h = fs.all fun f => holds f v h
  | [] => by simp [holdsA]
  | f :: r => by simp [holdsA, holdsA_all v h r]
theorem holdsO_any (v h : Val) : ∀ fs : List Fm, holdsO fs v h = fs.any fun f => holds f v h
  | [] => by simp [holdsO]
  | f :: r => by simp [holdsO, holdsO_any v h r]
theorem holds_no (f : Fm) (v h : Val) : holds (no f) v h = !holds f v h := by
  cases f <;> simp [no, holds]
theorem bothP_ok (v h : Val) : ∀ fs : List Fm, (match bothP fs with
    | none => false
    | some ps => holdsA ps v h) = holdsA fs v h
  | [] => by simp [bothP, holdsA]
  | f :: r => by
    have ih := bothP_ok v h r
    cases f with
    | fls => simp [bothP, holdsA, holds]
    | tru => simp only [bothP, holdsA, holds, Bool.true_and]; exact ih
    | conj gs =>
      simp only [bothP, holdsA, holds]
      rw [← ih]
      cases e : bothP r with
      | none => simp
      | some ps => simp [holdsA_all, List.all_append]
    | _ =>
      simp only [bothP, holdsA]
      rw [← ih]
      cases e : bothP r with
      | none => simp
      | some ps => simp [holdsA]
theorem holds_both (fs : List Fm) (v h : Val) : holds (both fs) v h = holdsA fs v h := by
  rw [← bothP_ok v h fs]
  unfold both
  cases bothP fs with
  | none => simp [holds]
  | some ps =>
    match ps with
    | [] => simp [wrapC, holds, holdsA]
    | [f] => simp [wrapC, holdsA]
    | f :: g :: r => simp [wrapC, holds]
theorem oneP_ok (v h : Val) : ∀ fs : List Fm, (match oneP fs with
    | none => true
    | some ps => holdsO ps v h) = holdsO fs v h
  | [] => by simp [oneP, holdsO]
  | f :: r => by
    have ih := oneP_ok v h r
    cases f with
    | tru => simp [oneP, holdsO, holds]
    | fls => simp only [oneP, holdsO, holds, Bool.false_or]; exact ih
    | disj gs =>
      simp only [oneP, holdsO, holds]
      rw [← ih]
      cases e : oneP r with
      | none => simp
      | some ps => simp [holdsO_any, List.any_append]
    | _ =>
      simp only [oneP, holdsO]
      rw [← ih]
      cases e : oneP r with
      | none => simp
      | some ps => simp [holdsO]
theorem holds_one (fs : List Fm) (v h : Val) : holds (oneOf fs) v h = holdsO fs v h := by
  rw [← oneP_ok v h fs]
  unfold oneOf
  cases oneP fs with
  | none => simp [holds]
  | some ps =>
    match ps with
    | [] => simp [wrapD, holds, holdsO]
    | [f] => simp [wrapD, holdsO]
    | f :: g :: r => simp [wrapD, holds]
/-- at a place -/
def holdsAt (f : Fm) (o : Option Val) (h : Val) : Bool := match o with
  | some x => holds f x h
  | none => false
theorem lookup_app : ∀ (p q : Path) (v : Val), lookup v (p ++ q) = (lookup v p).bind fun u => lookup u q
  | [], q, v => rfl
  | t :: p, q, v => by
    simp only [List.cons_append, lookup]
    cases child v t with
    | none => rfl
    | some c => exact lookup_app p q c
theorem holds_at_ (p : Path) (f : Fm) (v h : Val) : holds (.at_ p f) v h = holdsAt f (lookup v p) h := by simp only [holds]; rfl
theorem holds_at (p : Path) (f : Fm) (v h : Val) : holds (at' p f) v h = holdsAt f (lookup v p) h := by
  unfold at'
  split
  · rename_i e; subst e; rfl
  · split
    · cases e : lookup v p <;> simp [holds, holdsAt]
    · rename_i q g
      rw [holds_at_, lookup_app]
      cases e : lookup v p with
      | none => rfl
      | some u =>
        simp only [Option.bind_some, holdsAt]
        rw [holds_at_]; rfl
    · rw [holds_at_]
theorem holds_ofHeld (f : Fm) (v h : Val) : holds (ofHeld f) v h = holds f h h := by
  cases f <;> simp [ofHeld, holds]
/-! ### places after a replacement -/
theorem ltS_tri (a b : Str) : a = b ∨ ltS a b = true ∨ ltS b a = true := by
  by_cases h1 : a.cps.toList < b.cps.toList
  · exact .inr (.inl (decide_eq_true h1))
  · by_cases h2 : b.cps.toList < a.cps.toList
    · exact .inr (.inr (decide_eq_true h2))
    · left
      have e : a.cps.toList = b.cps.toList := List.le_antisymm (List.not_lt.mp h2) (List.not_lt.mp h1)
      have e2 : a.cps = b.cps := Array.toList_inj.mp e
      cases a; cases b; simp_all
theorem ltS_ne {a b : Str} (h : ltS a b = true) : a ≠ b := by
  rintro rfl
  rw [ltS_irrefl] at h; cases h
theorem find_filter {α : Type} {p q : α → Bool} (h : ∀ a, p a = true → q a = true) : ∀ l : List α, (l.filter q).find? p = l.find? p
  | [] => rfl
  | a :: r => by
    have ih := find_filter h r
    cases hp : p a with
    | true => simp [List.filter_cons, h a hp, hp]
    | false =>
      cases hq : q a with
      | true => simp [List.filter_cons, hq, hp, ih]
      | false => simp [List.filter_cons, hq, hp, ih]
theorem find_filter_no {α : Type} {p q : α → Bool} (h : ∀ a, p a = true → q a = false) (l : List α) : (l.filter q).find? p = none := by
  rw [List.find?_eq_none]
  intro a ha hp
  have := h a hp
  rw [(List.mem_filter.mp ha).2] at this
  cases this
theorem child_with {v c w : Val} {a b : Tok} (h : child v a = some c) : child (withC v a w) b = if b = a then some w else child v b := by
  cases v with
  | list xs =>
    cases a with
    | s z => cases h
    | i n =>
      simp only [child] at h
      split at h
      · rename_i hn
        obtain ⟨k, rfl⟩ : ∃ k : Nat, n = k := ⟨n.toNat, by omega⟩
        have hk : k < xs.length := by omega
        have hl : (xs.take k ++ [w] ++ xs.drop (k + 1)).length = xs.length := by simp; omega
        simp only [withC, Int.toNat_natCast]
        cases b with
        | s z => simp [child]
        | i m =>
          simp only [child, hl]
          by_cases hm : 0 ≤ m ∧ m < xs.length
          · obtain ⟨j, rfl⟩ : ∃ j : Nat, m = j := ⟨m.toNat, by omega⟩
            rw [if_pos hm, if_pos hm]
            simp only [Int.toNat_natCast]
            by_cases e : j = k
            · subst e
              rw [if_pos rfl, List.append_assoc, List.getElem?_append_right (by simp; omega)]
              simp [Nat.min_eq_left (by omega : j ≤ xs.length)]
            · rw [if_neg (by intro q; exact e (by injection q with q; omega))]
              by_cases l : j < k
              · rw [List.append_assoc, List.getElem?_append_left (by simp; omega), List.getElem?_take_of_lt l]
              · rw [List.getElem?_append_right (by simp; omega)]
                simp only [List.length_append, List.length_take, List.length_cons, List.length_nil, List.getElem?_drop]
                congr 1
                omega
          · rw [if_neg hm, if_neg hm]
            rw [if_neg (by intro e; cases e; exact hm ⟨by omega, by omega⟩)]
      · cases h
  | obj fs =>
    cases a with
    | i n => cases h
    | s z =>
      simp only [withC]
      cases b with
      | i m => simp [child]
      | s y =>
        simp only [child, List.append_assoc, List.find?_append, List.cons_append, List.nil_append, List.find?_cons]
        by_cases e : y = z
        · subst e
          rw [if_pos rfl, find_filter_no (fun a ha => by
            have e : a.1 = y := by simpa using ha
            rw [e]; exact ltS_irrefl y)]
          simp
        · have e2 : ¬ z = y := fun q => e q.symm
          rw [if_neg (by simpa using e)]
          simp only [e2, decide_false]
          rcases ltS_tri y z with q | q | q
          · exact absurd q e
          · rw [find_filter (fun a ha => by
              have e : a.1 = y := by simpa using ha
              rw [e]; exact q), find_filter_no (fun a ha => by
              have e : a.1 = y := by simpa using ha
              rw [e]; exact ltS_asymm q)]
            simp
          · rw [find_filter_no (fun a ha => by
              have e : a.1 = y := by simpa using ha
              rw [e]; exact ltS_asymm q), find_filter (fun a ha => by
              have e : a.1 = y := by simpa using ha
              rw [e]; exact q)]
            simp
  | _ => cases a <;> cases h
theorem replace_cons {v v' w : Val} {a : Tok} {p : Path} (h : replace v (a :: p) w = some v') : ∃ c c', child v a = some c ∧ replace c p w = some c' ∧ v' = withC v a c' := by
  simp only [replace] at h
  obtain ⟨c, e1, e2⟩ := Option.bind_eq_some_iff.mp h
  obtain ⟨c', e3, e4⟩ := Option.map_eq_some_iff.mp e2
  exact ⟨c, c', e1, e3, e4.symm⟩
theorem at_above {w : Val} : ∀ (p s : Path) (v v' : Val), replace v (p ++ s) w = some v' → ∃ u u', lookup v p = some u ∧ replace u s w = some u' ∧ lookup v' p = some u'
  | [], s, v, v', h => ⟨v, v', rfl, h, rfl⟩
  | a :: p, s, v, v', h => by
    obtain ⟨c, c', e1, e2, rfl⟩ := replace_cons h
    obtain ⟨u, u', f1, f2, f3⟩ := at_above p s c c' e2
    refine ⟨u, u', by simp only [lookup, e1]; exact f1, f2, ?_⟩
    simp only [lookup, child_with e1, if_true]
    exact f3
theorem at_below {v v' w : Val} {t : Path} (h : replace v t w = some v') (q : Path) : lookup v' (t ++ q) = lookup w q := by
  obtain ⟨u, u', _, f2, f3⟩ := at_above t [] v v' (by simpa using h)
  simp only [replace] at f2
  cases f2
  rw [lookup_app, f3]; rfl
theorem at_beside {w : Val} : ∀ (t p : Path) (v v' : Val), replace v t w = some v' → ¬ t <+: p → ¬ p <+: t → lookup v' p = lookup v p
  | [], p, v, v', h, n1, n2 => absurd (List.nil_prefix) n1
  | a :: t, [], v, v', h, n1, n2 => absurd (List.nil_prefix) n2
  | a :: t, b :: p, v, v', h, n1, n2 => by
    obtain ⟨c, c', e1, e2, rfl⟩ := replace_cons h
    simp only [lookup, child_with e1]
    by_cases e : b = a
    · subst e
      rw [if_pos rfl, e1]
      simp only [Option.bind_some]
      exact at_beside t p c c' e2 (fun z => n1 (List.cons_prefix_cons.mpr ⟨rfl, z⟩)) (fun z => n2 (List.cons_prefix_cons.mpr ⟨rfl, z⟩))
    · rw [if_neg e]
/-! ### before a swap -/
theorem holds_afterSwap {v v' h : Val} {t p : Path} (hr : replace v t h = some v') (hn : ¬ above t p) (f : Fm) : holds (afterSwap t p f) v h = holdsAt f (lookup v' p) h := by
  unfold afterSwap
  split
  · rename_i e
    rw [holds_ofHeld, holds_at]
    have e2 : p = t ++ p.drop t.length := by
      have := List.take_append_drop t.length p
      rw [e] at this; exact this.symm
    conv => rhs; rw [e2]
    rw [at_below hr]
  · rename_i e
    rw [holds_at, at_beside t p v v' hr (fun z => e (List.prefix_iff_eq_take.mp z).symm) (fun z => ?_)]
    have e1 := List.prefix_iff_eq_take.mp z
    have l1 := z.length_le
    by_cases c : p.length < t.length
    · exact hn ⟨c, e1.symm⟩
    · have l2 : p.length = t.length := by omega
      have e3 : p = t := by rw [l2, List.take_length] at e1; exact e1
      subst e3
      exact e (List.take_length)
theorem above_split {t p : Path} (h : above t p) : ∃ tok s, t = p ++ tok :: s ∧ t[p.length]? = some tok := by
  obtain ⟨h1, h2⟩ := h
  have e := List.take_append_drop p.length t
  rw [h2] at e
  cases d : t.drop p.length with
  | nil =>
    have := congrArg List.length d
    simp at this
    omega
  | cons tok s =>
    rw [d] at e
    refine ⟨tok, s, e.symm, ?_⟩
    rw [← e, List.getElem?_append_right (Nat.le_refl _)]
    simp
/-- formulas that see no child -/
def flat (f : Fm) : Prop := ∀ (u w h : Val) (tok : Tok) (c : Val), child u tok = some c → holds f (withC u tok w) h = holds f u h
theorem holds_simple0 {v v' h : Val} {t p : Path} (hr : replace v t h = some v') {f : Fm} (hf : flat f) : holds (simple0 t p f) v h = holdsAt f (lookup v' p) h := by
  unfold simple0
  split
  · rename_i ha
    obtain ⟨tok, s, rfl, _⟩ := above_split ha
    obtain ⟨u, u', f1, f2, f3⟩ := at_above p (tok :: s) v v' hr
    obtain ⟨c, c', e1, e2, rfl⟩ := replace_cons f2
    rw [holds_at, f1, f3]
    exact (hf u c' h tok c e1).symm
  · rename_i hn
    exact holds_afterSwap hr hn f
theorem kind_with {u c : Val} {tok : Tok} (w : Val) (h : child u tok = some c) : (∃ xs n, u = .list xs ∧ tok = .i n ∧ 0 ≤ n ∧ n < xs.length ∧ xs[n.toNat]? = some c) ∨ (∃ fs z, u = .obj fs ∧ tok = .s z) := by
  cases u with
  | list xs =>
    cases tok with
    | s z => cases h
    | i n =>
      simp only [child] at h
      split at h
      · rename_i hn
        exact .inl ⟨xs, n, rfl, rfl, hn.1, hn.2, h⟩
      · cases h
  | obj fs =>
    cases tok with
    | i n => cases h
    | s z => exact .inr ⟨fs, z, rfl, rfl⟩
  | _ => cases tok <;> cases h
theorem flat_of {f : Fm} (h1 : ∀ xs ys h, xs.length = ys.length → holds f (.list xs) h = holds f (.list ys) h) (h2 : ∀ fs gs h, holds f (.obj fs) h = holds f (.obj gs) h) : flat f := by
  intro u w h tok c e
  rcases kind_with w e with ⟨xs, n, rfl, rfl, a, b, _⟩ | ⟨fs, z, rfl, rfl⟩
  · exact h1 _ _ h (by simp; omega)
  · exact h2 _ _ h
theorem flat_tru : flat .tru := flat_of (fun _ _ _ _ => by simp [holds]) (fun _ _ _ => by simp [holds])
theorem flat_kind (k : Str) : flat (.kind k) := flat_of (fun _ _ _ _ => by simp only [holds]; rfl) (fun _ _ _ => by simp only [holds]; rfl)
theorem flat_int (k : Int) : flat (.intFrom k) := flat_of (fun _ _ _ _ => by simp [holds]) (fun _ _ _ => by simp [holds])
theorem flat_bool (k : Bool) : flat (.boolIs k) := flat_of (fun _ _ _ _ => by simp [holds]) (fun _ _ _ => by simp [holds])
theorem flat_text (k : Str) : flat (.textIs k) := flat_of (fun _ _ _ _ => by simp [holds]) (fun _ _ _ => by simp [holds])
theorem flat_textFrom (k : Int) : flat (.textFrom k) := flat_of (fun _ _ _ _ => by simp [holds]) (fun _ _ _ => by simp [holds])
theorem flat_items (k : Int) : flat (.itemsFrom k) := flat_of (fun _ _ _ e => by simp [holds, e]) (fun _ _ _ => by simp [holds])
end Pk

/-! ## M4 -/
set_option Elab.async false
set_option linter.all false
set_option maxRecDepth 100000
set_option maxHeartbeats 4000000
namespace Pk
open PySem L2 Fm
theorem lookup_snoc1 {v u : Val} {p : Path} (h : lookup v p = some u) (t : Tok) : lookup v (p ++ [t]) = child u t := by
  rw [lookup_app, h]
  simp only [Option.bind_some, lookup]
  cases child u t <;> rfl
theorem holdsA_app (fs gs : List Fm) (v h : Val) : holdsA (fs ++ gs) v h = (holdsA fs v h && holdsA gs v h) := by
  simp [holdsA_all, List.all_append]
/-- the items n .. m - 1 -/
theorem holds_items {v h : Val} {p : Path} {f : Fm} {xs : List Val} (e : lookup v p = some (.list xs)) (n m : Nat) (hm : m ≤ xs.length) : holdsA (items p f n m) v h = ((xs.drop n).take (m - n)).all fun x => holds f x h := by
  unfold items
  rw [holdsA_all, List.all_map]
  have e0 : ((m : Int) - (n : Int)).toNat = m - n := by omega
  rw [e0]
  have key : ∀ j, j < m - n → holds (at' (p ++ [.i ((n : Int) + (j : Int))]) f) v h = holdsAt f xs[n + j]? h := fun j hj => by
    rw [holds_at, lookup_snoc1 e]
    congr 1
    simp only [child]
    rw [if_pos ⟨by omega, by omega⟩]
    congr 1
  rw [Bool.eq_iff_iff, List.all_eq_true, List.all_eq_true]
  constructor
  · intro H x hx
    obtain ⟨j, hj, rfl⟩ := List.getElem_of_mem hx
    have hj2 : j < m - n := by simp at hj; omega
    have := H j (List.mem_range.mpr hj2)
    simp only [Function.comp] at this
    rw [key j hj2] at this
    have hl : n + j < xs.length := by omega
    rw [List.getElem?_eq_getElem hl] at this
    simpa [holdsAt] using this
  · intro H j hj
    have hj2 := List.mem_range.mp hj
    simp only [Function.comp]
    rw [key j hj2]
    have hl : n + j < xs.length := by omega
    rw [List.getElem?_eq_getElem hl]
    refine H xs[n + j] ?_
    have : ((xs.drop n).take (m - n))[j]'(by simp; omega) = xs[n + j] := by simp
    rw [← this]
    exact List.getElem_mem _
theorem split_drop {α : Type} (g : α → Bool) (xs : List α) (c : α) (n m : Nat) (h : n ≤ m) (hm : m < xs.length) : ((xs.take m ++ [c] ++ xs.drop (m + 1)).drop n).all g = (((xs.drop n).take (m - n)).all g && (g c && (xs.drop (m + 1)).all g)) := by
  rw [List.append_assoc, List.drop_append_of_le_length (by simp; omega), List.all_append, List.drop_take]
  simp
theorem drop_same {α : Type} (xs : List α) (c : α) (n m : Nat) (h : m < n) (hm : m < xs.length) : (xs.take m ++ [c] ++ xs.drop (m + 1)).drop n = xs.drop n := by
  have hl : (xs.take m ++ [c]).length = m + 1 := by simp; omega
  rw [List.drop_append, List.drop_of_length_le (by omega), hl, List.nil_append, List.drop_drop]
  congr 1
  omega
theorem fields_split (g : Str × Val → Bool) (fs : List (Str × Val)) (z : Str) : (fs.all fun d => decide (d.1 = z) || g d) = ((fs.filter fun f => ltS f.1 z).all g && (fs.filter fun f => ltS z f.1).all g) := by
  induction fs with
  | nil => rfl
  | cons a r ih =>
    rw [List.all_cons, ih, List.filter_cons, List.filter_cons]
    rcases ltS_tri a.1 z with e | e | e
    · rw [e, ltS_irrefl]; simp
    · have n := ltS_ne e
      rw [e, ltS_asymm e]
      simp [n, Bool.and_assoc]
    · have n := (ltS_ne e).symm
      rw [e, ltS_asymm e]
      simp [n]
      cases g a <;> simp
theorem holds_eachField_obj (ns : List Str) (f : Fm) (fs : List (Str × Val)) (h : Val) : holds (.eachField ns f) (.obj fs) h = fs.all fun d => decide (d.1 ∈ ns) || holds f d.2 h := by simp only [holds]
theorem holds_eachItem_list (n : Int) (f : Fm) (xs : List Val) (h : Val) : holds (.eachItem n f) (.list xs) h = (xs.drop n.toNat).all fun x => holds f x h := by simp only [holds]
/-- exists after, and holds there -/
theorem both_there {v v' h : Val} {t p : Path} {f g : Fm} (hr : replace v t h = some v') (ih : ∀ x, lookup v' p = some x → holds g v h = holds f x h) : holds (both [simple0 t p .tru, g]) v h = holdsAt f (lookup v' p) h := by
  rw [holds_both]
  simp only [holdsA, Bool.and_true]
  rw [holds_simple0 hr flat_tru]
  cases e : lookup v' p with
  | none => rfl
  | some x => simp only [holdsAt, holds, Bool.true_and]; exact ih x e
mutual
theorem there_ok {v v' h : Val} {t : Path} (hr : replace v t h = some v') : ∀ f : Fm, okF true f → ∀ (p : Path) (x : Val), lookup v' p = some x → holds (there t f p) v h = holds f x h
  | .fls, _, p, x, e => by simp [there, holds]
  | .neg f, o, p, x, e => by
    have := there_ok hr f (by simpa only [okF] using o) p x e
    simp only [there, holds_no, this, holds]
  | .conj fs, o, p, x, e => by
    have := (theres_ok hr fs (by simpa only [okF] using o) p x e).1
    simp only [there, holds_both, this, holds]
  | .disj fs, o, p, x, e => by
    have := (theres_ok hr fs (by simpa only [okF] using o) p x e).2
    simp only [there, holds_one, this, holds]
  | .at_ q f, o, p, x, e => by
    have ih := there_ok hr f (by simp only [okF] at o; exact o.2) (p ++ q)
    simp only [there]
    rw [both_there hr ih, holds_at_, lookup_app, e]; rfl
  | .eachItem n f, o, p, x, e => by
    have hn : 0 ≤ n := by simp only [okF] at o; exact o.1
    have of : okF true f := by simp only [okF] at o; exact o.2
    obtain ⟨n, rfl⟩ : ∃ k : Nat, n = k := ⟨n.toNat, by omega⟩
    simp only [there]
    split
    · rename_i ha
      obtain ⟨tok, s, rfl, et⟩ := above_split ha
      obtain ⟨u, u', f1, f2, f3⟩ := at_above p (tok :: s) v v' hr
      obtain ⟨c, c', e1, e2, rfl⟩ := replace_cons f2
      rw [e] at f3
      cases f3
      rw [et]
      rcases kind_with c' e1 with ⟨xs, m, rfl, rfl, a, b, _⟩ | ⟨fs, z, rfl, rfl⟩
      · obtain ⟨m, rfl⟩ : ∃ k : Nat, m = k := ⟨m.toNat, by omega⟩
        have hm : m < xs.length := by omega
        simp only [withC, Int.toNat_natCast, holds_eachItem_list]
        split
        · rename_i c
          have c2 : n ≤ m := by omega
          have ih := there_ok hr f of (p ++ [.i (m : Int)])
          rw [holds_both, holdsA_app, holds_items f1 n m (by omega), split_drop _ xs c' n m c2 hm]
          congr 1
          simp only [holdsA, Bool.and_true]
          rw [both_there hr ih, holds_at, f1, lookup_snoc1 e, child_with e1, if_pos rfl]
          simp only [holdsAt]
          rw [holds_eachItem_list]
          have e9 : ((m : Int) + 1).toNat = m + 1 := by omega
          rw [e9]
        · rename_i c
          rw [holds_at, f1]
          simp only [holdsAt, holds_eachItem_list, Int.toNat_natCast]
          rw [drop_same xs c' n m (by omega) hm]
      · simp only [withC]
        rw [holds_at, f1]
        simp only [holdsAt, holds]
    · rename_i hn
      rw [holds_afterSwap hr hn, e]; rfl
  | .eachField ns f, o, p, x, e => by
    have of : okF true f := by simp only [okF] at o; exact o.2
    simp only [there]
    split
    · rename_i ha
      obtain ⟨tok, s, rfl, et⟩ := above_split ha
      obtain ⟨u, u', f1, f2, f3⟩ := at_above p (tok :: s) v v' hr
      obtain ⟨c, c', e1, e2, rfl⟩ := replace_cons f2
      rw [e] at f3
      cases f3
      rw [et]
      rcases kind_with c' e1 with ⟨xs, m, rfl, rfl, a, b, _⟩ | ⟨fs, z, rfl, rfl⟩
      · simp only [withC]
        rw [holds_at, f1]
        simp only [holdsAt, holds]
      · simp only [withC, holds_eachField_obj]
        split
        · rename_i hz
          have ih := there_ok hr f of (p ++ [.s z])
          rw [holds_both]
          simp only [holdsA, Bool.and_true]
          rw [both_there hr ih, holds_at, f1, lookup_snoc1 e, child_with e1, if_pos rfl]
          simp only [holdsAt, holds_eachField_obj]
          have e8 := fields_split (fun d => decide (d.1 ∈ ns) || holds f d.2 h) fs z
          have e9 : (fs.all fun d => decide (d.1 ∈ ns ++ [z]) || holds f d.2 h) = (fs.all fun d => decide (d.1 = z) || (decide (d.1 ∈ ns) || holds f d.2 h)) := by
            congr 1
            funext d
            by_cases h1 : d.1 ∈ ns <;> by_cases h2 : d.1 = z <;> simp [h1, h2]
          rw [e9, e8]
          simp only [List.all_append, List.all_cons, List.all_nil, Bool.and_true, hz, decide_false, Bool.false_or]
          cases (holds f c' h) <;> simp
        · rename_i hz
          have hz : z ∈ ns := Decidable.not_not.mp hz
          rw [holds_at, f1]
          simp only [holdsAt, holds_eachField_obj]
          have e8 := fields_split (fun d => decide (d.1 ∈ ns) || holds f d.2 h) fs z
          have e9 : (fs.all fun d => decide (d.1 ∈ ns) || holds f d.2 h) = (fs.all fun d => decide (d.1 = z) || (decide (d.1 ∈ ns) || holds f d.2 h)) := by
            congr 1
            funext d
            by_cases h2 : d.1 = z
            · simp [h2, hz]
            · simp [h2]
          rw [e9, e8]
          simp [List.all_append, hz]
    · rename_i hn
      rw [holds_afterSwap hr hn, e]; rfl
  | .tru, _, p, x, e => by simp only [there]; rw [holds_simple0 hr flat_tru, e]; rfl
  | .kind k, _, p, x, e => by simp only [there]; rw [holds_simple0 hr (flat_kind k), e]; rfl
  | .intFrom k, _, p, x, e => by simp only [there]; rw [holds_simple0 hr (flat_int k), e]; rfl
  | .boolIs k, _, p, x, e => by simp only [there]; rw [holds_simple0 hr (flat_bool k), e]; rfl
  | .textIs k, _, p, x, e => by simp only [there]; rw [holds_simple0 hr (flat_text k), e]; rfl
  | .textFrom k, _, p, x, e => by simp only [there]; rw [holds_simple0 hr (flat_textFrom k), e]; rfl
  | .itemsFrom k, _, p, x, e => by simp only [there]; rw [holds_simple0 hr (flat_items k), e]; rfl
  | .held f, o, p, x, e => by simp only [okF] at o; exact absurd o.1 (by decide)
theorem theres_ok {v v' h : Val} {t : Path} (hr : replace v t h = some v') : ∀ fs : List Fm, okFs true fs → ∀ (p : Path) (x : Val), lookup v' p = some x → holdsA (theres t fs p) v h = holdsA fs x h ∧ holdsO (theres t fs p) v h = holdsO fs x h
  | [], _, p, x, e => by simp [theres, holdsA, holdsO]
  | f :: r, o, p, x, e => by
    simp only [okFs] at o
    have h1 := there_ok hr f o.1 p x e
    have h2 := theres_ok hr r o.2 p x e
    simp only [theres, holdsA, holdsO, h1, h2.1, h2.2, and_self]
end
theorem afterAt_ok {v v' h : Val} {t : Path} (hr : replace v t h = some v') {f : Fm} (o : okF true f) : holds (afterAt t f []) v h = holds f v' h := by
  unfold afterAt
  rw [both_there hr (there_ok hr f o [])]
  rfl
mutual
theorem rewr_ok {v v' h : Val} {t : Path} (hr : replace v t h = some v') : ∀ f : Fm, okF false f → holds (rewr t f) v h = holds f v' h
  | .neg f, o => by
    have := rewr_ok hr f (by simpa only [okF] using o)
    simp only [rewr, holds_no, this, holds]
  | .conj fs, o => by
    have := (rewrs_ok hr fs (by simpa only [okF] using o)).1
    simp only [rewr, holds_both, this, holds]
  | .disj fs, o => by
    have := (rewrs_ok hr fs (by simpa only [okF] using o)).2
    simp only [rewr, holds_one, this, holds]
  | .held f, _ => by simp only [rewr, holds]
  | .tru, o => by simp only [rewr]; exact afterAt_ok hr o
  | .fls, o => by simp only [rewr]; exact afterAt_ok hr o
  | .at_ q f, o => by simp only [rewr]; exact afterAt_ok hr (by simp only [okF] at o ⊢; exact o)
  | .kind k, o => by simp only [rewr]; exact afterAt_ok hr (by simp only [okF] at o ⊢; exact o)
  | .intFrom k, o => by simp only [rewr]; exact afterAt_ok hr (by simp only [okF])
  | .boolIs k, o => by simp only [rewr]; exact afterAt_ok hr (by simp only [okF])
  | .textIs k, o => by simp only [rewr]; exact afterAt_ok hr (by simp only [okF] at o ⊢; exact o)
  | .textFrom k, o => by simp only [rewr]; exact afterAt_ok hr (by simp only [okF] at o ⊢; exact o)
  | .itemsFrom k, o => by simp only [rewr]; exact afterAt_ok hr (by simp only [okF] at o ⊢; exact o)
  | .eachItem n f, o => by simp only [rewr]; exact afterAt_ok hr (by simp only [okF] at o ⊢; exact o)
  | .eachField ns f, o => by simp only [rewr]; exact afterAt_ok hr (by simp only [okF] at o ⊢; exact o)
theorem rewrs_ok {v v' h : Val} {t : Path} (hr : replace v t h = some v') : ∀ fs : List Fm, okFs false fs → holdsA (rewrs t fs) v h = holdsA fs v' h ∧ holdsO (rewrs t fs) v h = holdsO fs v' h
  | [], _ => by simp [rewrs, holdsA, holdsO]
  | f :: r, o => by
    simp only [okFs] at o
    have h1 := rewr_ok hr f o.1
    have h2 := rewrs_ok hr r o.2
    simp only [rewrs, holdsA, holdsO, h1, h2.1, h2.2, and_self]
end
theorem replace_lookup {w : Val} : ∀ (t : Path) (v : Val), (replace v t w).isSome = (lookup v t).isSome
  | [], v => rfl
  | a :: t, v => by
    simp only [replace, lookup]
    cases child v a with
    | none => rfl
    | some c => simp only [Option.bind_some, Option.isSome_map]; exact replace_lookup t c
/-- THE LAW in plain -/
theorem before_ok {v h : Val} {t : Path} {f : Fm} (o : okF false f) : holds (before t f) v h = holdsAt f (replace v t h) h := by
  unfold before
  rw [holds_both]
  simp only [holdsA, Bool.and_true]
  rw [holds_at]
  have e := replace_lookup (w := h) t v
  cases er : replace v t h with
  | none =>
    rw [er] at e
    have : lookup v t = none := by simpa using e.symm
    rw [this]; rfl
  | some v' =>
    rw [er] at e
    cases el : lookup v t with
    | none => rw [el] at e; cases e
    | some u =>
      simp only [holdsAt, holds, Bool.true_and]
      exact rewr_ok er f o
end Pk

/-! ## P0 -/
set_option Elab.async false
set_option linter.all false
set_option maxRecDepth 100000
set_option maxHeartbeats 4000000
namespace Pk
open PySem L2
def s_no : SD := fun ss Q => ∃ f, ss = [.d (enc f)] ∧ Q (.d (enc (Fm.no f)))
theorem pure_no : ∀ ss Q, s_no ss Q → T_no { nx := fun _ => Q (.d .non), rt := Q } (ss.map some ++ List.replicate 0 none) := by
  rintro ss Q ⟨f, rfl, h⟩
  cases f <;> simp [T_no, enc, Fm.no] at h ⊢ <;> exact h
def s_both : SD := fun ss Q => ∃ fs : List Fm, ss = [.lst (fs.map enc)] ∧ wtL fs ≤ 900000 ∧ Q (.d (enc (Fm.both fs)))
theorem loop_both (l : S) (DD : EndsD) : ∀ (fs acc : List Fm) (x : Option S), wtL acc + wtL fs ≤ 900000 →
    (match Fm.bothP fs with
      | none => DD.rt (.d (enc .fls))
      | some ps => ∀ y, DD.nx [some l, some (.own ((acc ++ ps).map enc)), y]) → forD 2 B_both_1 DD (fs.map enc) [some l, some (.own (acc.map enc)), x]
  | [], acc, x, hw, h => by
    simp only [Fm.bothP, List.append_nil] at h
    simpa [forD] using h x
  | f :: r, acc, x, hw, h => by
    have h1 := wtL_len acc
    have h2 := wtL_len r
    simp only [wtL] at hw
    have ih0 := loop_both l DD r (acc ++ [f]) (some (.d (enc f)))
    simp only [wtL_app, wtL] at ih0
    cases f with
    | fls => simpa [forD, B_both_1, enc, Fm.bothP] using h
    | tru =>
      simp only [wt] at hw
      have ih := loop_both l DD r acc (some (.d (enc .tru))) (by omega) h
      simpa [forD, B_both_1, enc] using ih
    | conj gs =>
      simp only [wt] at hw
      have h3 := wtL_len gs
      have ih := loop_both l DD r (acc ++ gs) (some (.d (enc (.conj gs)))) (by rw [wtL_app]; omega) (by
        simp only [Fm.bothP] at h
        cases e : Fm.bothP r with
        | none => rw [e] at h; exact h
        | some ps => rw [e] at h; simpa [List.append_assoc] using h)
      have n1 := nsrcD_enc gs
      have n2 := nsrcD_enc (acc ++ gs)
      rw [List.map_append] at n2
      simp only [List.map_append, enc] at ih
      simp [forD, B_both_1, enc, encL_map, -List.map_append] at ih ⊢
      exact ⟨n2, by omega, ih⟩
    | _ =>
      simp only [wt] at hw
      simp only [Fm.bothP] at h
      simp [forD, B_both_1, enc]
      refine ⟨by omega, ?_⟩
      simp only [List.map_append, List.map_cons, List.map_nil, enc, wt] at ih0
      refine ih0 (by omega) ?_
      cases e : Fm.bothP r with
      | none => rw [e] at h; exact h
      | some ps => rw [e] at h; simpa [List.append_assoc, enc] using h
theorem pure_both : ∀ ss Q, s_both ss Q → T_both { nx := fun _ => Q (.d .non), rt := Q } (ss.map some ++ List.replicate 2 none) := by
  rintro ss Q ⟨fs, rfl, hw, h⟩
  simp [T_both]
  refine loop_both (.lst (fs.map enc)) _ fs [] none (by simpa [wtL] using hw) ?_
  unfold Fm.both at h
  cases e : Fm.bothP fs with
  | none => rw [e] at h; exact h
  | some ps =>
    rw [e] at h
    intro y
    match ps, h with
    | [], h => simpa [Fm.wrapC, enc] using h
    | [f], h => simpa [Fm.wrapC] using h
    | f :: g :: r, h =>
      simp [Fm.wrapC, enc, encL_map] at h ⊢
      rw [if_neg (by omega), if_neg (by omega)]
      exact h
def s_one_of : SD := fun ss Q => ∃ fs : List Fm, ss = [.lst (fs.map enc)] ∧ wtL fs ≤ 900000 ∧ Q (.d (enc (Fm.oneOf fs)))
theorem loop_one_of (l : S) (DD : EndsD) : ∀ (fs acc : List Fm) (x : Option S), wtL acc + wtL fs ≤ 900000 →
    (match Fm.oneP fs with
      | none => DD.rt (.d (enc .tru))
      | some ps => ∀ y, DD.nx [some l, some (.own ((acc ++ ps).map enc)), y]) → forD 2 B_one_of_1 DD (fs.map enc) [some l, some (.own (acc.map enc)), x]
  | [], acc, x, hw, h => by
    simp only [Fm.oneP, List.append_nil] at h
    simpa [forD] using h x
  | f :: r, acc, x, hw, h => by
    have h1 := wtL_len acc
    have h2 := wtL_len r
    simp only [wtL] at hw
    have ih0 := loop_one_of l DD r (acc ++ [f]) (some (.d (enc f)))
    simp only [wtL_app, wtL] at ih0
    cases f with
    | tru => simpa [forD, B_one_of_1, enc, Fm.oneP] using h
    | fls =>
      simp only [wt] at hw
      have ih := loop_one_of l DD r acc (some (.d (enc .fls))) (by omega) h
      simpa [forD, B_one_of_1, enc] using ih
    | disj gs =>
      simp only [wt] at hw
      have h3 := wtL_len gs
      have ih := loop_one_of l DD r (acc ++ gs) (some (.d (enc (.disj gs)))) (by rw [wtL_app]; omega) (by
        simp only [Fm.oneP] at h
        cases e : Fm.oneP r with
        | none => rw [e] at h; exact h
        | some ps => rw [e] at h; simpa [List.append_assoc] using h)
      have n1 := nsrcD_enc gs
      have n2 := nsrcD_enc (acc ++ gs)
      rw [List.map_append] at n2
      simp only [List.map_append, enc] at ih
      simp [forD, B_one_of_1, enc, encL_map, -List.map_append] at ih ⊢
      exact ⟨n2, by omega, ih⟩
    | _ =>
      simp only [wt] at hw
      simp only [Fm.oneP] at h
      simp [forD, B_one_of_1, enc]
      refine ⟨by omega, ?_⟩
      simp only [List.map_append, List.map_cons, List.map_nil, enc, wt] at ih0
      refine ih0 (by omega) ?_
      cases e : Fm.oneP r with
      | none => rw [e] at h; exact h
      | some ps => rw [e] at h; simpa [List.append_assoc, enc] using h
theorem pure_one_of : ∀ ss Q, s_one_of ss Q → T_one_of { nx := fun _ => Q (.d .non), rt := Q } (ss.map some ++ List.replicate 2 none) := by
  rintro ss Q ⟨fs, rfl, hw, h⟩
  simp [T_one_of]
  refine loop_one_of (.lst (fs.map enc)) _ fs [] none (by simpa [wtL] using hw) ?_
  unfold Fm.oneOf at h
  cases e : Fm.oneP fs with
  | none => rw [e] at h; exact h
  | some ps =>
    rw [e] at h
    intro y
    match ps, h with
    | [], h => simpa [Fm.wrapD, enc] using h
    | [f], h => simpa [Fm.wrapD] using h
    | f :: g :: r, h =>
      simp [Fm.wrapD, enc, encL_map] at h ⊢
      rw [if_neg (by omega), if_neg (by omega)]
      exact h
def lenAt : Fm → Nat
  | .at_ q _ => q.length
  | _ => 0
def s_at : SD := fun ss Q => ∃ p f, ss = [.d (encP p), .d (enc f)] ∧ p.length ≤ 1000 ∧ lenAt f ≤ 1000 ∧ Q (.d (enc (Fm.at' p f)))
theorem pure_at : ∀ ss Q, s_at ss Q → T_at { nx := fun _ => Q (.d .non), rt := Q } (ss.map some ++ List.replicate 0 none) := by
  rintro ss Q ⟨p, f, rfl, hp, hf, h⟩
  cases p with
  | nil => simpa [T_at, encP, Fm.at'] using h
  | cons t r =>
    have e : ¬ ((r.length : Int) + 1 = 0) := by omega
    cases f with
    | at_ q g =>
      simp only [lenAt] at hf
      simp [T_at, encP, enc, Fm.at', e] at h ⊢
      simp at hp
      exact ⟨by omega, h⟩
    | _ => simpa [T_at, encP, enc, Fm.at', e] using h
def s_of_held : SD := fun ss Q => ∃ f, ss = [.d (enc f)] ∧ Q (.d (enc (Fm.ofHeld f)))
theorem pure_of_held : ∀ ss Q, s_of_held ss Q → T_of_held { nx := fun _ => Q (.d .non), rt := Q } (ss.map some ++ List.replicate 0 none) := by
  rintro ss Q ⟨f, rfl, h⟩
  cases f <;> simp [T_of_held, enc, Fm.ofHeld] at h ⊢ <;> exact h
end Pk

/-! ## P1 -/
set_option Elab.async false
set_option linter.all false
set_option maxRecDepth 100000
set_option maxHeartbeats 4000000
namespace Pk
open PySem L2 Fm
/-- what is asked of target, path, formula -/
structure Cd (t p : Path) (f : Fm) : Prop where
  ot : ∀ x ∈ t, okTok x
  tl : t.length ≤ 900
  op : ∀ x ∈ p, okTok x
  sm : small t
  ff : okF true f
  l : p.length + pl f ≤ 900
  w : Cw f ≤ 800000
def prim (t : Path) : D := .tup [.str "swap", encP t]
theorem lenAt_le (f : Fm) : lenAt f ≤ pl f := by cases f <;> simp [lenAt, pl]
theorem s_at_i {p : Path} {f : Fm} {x : D} {Q : S → Prop} (e : x = encP p) (h1 : p.length ≤ 1000) (h2 : lenAt f ≤ 1000) (h : Q (.d (enc (at' p f)))) : s_at [.d x, .d (enc f)] Q := ⟨p, f, by rw [e], h1, h2, h⟩
theorem s_held_i {f : Fm} {Q : S → Prop} (h : Q (.d (enc (ofHeld f)))) : s_of_held [.d (enc f)] Q := ⟨f, rfl, h⟩
theorem encP_drop (p : Path) (n : Nat) : D.tup ((p.map encT).drop n) = encP (p.drop n) := by rw [encP, List.map_drop]
def s_after_swap : SD := fun ss Q => ∃ t p f, ss = [.d (encP t), .d (encP p), .d (enc f)] ∧ Cd t p f ∧ Q (.d (enc (afterSwap t p f)))
theorem take_ok {p : Path} (h : ∀ x ∈ p, okTok x) (n : Nat) : ∀ x ∈ p.take n, okTok x := fun x hx => h x (List.mem_of_mem_take hx)
theorem pure_after_swap : ∀ ss Q, s_after_swap ss Q → T_after_swap s_at s_of_held { nx := fun _ => Q (.d .non), rt := Q } (ss.map some ++ List.replicate 0 none) := by
  rintro ss Q ⟨t, p, f, rfl, c, h⟩
  have e1 : D.tup ((p.map encT).take t.length) = encP (p.take t.length) := by rw [encP, List.map_take]
  have s1 := shaped_path (take_ok c.op t.length)
  have s2 := shaped_path c.ot
  have e2 := eqv_path (p.take t.length) t
  have hl := lenAt_le f
  have hc := c.l
  simp only [encP, List.map_take] at s1 s2 e2
  simp [T_after_swap, encP, cutD_to, cutD_from, s1, s2, e2]
  by_cases hh : p.take t.length = t
  · rw [if_pos hh]
    refine s_at_i (encP_drop p t.length) (by simp; omega) (by omega) (s_held_i ?_)
    unfold afterSwap at h
    rw [if_pos hh] at h
    exact h
  · rw [if_neg hh]
    refine s_at_i (p := p) rfl (by omega) (by omega) ?_
    unfold afterSwap at h
    rw [if_neg hh] at h
    exact h
def s_touched : SD := fun ss Q => ∃ t, ss = [.d (prim t)] ∧ Q (.d (encP t))
theorem pure_touched : ∀ ss Q, s_touched ss Q → T_touched { nx := fun _ => Q (.d .non), rt := Q } (ss.map some ++ List.replicate 0 none) := by
  rintro ss Q ⟨t, rfl, h⟩
  simpa [T_touched, prim] using h
/-! ### divided -/
def s_div (d : Nat) : SD := fun ss Q => ∃ t p tok f, ss = [.d (prim t), .d (encP p), .d (encT tok), .d (enc f)] ∧ Cd t p f ∧ above t p ∧ t[p.length]? = some tok ∧ dep f ≤ d ∧ Q (.d (enc (divi t p tok f)))
def s_aat (d : Nat) : SD := fun ss Q => ∃ t p f, ss = [.d (prim t), .d (encP p), .d (enc f)] ∧ Cd t p f ∧ dep f ≤ d ∧ Q (.d (enc (afterAt t f p)))
theorem s_both_i {fs : List Fm} {xs : List D} {Q : S → Prop} (e : xs = fs.map enc) (hw : wtL fs ≤ 900000) (h : Q (.d (enc (both fs)))) : s_both [.lst xs] Q := ⟨fs, by rw [e], hw, h⟩
theorem s_aat_i {d : Nat} {t p : Path} {f : Fm} {x : D} {Q : S → Prop} (e : x = encP p) (c : Cd t p f) (hd : dep f ≤ d) (h : Q (.d (enc (afterAt t f p)))) : s_aat d [.d (prim t), .d x, .d (enc f)] Q := ⟨t, p, f, by rw [e], c, hd, h⟩
theorem encP_snoc (p : Path) (tok : Tok) : D.tup (p.map encT ++ [encT tok]) = encP (p ++ [tok]) := by simp [encP]
theorem Cd.each {t p : Path} {f g : Fm} {tok : Tok} (c : Cd t p f) (ht : t[p.length]? = some tok) (hg : okF true g) (hl : pl f = pl g + 1) (hw : Cw g ≤ Cw f) : Cd t (p ++ [tok]) g := by
  refine ⟨c.ot, c.tl, fun x hx => ?_, c.sm, hg, ?_, Nat.le_trans hw c.w⟩
  · rcases List.mem_append.mp hx with hx | hx
    · exact c.op x hx
    · have e : x = tok := by simpa using hx
      subst e
      exact c.ot x (List.mem_of_getElem? ht)
  · have := c.l
    simp
    omega
theorem pure_divided (d : Nat) : ∀ ss Q, s_div (d + 1) ss Q → T_divided s_at s_both (s_aat d) { nx := fun _ => Q (.d .non), rt := Q } (ss.map some ++ List.replicate 3 none) := by
  rintro ss Q ⟨t, p, tok, f, rfl, c, ha, ht, hd, h⟩
  have hl := lenAt_le f
  have hc := c.l
  have hcw := c.w
  have plain : ∀ {Q : S → Prop}, Q (.d (enc (at' p f))) → s_at [.d (encP p), .d (enc f)] Q := fun q => s_at_i rfl (by omega) (by omega) q
  cases f with
  | eachField ns g =>
    have hf := c.ff
    simp only [okF] at hf
    simp only [pl] at hc
    simp only [Cw] at hcw
    cases tok with
    | i m =>
      simp [T_divided, enc, encT, divi] at h plain ⊢
      exact plain h
    | s z =>
      have w1 := wt_afterAt c.sm hf.2 (p ++ [.s z])
      have w2 := wt_at p (eachField (ns ++ [z]) g)
      simp only [wt, List.length_append, List.length_cons, List.length_nil] at w2
      simp [T_divided, enc, encT, divi] at h plain ⊢
      by_cases hz : z ∈ ns
      · rw [if_pos hz] at h ⊢
        exact plain h
      · rw [if_neg hz] at h ⊢
        refine ⟨by omega, by omega, s_aat_i rfl (c.each ht hf.2 (by simp [pl]) (by simp [Cw]; omega)) (by simpa [dep] using hd) ?_⟩
        have e : D.tup [.str "each_field", .tup (ns.map D.str ++ [.str z]), enc g] = enc (eachField (ns ++ [z]) g) := by simp [enc]
        rw [e]
        refine s_at_i (p := p) rfl (by omega) (by simp [lenAt]) ?_
        simp
        exact s_both_i (fs := [afterAt t g (p ++ [.s z]), at' p (eachField (ns ++ [z]) g)]) rfl (by simp only [wtL]; omega) h
  | eachItem n g =>
    have hf := c.ff
    simp only [okF] at hf
    simp only [pl] at hc
    simp only [Cw] at hcw
    cases tok with
    | s z =>
      simp [T_divided, enc, encT, divi] at h plain ⊢
      exact plain h
    | i m =>
      have hm := c.sm m (List.mem_of_getElem? ht)
      have w1 := wt_afterAt c.sm hf.2 (p ++ [.i m])
      have w2 := wt_at p (eachItem (m + 1) g)
      have w3 := wt_items p g n m
      have w4 : (m - n).toNat * (wt g + 1) ≤ 100 * (wt g + 1) := Nat.mul_le_mul_right _ (by omega)
      simp only [wt] at w2
      have e : ∀ x : Int, D.tup [.str "each_item", .int x, enc g] = enc (eachItem x g) := fun x => by simp [enc]
      simp [T_divided, enc, encT, divi] at h plain ⊢
      by_cases hz : n ≤ m
      · rw [if_pos hz] at h ⊢
        refine ⟨⟨by omega, by omega, by omega, by omega⟩, ?_⟩
        refine lcD_mapA (fun (j : Nat) => D.int (n + j)) (fun (j : Nat) => enc (at' (p ++ [.i (n + j)]) g)) (fun _ _ => noInt_enc _) (fun j hj Q q => ?_) (by simp; omega) ?_
        · simp [E_divided_1]
          exact ⟨by omega, s_at_i rfl (by simp; omega) (by have := lenAt_le g; omega) q⟩
        · simp
          refine ⟨by omega, s_aat_i rfl (c.each ht hf.2 (by simp [pl]) (by simp [Cw]; omega)) (by simpa [dep] using hd) ?_⟩
          simp
          refine ⟨by omega, ?_⟩
          rw [e]
          refine s_at_i (p := p) rfl (by omega) (by simp [lenAt]) ?_
          simp
          refine ⟨by omega, s_both_i (fs := items p g n m ++ [afterAt t g (p ++ [Tok.i m]), at' p (eachItem (m + 1) g)]) (by simp [items]) (by rw [wtL_app]; simp only [wtL]; omega) h⟩
      · rw [if_neg hz] at h ⊢
        exact plain h
  | _ =>
    simp [T_divided, enc, divi] at h plain ⊢
    exact plain h
end Pk

/-! ## P2 -/
set_option Elab.async false
set_option linter.all false
set_option maxRecDepth 100000
set_option maxHeartbeats 4000000
namespace Pk
open PySem L2 Fm
theorem s_asw_i {t p : Path} {f : Fm} {Q : S → Prop} (c : Cd t p f) (h : Q (.d (enc (afterSwap t p f)))) : s_after_swap [.d (encP t), .d (encP p), .d (enc f)] Q := ⟨t, p, f, rfl, c, h⟩
def s_simple (d : Nat) : SD := fun ss Q => ∃ t p f, ss = [.d (prim t), .d (encP p), .d (enc f)] ∧ Cd t p f ∧ dep f ≤ d ∧ Q (.d (enc (simple t p f)))
theorem pure_after_simple (d : Nat) : ∀ ss Q, s_simple d ss Q → T_after_simple s_after_swap (s_div d) s_touched s_at { nx := fun _ => Q (.d .non), rt := Q } (ss.map some ++ List.replicate 3 none) := by
  rintro ss Q ⟨t, p, f, rfl, c, hd, h⟩
  have s1 := shaped_path (take_ok c.ot p.length)
  have s2 := shaped_path c.op
  have key : ∀ {Q : S → Prop}, Q (.d (encP t)) → s_touched [.d (prim t)] Q := fun q => ⟨t, rfl, q⟩
  simp [T_after_simple, prim] at key ⊢
  refine key ?_
  simp
  by_cases hl : p.length < t.length
  · simp [hl, s1, s2]
    by_cases ht : t.take p.length = p
    · have ha : above t p := ⟨hl, ht⟩
      rw [if_pos ht]
      obtain ⟨tok, e⟩ := above_get ha
      have e2 : t[p.length] = tok := by simpa [hl] using e
      rw [e2]
      refine ⟨t, p, tok, f, rfl, c, ha, e, hd, ?_⟩
      unfold simple at h
      rw [if_pos ha, e] at h
      exact h
    · rw [if_neg ht]
      unfold simple at h
      rw [if_neg (fun z => ht z.2)] at h
      exact s_asw_i c h
  · unfold simple at h
    rw [if_neg (fun z => hl z.1)] at h
    simp [hl]
    exact s_asw_i c h
theorem s_simple_i {d : Nat} {t p : Path} {f : Fm} {Q : S → Prop} (c : Cd t p f) (hd : dep f ≤ d) (h : Q (.d (enc (simple t p f)))) : s_simple d [.d (prim t), .d (encP p), .d (enc f)] Q := ⟨t, p, f, rfl, c, hd, h⟩
def s_there (d : Nat) : SD := fun ss Q => ∃ t p f, ss = [.d (prim t), .d (encP p), .d (enc f)] ∧ Cd t p f ∧ dep f ≤ d ∧ Q (.d (enc (there t f p)))
theorem s_there_i {d : Nat} {t p : Path} {f : Fm} {Q : S → Prop} (c : Cd t p f) (hd : dep f ≤ d) (h : Q (.d (enc (there t f p)))) : s_there d [.d (prim t), .d (encP p), .d (enc f)] Q := ⟨t, p, f, rfl, c, hd, h⟩
theorem s_no_i {f : Fm} {Q : S → Prop} (h : Q (.d (enc (no f)))) : s_no [.d (enc f)] Q := ⟨f, rfl, h⟩
theorem s_one_i {fs : List Fm} {xs : List D} {Q : S → Prop} (e : xs = fs.map enc) (hw : wtL fs ≤ 900000) (h : Q (.d (enc (oneOf fs)))) : s_one_of [.lst xs] Q := ⟨fs, by rw [e], hw, h⟩
theorem Cd.sub {t p q : Path} {f g : Fm} (c : Cd t p f) (hg : okF true g) (hq : ∀ x ∈ q, okTok x) (hl : q.length + pl g ≤ pl f) (hw : Cw g ≤ Cw f) : Cd t (p ++ q) g := by
  refine ⟨c.ot, c.tl, fun x hx => ?_, c.sm, hg, ?_, Nat.le_trans hw c.w⟩
  · rcases List.mem_append.mp hx with hx | hx
    · exact c.op x hx
    · exact hq x hx
  · have := c.l
    simp
    omega
theorem Cd.sub0 {t p : Path} {f g : Fm} (c : Cd t p f) (hg : okF true g) (hl : pl g ≤ pl f) (hw : Cw g ≤ Cw f) : Cd t p g := by
  have := c.sub (q := []) hg (fun _ z => nomatch z) (by simpa using hl) hw
  rwa [List.append_nil] at this
theorem pure_after_there (d : Nat) : ∀ ss Q, s_there (d + 1) ss Q → T_after_there (s_simple (d + 1)) (s_aat d) (s_there d) s_one_of s_both s_no { nx := fun _ => Q (.d .non), rt := Q } (ss.map some ++ List.replicate 2 none) := by
  rintro ss Q ⟨t, p, f, rfl, c, hd, h⟩
  have hf := c.ff
  have hw := c.w
  have hpl := c.l
  cases f with
  | fls => simpa [T_after_there, enc, there] using h
  | neg g =>
    simp only [okF] at hf
    simp only [dep] at hd
    simp only [there] at h
    simp [T_after_there, enc]
    exact s_there_i (c.sub0 hf (by simp [pl]) (by simp [Cw])) (by omega) (s_no_i h)
  | conj fs =>
    simp only [okF] at hf
    simp only [dep] at hd
    simp only [Cw] at hw
    simp only [there, theres_map] at h
    have hb := wt_theres c.sm fs hf p
    rw [theres_map] at hb
    have hn := wtL_len (fs.map fun f => there t f p)
    rw [List.length_map] at hn
    simp [T_after_there, enc, encL_map]
    refine lcD_mapA enc (fun f => enc (there t f p)) (fun _ _ => noInt_enc _) (fun g hg Q q => ?_) (by simp; omega) ?_
    · simp [E_after_there_2]
      have := depL_mem hg
      exact s_there_i (c.sub0 (okFs_iff.mp hf g hg) (by simp only [pl]; exact plL_mem hg) (by simp only [Cw]; have := CwL_mem hg; omega)) (by omega) q
    · exact s_both_i (by simp) (by omega) h
  | disj fs =>
    simp only [okF] at hf
    simp only [dep] at hd
    simp only [Cw] at hw
    simp only [there, theres_map] at h
    have hb := wt_theres c.sm fs hf p
    rw [theres_map] at hb
    have hn := wtL_len (fs.map fun f => there t f p)
    rw [List.length_map] at hn
    simp [T_after_there, enc, encL_map]
    refine lcD_mapA enc (fun f => enc (there t f p)) (fun _ _ => noInt_enc _) (fun g hg Q q => ?_) (by simp; omega) ?_
    · simp [E_after_there_1]
      have := depL_mem hg
      exact s_there_i (c.sub0 (okFs_iff.mp hf g hg) (by simp only [pl]; exact plL_mem hg) (by simp only [Cw]; have := CwL_mem hg; omega)) (by omega) q
    · exact s_one_i (by simp) (by omega) h
  | at_ q g =>
    simp only [okF] at hf
    simp only [dep] at hd
    simp only [pl] at hpl
    simp [T_after_there, enc]
    refine ⟨by omega, s_aat_i rfl (c.sub hf.2 hf.1 (by simp [pl]) (by simp [Cw])) (by omega) ?_⟩
    exact h
  | _ =>
    have h2 := s_simple_i (Q := Q) c hd (by rw [simple_there (by trivial)]; exact h)
    simp [T_after_there, enc] at h2 ⊢
    exact h2
theorem Cd.tru {t p : Path} {f : Fm} (c : Cd t p f) : Cd t p .tru := ⟨c.ot, c.tl, c.op, c.sm, trivial, by have := c.l; simp only [pl]; omega, by simp [Cw]⟩
theorem pure_after_at (d : Nat) : ∀ ss Q, s_aat (d + 1) ss Q → T_after_at (s_there (d + 1)) (s_simple (d + 1)) s_both { nx := fun _ => Q (.d .non), rt := Q } (ss.map some ++ List.replicate 0 none) := by
  rintro ss Q ⟨t, p, f, rfl, c, hd, h⟩
  have w1 := wt_simple0 t p .tru
  have w2 := wt_there c.sm f c.ff p
  have w3 := c.w
  have e := s_simple_i (d := d + 1) (t := t) (p := p) (f := .tru) (Q := fun x => s_there (d + 1) [.d (prim t), .d (encP p), .d (enc f)] fun y => match datas [x, y] with
    | some ds => ds.length ≤ 1000000 ∧ nsrcD ds ∧ s_both [.lst ds] Q
    | none => False) c.tru (by simp [dep]) (s_there_i c hd (by
      simp
      rw [simple_tru]
      exact s_both_i (fs := [simple0 t p .tru, there t f p]) rfl (by simp only [wtL, wt] at w1 ⊢; omega) h))
  simp only [enc] at e
  simp [T_after_at]
  exact e
/-! ### the whole: rewritten, before_primitive -/
def s_held_before : SD := fun ss Q => ∃ t f, ss = [.d (prim t), .d (enc (.held f))] ∧ Q (.d (enc (.held f)))
theorem pure_held_before : ∀ ss Q, s_held_before ss Q → T_held_before s_at { nx := fun _ => Q (.d .non), rt := Q } (ss.map some ++ List.replicate 1 none) := by
  rintro ss Q ⟨t, f, rfl, h⟩
  simpa [T_held_before, prim, enc] using h
namespace Fm
mutual
def Cr : Fm → Nat
  | .neg f => Cr f + 1
  | .conj fs => CrL fs + 1
  | .disj fs => CrL fs + 1
  | .held f => wt f + 1
  | .at_ p f => Cw (.at_ p f) + 4
  | .eachItem n f => Cw (.eachItem n f) + 4
  | .eachField ns f => Cw (.eachField ns f) + 4
  | .tru => 7
  | .fls => 7
  | .kind _ => 7
  | .intFrom _ => 7
  | .boolIs _ => 7
  | .textIs _ => 7
  | .textFrom _ => 7
  | .itemsFrom _ => 7
def CrL : List Fm → Nat
  | [] => 0
  | f :: r => Cr f + CrL r
end
theorem CrL_mem {f : Fm} : ∀ {fs : List Fm}, f ∈ fs → Cr f ≤ CrL fs
  | g :: r, h => by
    simp only [CrL]
    rcases List.mem_cons.mp h with rfl | h
    · omega
    · have := CrL_mem h; omega
mutual
theorem wt_rewr {t : Path} (ht : small t) : ∀ f : Fm, okF false f → wt (rewr t f) ≤ Cr f
  | .neg f, h => by
    have := wt_rewr ht f (by simpa [okF] using h)
    have := wt_no (rewr t f)
    simp only [rewr, Cr]; omega
  | .conj fs, h => by
    have := wt_rewrs ht fs (by simpa [okF] using h)
    have := wt_both (rewrs t fs)
    simp only [rewr, Cr]; omega
  | .disj fs, h => by
    have := wt_rewrs ht fs (by simpa [okF] using h)
    have := wt_oneOf (rewrs t fs)
    simp only [rewr, Cr]; omega
  | .held f, h => by simp [rewr, Cr, wt]
  | .at_ p f, h => by have := wt_afterAt ht (f := .at_ p f) (by simpa [okF] using h) []; simp only [rewr, Cr]; omega
  | .eachItem n f, h => by have := wt_afterAt ht (f := .eachItem n f) (by simpa [okF] using h) []; simp only [rewr, Cr]; omega
  | .eachField ns f, h => by have := wt_afterAt ht (f := .eachField ns f) (by simpa [okF] using h) []; simp only [rewr, Cr]; omega
  | .tru, h => by have := wt_afterAt ht (f := .tru) (by simpa [okF] using h) []; simp only [rewr, Cr, Cw] at *; omega
  | .fls, h => by have := wt_afterAt ht (f := .fls) (by simpa [okF] using h) []; simp only [rewr, Cr, Cw] at *; omega
  | .kind k, h => by have := wt_afterAt ht (f := .kind k) (by simpa [okF] using h) []; simp only [rewr, Cr, Cw] at *; omega
  | .intFrom k, h => by have := wt_afterAt ht (f := .intFrom k) (by simpa [okF] using h) []; simp only [rewr, Cr, Cw] at *; omega
  | .boolIs k, h => by have := wt_afterAt ht (f := .boolIs k) (by simpa [okF] using h) []; simp only [rewr, Cr, Cw] at *; omega
  | .textIs k, h => by have := wt_afterAt ht (f := .textIs k) (by simpa [okF] using h) []; simp only [rewr, Cr, Cw] at *; omega
  | .textFrom k, h => by have := wt_afterAt ht (f := .textFrom k) (by simpa [okF] using h) []; simp only [rewr, Cr, Cw] at *; omega
  | .itemsFrom k, h => by have := wt_afterAt ht (f := .itemsFrom k) (by simpa [okF] using h) []; simp only [rewr, Cr, Cw] at *; omega
theorem wt_rewrs {t : Path} (ht : small t) : ∀ fs : List Fm, okFs false fs → wtL (rewrs t fs) ≤ CrL fs
  | [], _ => by simp [rewrs, wtL]
  | f :: r, h => by
    have h1 := wt_rewr ht f (by simp only [okFs] at h; exact h.1)
    have h2 := wt_rewrs ht r (by simp only [okFs] at h; exact h.2)
    simp only [rewrs, wtL, CrL]; omega
end
end Fm
structure Cb (t : Path) (f : Fm) : Prop where
  ot : ∀ x ∈ t, okTok x
  tl : t.length ≤ 900
  sm : small t
  ff : okF false f
  l : pl f ≤ 900
  w : Cr f ≤ 800000
theorem Cb.cd {t : Path} {f : Fm} (c : Cb t f) (hf : okF true f) (hw : Cw f ≤ Cr f) : Cd t [] f := ⟨c.ot, c.tl, fun _ z => (nomatch z), c.sm, hf, by have := c.l; simpa using this, Nat.le_trans hw c.w⟩
def s_rew (d : Nat) : SD := fun ss Q => ∃ t f, ss = [.d (prim t), .d (enc f)] ∧ Cb t f ∧ dep f ≤ d ∧ Q (.d (enc (rewr t f)))
theorem s_rew_i {d : Nat} {t : Path} {f : Fm} {Q : S → Prop} (c : Cb t f) (hd : dep f ≤ d) (h : Q (.d (enc (rewr t f)))) : s_rew d [.d (prim t), .d (enc f)] Q := ⟨t, f, rfl, c, hd, h⟩
theorem Cb.sub {t : Path} {f g : Fm} (c : Cb t f) (hg : okF false g) (hl : pl g ≤ pl f) (hw : Cr g ≤ Cr f) : Cb t g := ⟨c.ot, c.tl, c.sm, hg, Nat.le_trans hl c.l, Nat.le_trans hw c.w⟩
theorem pure_rewritten (d : Nat) : ∀ ss Q, s_rew (d + 1) ss Q → T_rewritten (s_aat (d + 1)) s_held_before (s_rew d) s_one_of s_both s_no { nx := fun _ => Q (.d .non), rt := Q } (ss.map some ++ List.replicate 2 none) := by
  rintro ss Q ⟨t, f, rfl, c, hd, h⟩
  have hf := c.ff
  have hw := c.w
  have hpl := c.l
  have leaf : ∀ {Q : S → Prop}, okF true f → Cw f ≤ Cr f → Q (.d (enc (afterAt t f []))) → s_aat (d + 1) [.d (prim t), .d (.tup []), .d (enc f)] Q := fun h1 h2 q => s_aat_i (p := []) rfl (c.cd h1 h2) hd q
  cases f with
  | neg g =>
    simp only [okF] at hf
    simp only [dep] at hd
    simp only [rewr] at h
    simp [T_rewritten, enc]
    exact s_rew_i (c.sub hf (by simp [pl]) (by simp [Cr])) (by omega) (s_no_i h)
  | conj fs =>
    simp only [okF] at hf
    simp only [dep] at hd
    simp only [Cr] at hw
    simp only [rewr, rewrs_map] at h
    have hb := wt_rewrs c.sm fs hf
    rw [rewrs_map] at hb
    have hn := wtL_len (fs.map fun f => rewr t f)
    rw [List.length_map] at hn
    simp [T_rewritten, enc, encL_map]
    refine lcD_mapA enc (fun f => enc (rewr t f)) (fun _ _ => noInt_enc _) (fun g hg Q q => ?_) (by simp; omega) ?_
    · simp [E_rewritten_2]
      have := depL_mem hg
      exact s_rew_i (c.sub (okFs_iff.mp hf g hg) (by simp only [pl]; exact plL_mem hg) (by simp only [Cr]; have := CrL_mem hg; omega)) (by omega) q
    · exact s_both_i (by simp) (by omega) h
  | disj fs =>
    simp only [okF] at hf
    simp only [dep] at hd
    simp only [Cr] at hw
    simp only [rewr, rewrs_map] at h
    have hb := wt_rewrs c.sm fs hf
    rw [rewrs_map] at hb
    have hn := wtL_len (fs.map fun f => rewr t f)
    rw [List.length_map] at hn
    simp [T_rewritten, enc, encL_map]
    refine lcD_mapA enc (fun f => enc (rewr t f)) (fun _ _ => noInt_enc _) (fun g hg Q q => ?_) (by simp; omega) ?_
    · simp [E_rewritten_1]
      have := depL_mem hg
      exact s_rew_i (c.sub (okFs_iff.mp hf g hg) (by simp only [pl]; exact plL_mem hg) (by simp only [Cr]; have := CrL_mem hg; omega)) (by omega) q
    · exact s_one_i (by simp) (by omega) h
  | held g =>
    simp only [rewr] at h
    simp [T_rewritten, enc]
    exact ⟨t, g, by simp [enc], by simpa [enc] using h⟩
  | _ =>
    simp only [rewr] at h
    have h2 := leaf (Q := Q) (by simpa [okF] using hf) (by simp [Cr, Cw]) h
    simp [T_rewritten, enc] at h2 ⊢
    exact h2
def s_success : SD := fun ss Q => ∃ t, ss = [.d (prim t)] ∧ t.length ≤ 900 ∧ Q (.d (enc (at' t .tru)))
theorem pure_success : ∀ ss Q, s_success ss Q → T_success_of s_at s_one_of { nx := fun _ => Q (.d .non), rt := Q } (ss.map some ++ List.replicate 3 none) := by
  rintro ss Q ⟨t, rfl, ht, h⟩
  have e := s_at_i (p := t) (f := .tru) (Q := Q) rfl (by omega) (by simp [lenAt]) h
  simp [T_success_of, prim, enc] at e ⊢
  exact e
def s_before (d : Nat) : SD := fun ss Q => ∃ t f, ss = [.d (prim t), .d (enc f)] ∧ Cb t f ∧ dep f ≤ d ∧ Q (.d (enc (before t f)))
theorem pure_before (d : Nat) : ∀ ss Q, s_before d ss Q → T_before_primitive (s_rew d) s_success s_both { nx := fun _ => Q (.d .non), rt := Q } (ss.map some ++ List.replicate 0 none) := by
  rintro ss Q ⟨t, f, rfl, c, hd, h⟩
  have w1 := wt_at t .tru
  have w2 := wt_rewr c.sm f c.ff
  have w3 := c.w
  have e : s_success [.d (prim t)] fun x => s_rew d [.d (prim t), .d (enc f)] fun y => match datas [x, y] with
    | some ds => ds.length ≤ 1000000 ∧ nsrcD ds ∧ s_both [.lst ds] Q
    | none => False := ⟨t, rfl, c.tl, s_rew_i c hd (by
      simp
      exact s_both_i (fs := [at' t .tru, rewr t f]) rfl (by simp only [wtL, wt] at w1 ⊢; omega) h)⟩
  simp [T_before_primitive, prim] at e ⊢
  exact e
end Pk

/-! ## M5 -/
set_option Elab.async false
set_option linter.all false
set_option maxRecDepth 100000
set_option maxHeartbeats 4000000
namespace Pk
open PySem L2 Fm
/-- well formed, of some depth and length at most -/
def gd (pl : Bool) (d l : Nat) (f : Fm) : Prop := okF pl f ∧ dep f ≤ d ∧ Fm.pl f ≤ l
def gdL (pl : Bool) (d l : Nat) (fs : List Fm) : Prop := ∀ f ∈ fs, gd pl d l f
theorem gd.mono {pl : Bool} {d l d' l' : Nat} {f : Fm} (h : gd pl d l f) (h1 : d ≤ d') (h2 : l ≤ l') : gd pl d' l' f := ⟨h.1, Nat.le_trans h.2.1 h1, Nat.le_trans h.2.2 h2⟩
theorem gd_conj {pl : Bool} {d l : Nat} {fs : List Fm} : gd pl (d + 1) l (.conj fs) ↔ gdL pl d l fs := by
  constructor
  · rintro ⟨h1, h2, h3⟩ f hf
    simp only [okF] at h1
    simp only [dep] at h2
    simp only [Fm.pl] at h3
    have := depL_mem hf
    have := plL_mem hf
    exact ⟨okFs_iff.mp h1 f hf, by omega, by omega⟩
  · intro h
    refine ⟨okFs_iff.mpr fun f hf => (h f hf).1, ?_, ?_⟩
    · have : depL fs ≤ d := by
        induction fs with
        | nil => simp [depL]
        | cons f r ih =>
          have := ih fun g hg => h g (by simp [hg])
          have := (h f (by simp)).2.1
          simp only [depL]; omega
      simp only [dep]; omega
    · have : plL fs ≤ l := by
        induction fs with
        | nil => simp [plL]
        | cons f r ih =>
          have := ih fun g hg => h g (by simp [hg])
          have := (h f (by simp)).2.2
          simp only [plL]; omega
      simp only [Fm.pl]; omega
theorem gd_disj {pl : Bool} {d l : Nat} {fs : List Fm} : gd pl (d + 1) l (.disj fs) ↔ gdL pl d l fs := by
  have e : gd pl (d + 1) l (.disj fs) ↔ gd pl (d + 1) l (.conj fs) := by simp only [gd, okF, dep, Fm.pl]
  rw [e, gd_conj]
theorem gd_no {pl : Bool} {d l : Nat} {f : Fm} (h : gd pl d l f) : gd pl (d + 1) l (no f) := by
  cases f with
  | tru => exact ⟨trivial, by simp [no, dep], by simp [no, Fm.pl]⟩
  | fls => exact ⟨trivial, by simp [no, dep], by simp [no, Fm.pl]⟩
  | neg g =>
    obtain ⟨h1, h2, h3⟩ := h
    simp only [dep] at h2
    exact ⟨h1, by simp only [no]; omega, h3⟩
  | _ => exact ⟨h.1, by have := h.2.1; simp only [no, dep] at *; omega, h.2.2⟩
theorem gd_bothP {pl : Bool} {d l : Nat} : ∀ fs ps : List Fm, bothP fs = some ps → gdL pl d l fs → gdL pl d l ps
  | [], ps, e, h => by cases e; exact h
  | f :: r, ps, e, h => by
    have ih := gd_bothP (pl := pl) (d := d) (l := l) r
    have hr : gdL pl d l r := fun g hg => h g (by simp [hg])
    have hf := h f (by simp)
    cases f with
    | fls => cases e
    | tru => exact ih ps e hr
    | conj gs =>
      obtain ⟨qs, e1, rfl⟩ := Option.map_eq_some_iff.mp (show (bothP r).map (gs ++ ·) = some ps from e)
      have h1 := gd_conj.mp (hf.mono (Nat.le_succ d) (Nat.le_refl l))
      intro g hg
      rcases List.mem_append.mp hg with hg | hg
      · exact h1 g hg
      · exact ih qs e1 hr g hg
    | _ =>
      obtain ⟨qs, e1, rfl⟩ := Option.map_eq_some_iff.mp e
      intro g hg
      rcases List.mem_cons.mp hg with rfl | hg
      · exact hf
      · exact ih qs e1 hr g hg
theorem gd_both {pl : Bool} {d l : Nat} {fs : List Fm} (h : gdL pl d l fs) : gd pl (d + 1) l (both fs) := by
  unfold both
  cases e : bothP fs with
  | none => exact ⟨trivial, by simp [dep], by simp [Fm.pl]⟩
  | some ps =>
    have hp := gd_bothP fs ps e h
    match ps, hp with
    | [], _ => exact ⟨trivial, by simp [wrapC, dep], by simp [wrapC, Fm.pl]⟩
    | [f], hp => exact (hp f (by simp)).mono (Nat.le_succ d) (Nat.le_refl l)
    | f :: g :: r, hp => exact gd_conj.mpr hp
theorem gd_oneP {pl : Bool} {d l : Nat} : ∀ fs ps : List Fm, oneP fs = some ps → gdL pl d l fs → gdL pl d l ps
  | [], ps, e, h => by cases e; exact h
  | f :: r, ps, e, h => by
    have ih := gd_oneP (pl := pl) (d := d) (l := l) r
    have hr : gdL pl d l r := fun g hg => h g (by simp [hg])
    have hf := h f (by simp)
    cases f with
    | tru => cases e
    | fls => exact ih ps e hr
    | disj gs =>
      obtain ⟨qs, e1, rfl⟩ := Option.map_eq_some_iff.mp (show (oneP r).map (gs ++ ·) = some ps from e)
      have h1 := gd_disj.mp (hf.mono (Nat.le_succ d) (Nat.le_refl l))
      intro g hg
      rcases List.mem_append.mp hg with hg | hg
      · exact h1 g hg
      · exact ih qs e1 hr g hg
    | _ =>
      obtain ⟨qs, e1, rfl⟩ := Option.map_eq_some_iff.mp e
      intro g hg
      rcases List.mem_cons.mp hg with rfl | hg
      · exact hf
      · exact ih qs e1 hr g hg
theorem gd_one {pl : Bool} {d l : Nat} {fs : List Fm} (h : gdL pl d l fs) : gd pl (d + 1) l (oneOf fs) := by
  unfold oneOf
  cases e : oneP fs with
  | none => exact ⟨trivial, by simp [dep], by simp [Fm.pl]⟩
  | some ps =>
    have hp := gd_oneP fs ps e h
    match ps, hp with
    | [], _ => exact ⟨trivial, by simp [wrapD, dep], by simp [wrapD, Fm.pl]⟩
    | [f], hp => exact (hp f (by simp)).mono (Nat.le_succ d) (Nat.le_refl l)
    | f :: g :: r, hp => exact gd_disj.mpr hp
theorem gd_at {b : Bool} {d l : Nat} {p : Path} {f : Fm} (h : gd true d l f) (hp : ∀ t ∈ p, okTok t) (hb : gd b d l f) : gd b (d + 1) (p.length + l) (at' p f) := by
  obtain ⟨h1, h2, h3⟩ := h
  unfold at'
  split
  · rename_i e; subst e; exact hb.mono (by omega) (by omega)
  · split
    · exact ⟨trivial, by simp [dep], by simp [Fm.pl]⟩
    · rename_i q g
      simp only [okF] at h1
      simp only [dep] at h2
      simp only [Fm.pl] at h3
      exact ⟨⟨fun t ht => by
        rcases List.mem_append.mp ht with ht | ht
        · exact hp t ht
        · exact h1.1 t ht, h1.2⟩, by simp only [dep]; omega, by simp only [Fm.pl, List.length_append]; omega⟩
    · exact ⟨⟨hp, h1⟩, by simp only [dep]; omega, by simp only [Fm.pl]; omega⟩
theorem ok_up' : ∀ f : Fm, okF true f → okF false f := by
  have key : ∀ n, ∀ f : Fm, sizeOf f ≤ n → okF true f → okF false f := by
    intro n
    induction n with
    | zero => intro f hf; cases f <;> simp at hf
    | succ n ih =>
      intro f hf h
      cases f with
      | neg f => simp only [okF] at h ⊢; exact ih f (by simp at hf; omega) h
      | conj fs =>
        simp only [okF] at h ⊢
        exact okFs_iff.mpr fun g hg => ih g (by have := List.sizeOf_lt_of_mem hg; simp at hf; omega) (okFs_iff.mp h g hg)
      | disj fs =>
        simp only [okF] at h ⊢
        exact okFs_iff.mpr fun g hg => ih g (by have := List.sizeOf_lt_of_mem hg; simp at hf; omega) (okFs_iff.mp h g hg)
      | held g => simp only [okF] at h; exact absurd h.1 (by decide)
      | _ => exact h
  exact fun f => key _ f (Nat.le_refl _)
theorem gd.up {d l : Nat} {f : Fm} (h : gd true d l f) : gd false d l f := ⟨ok_up' f h.1, h.2⟩
theorem gd_atP {d l : Nat} {p : Path} {f : Fm} (h : gd true d l f) (hp : ∀ t ∈ p, okTok t) : gd true (d + 1) (p.length + l) (at' p f) := gd_at h hp h
theorem gd_held {d l : Nat} {f : Fm} (h : gd true d l f) : gd false (d + 1) l (ofHeld f) := by
  cases f with
  | tru => exact ⟨trivial, by simp [ofHeld, dep], by simp [ofHeld, Fm.pl]⟩
  | fls => exact ⟨trivial, by simp [ofHeld, dep], by simp [ofHeld, Fm.pl]⟩
  | _ => exact ⟨⟨rfl, h.1⟩, by have := h.2.1; simp only [ofHeld, dep] at *; omega, h.2.2⟩
theorem gd_swap {d l : Nat} {t p : Path} {f : Fm} (h : gd true d l f) (hp : ∀ t ∈ p, okTok t) : gd false (d + 2) (p.length + l) (afterSwap t p f) := by
  unfold afterSwap
  split
  · exact (gd_held (gd_atP (p := p.drop t.length) h fun t z => hp t (List.mem_of_mem_drop z))).mono (Nat.le_refl _) (by simp)
  · exact ((gd_atP h hp).up).mono (by omega) (Nat.le_refl _)
theorem gd_simple0 {d l : Nat} {t p : Path} {f : Fm} (h : gd true d l f) (hp : ∀ t ∈ p, okTok t) : gd false (d + 2) (p.length + l) (simple0 t p f) := by
  unfold simple0
  split
  · exact ((gd_atP h hp).up).mono (by omega) (Nat.le_refl _)
  · exact gd_swap h hp
theorem gd_tru {d l : Nat} : gd true (d + 1) l .tru := ⟨trivial, by simp [dep], by simp [Fm.pl]⟩
theorem gdL2 {b : Bool} {d l : Nat} {f g : Fm} (h1 : gd b d l f) (h2 : gd b d l g) : gdL b d l [f, g] := fun x hx => by
  rcases List.mem_cons.mp hx with rfl | hx
  · exact h1
  · have e : x = g := by simpa using hx
    rw [e]; exact h2
theorem tok_snoc {p : Path} {t : Tok} (h : ∀ t ∈ p, okTok t) (ht : okTok t) : ∀ x ∈ p ++ [t], okTok x := fun x hx => by
  rcases List.mem_append.mp hx with hx | hx
  · exact h x hx
  · have e : x = t := by simpa using hx
    rw [e]; exact ht
mutual
theorem gd_there {t : Path} (ht : ∀ x ∈ t, okTok x) : ∀ f : Fm, okF true f → ∀ p : Path, (∀ x ∈ p, okTok x) → gd false (3 * dep f + 3) (p.length + Fm.pl f) (there t f p)
  | .fls, _, p, hp => ⟨trivial, by simp [there, dep], by simp [there, Fm.pl]⟩
  | .neg f, o, p, hp => by
    have := gd_there ht f (by simpa only [okF] using o) p hp
    simp only [there, dep, Fm.pl]
    exact (gd_no this).mono (by omega) (Nat.le_refl _)
  | .conj fs, o, p, hp => by
    have := gd_theres ht fs (by simpa only [okF] using o) p hp
    simp only [there, dep, Fm.pl]
    exact (gd_both this).mono (by omega) (Nat.le_refl _)
  | .disj fs, o, p, hp => by
    have := gd_theres ht fs (by simpa only [okF] using o) p hp
    simp only [there, dep, Fm.pl]
    exact (gd_one this).mono (by omega) (Nat.le_refl _)
  | .at_ q f, o, p, hp => by
    simp only [okF] at o
    have hq : ∀ x ∈ p ++ q, okTok x := fun x hx => by
      rcases List.mem_append.mp hx with hx | hx
      · exact hp x hx
      · exact o.1 x hx
    have h1 := gd_there ht f o.2 (p ++ q) hq
    have h2 := gd_simple0 (t := t) (gd_tru (d := 0) (l := 0)) hq
    simp only [there, dep, Fm.pl]
    have hl : (p ++ q).length = p.length + q.length := List.length_append
    exact (gd_both (gdL2 (h2.mono (d' := 3 * dep f + 3) (by omega) (l' := p.length + (q.length + Fm.pl f)) (by omega)) (h1.mono (Nat.le_refl _) (by omega)))).mono (by omega) (Nat.le_refl _)
  | .eachItem n f, o, p, hp => by
    have o2 := o
    simp only [okF] at o
    have self : gd true (dep f + 1) (Fm.pl f + 1) (.eachItem n f) := ⟨o2, by simp only [dep]; omega, by simp only [Fm.pl]; omega⟩
    simp only [there, dep, Fm.pl]
    split
    · split
      · rename_i m em
        have hm := ht _ (List.mem_of_getElem? em)
        simp only [okTok] at hm
        split
        · have hq := tok_snoc (t := .i m) hp hm
          have h1 := gd_there ht f o.2 (p ++ [.i m]) hq
          have h2 := gd_simple0 (t := t) (gd_tru (d := 0) (l := 0)) hq
          have hl : (p ++ [Tok.i m]).length = p.length + 1 := by simp
          have h3 := gd_both (gdL2 (h2.mono (d' := 3 * dep f + 3) (by omega) (l' := p.length + (Fm.pl f + 1)) (by omega)) (h1.mono (Nat.le_refl _) (by omega)))
          have h4 : gd true (dep f + 1) (Fm.pl f + 1) (.eachItem (m + 1) f) := ⟨⟨by omega, o.2⟩, by simp only [dep]; omega, by simp only [Fm.pl]; omega⟩
          have h5 := (gd_atP h4 hp).up
          refine (gd_both (d := 3 * dep f + 4) (l := p.length + (Fm.pl f + 1)) fun x hx => ?_).mono (by omega) (Nat.le_refl _)
          rcases List.mem_append.mp hx with hx | hx
          · unfold items at hx
            obtain ⟨j, hj, rfl⟩ := List.mem_map.mp hx
            have h6 : gd true (dep f) (Fm.pl f) f := ⟨o.2, Nat.le_refl _, Nat.le_refl _⟩
            have h7 := (gd_atP h6 (tok_snoc (t := .i (n + j)) hp (by simp only [okTok]; omega))).up
            have hl : (p ++ [Tok.i (n + (j : Int))]).length = p.length + 1 := by simp
            exact h7.mono (by omega) (by omega)
          · exact gdL2 h3 (h5.mono (by omega) (by omega)) x hx
        · exact ((gd_atP self hp).up).mono (by omega) (by omega)
      · exact ((gd_atP self hp).up).mono (by omega) (by omega)
    · exact (gd_swap self hp).mono (by omega) (by omega)
  | .eachField ns f, o, p, hp => by
    have o2 := o
    simp only [okF] at o
    have self : gd true (dep f + 1) (Fm.pl f + 1) (.eachField ns f) := ⟨o2, by simp only [dep]; omega, by simp only [Fm.pl]; omega⟩
    simp only [there, dep, Fm.pl]
    split
    · split
      · rename_i z ez
        have hz : okTok (.s z) := ht _ (List.mem_of_getElem? ez)
        split
        · have hq := tok_snoc hp hz
          have h1 := gd_there ht f o.2 (p ++ [.s z]) hq
          have h2 := gd_simple0 (t := t) (gd_tru (d := 0) (l := 0)) hq
          have hl : (p ++ [Tok.s z]).length = p.length + 1 := by simp
          have h3 := gd_both (gdL2 (h2.mono (d' := 3 * dep f + 3) (by omega) (l' := p.length + (Fm.pl f + 1)) (by omega)) (h1.mono (Nat.le_refl _) (by omega)))
          have h4 : gd true (dep f + 1) (Fm.pl f + 1) (.eachField (ns ++ [z]) f) := ⟨⟨fun y hy => by
            rcases List.mem_append.mp hy with hy | hy
            · exact o.1 y hy
            · have e : y = z := by simpa using hy
              rw [e]; exact hz, o.2⟩, by simp only [dep]; omega, by simp only [Fm.pl]; omega⟩
          have h5 := (gd_atP h4 hp).up
          exact (gd_both (gdL2 h3 (h5.mono (by omega) (by omega)))).mono (by omega) (Nat.le_refl _)
        · exact ((gd_atP self hp).up).mono (by omega) (by omega)
      · exact ((gd_atP self hp).up).mono (by omega) (by omega)
    · exact (gd_swap self hp).mono (by omega) (by omega)
  | .tru, o, p, hp => by simp only [there]; exact (gd_simple0 (d := 1) (l := 0) ⟨o, by simp [dep], by simp [Fm.pl]⟩ hp).mono (by simp [dep]) (by simp)
  | .kind k, o, p, hp => by simp only [there]; exact (gd_simple0 (d := 1) (l := 0) ⟨o, by simp [dep], by simp [Fm.pl]⟩ hp).mono (by simp [dep]) (by simp)
  | .intFrom k, o, p, hp => by simp only [there]; exact (gd_simple0 (d := 1) (l := 0) ⟨o, by simp [dep], by simp [Fm.pl]⟩ hp).mono (by simp [dep]) (by simp)
  | .boolIs k, o, p, hp => by simp only [there]; exact (gd_simple0 (d := 1) (l := 0) ⟨o, by simp [dep], by simp [Fm.pl]⟩ hp).mono (by simp [dep]) (by simp)
  | .textIs k, o, p, hp => by simp only [there]; exact (gd_simple0 (d := 1) (l := 0) ⟨o, by simp [dep], by simp [Fm.pl]⟩ hp).mono (by simp [dep]) (by simp)
  | .textFrom k, o, p, hp => by simp only [there]; exact (gd_simple0 (d := 1) (l := 0) ⟨o, by simp [dep], by simp [Fm.pl]⟩ hp).mono (by simp [dep]) (by simp)
  | .itemsFrom k, o, p, hp => by simp only [there]; exact (gd_simple0 (d := 1) (l := 0) ⟨o, by simp [dep], by simp [Fm.pl]⟩ hp).mono (by simp [dep]) (by simp)
  | .held f, o, p, hp => by simp only [okF] at o; exact absurd o.1 (by decide)
theorem gd_theres {t : Path} (ht : ∀ x ∈ t, okTok x) : ∀ fs : List Fm, okFs true fs → ∀ p : Path, (∀ x ∈ p, okTok x) → gdL false (3 * depL fs + 3) (p.length + plL fs) (theres t fs p)
  | [], _, p, hp => by simp only [theres]; exact fun _ z => nomatch z
  | f :: r, o, p, hp => by
    simp only [okFs] at o
    have h1 := gd_there ht f o.1 p hp
    have h2 := gd_theres ht r o.2 p hp
    simp only [theres, depL, plL]
    intro x hx
    rcases List.mem_cons.mp hx with rfl | hx
    · exact h1.mono (by omega) (by omega)
    · exact (h2 x hx).mono (by omega) (by omega)
end
theorem gd_afterAt {t : Path} (ht : ∀ x ∈ t, okTok x) {f : Fm} (o : okF true f) : gd false (3 * dep f + 4) (Fm.pl f) (afterAt t f []) := by
  have hp : ∀ x ∈ ([] : Path), okTok x := fun _ z => nomatch z
  have h1 := gd_there ht f o [] hp
  have h2 := gd_simple0 (t := t) (gd_tru (d := 0) (l := 0)) hp
  unfold afterAt
  exact (gd_both (gdL2 (h2.mono (d' := 3 * dep f + 3) (by omega) (l' := Fm.pl f) (by simp)) (h1.mono (Nat.le_refl _) (by simp))))
mutual
theorem gd_rewr {t : Path} (ht : ∀ x ∈ t, okTok x) : ∀ f : Fm, okF false f → gd false (3 * dep f + 4) (Fm.pl f) (rewr t f)
  | .neg f, o => by
    have := gd_rewr ht f (by simpa only [okF] using o)
    simp only [rewr, dep, Fm.pl]
    exact (gd_no this).mono (by omega) (Nat.le_refl _)
  | .conj fs, o => by
    have := gd_rewrs ht fs (by simpa only [okF] using o)
    simp only [rewr, dep, Fm.pl]
    exact (gd_both this).mono (by omega) (Nat.le_refl _)
  | .disj fs, o => by
    have := gd_rewrs ht fs (by simpa only [okF] using o)
    simp only [rewr, dep, Fm.pl]
    exact (gd_one this).mono (by omega) (Nat.le_refl _)
  | .held f, o => by simp only [rewr]; exact ⟨o, by omega, Nat.le_refl _⟩
  | .tru, o => by simp only [rewr]; exact gd_afterAt ht o
  | .fls, o => by simp only [rewr]; exact gd_afterAt ht o
  | .at_ q f, o => by simp only [rewr]; exact gd_afterAt ht (by simp only [okF] at o ⊢; exact o)
  | .kind k, o => by simp only [rewr]; exact gd_afterAt ht (by simp only [okF] at o ⊢; exact o)
  | .intFrom k, o => by simp only [rewr]; exact gd_afterAt ht (by simp only [okF])
  | .boolIs k, o => by simp only [rewr]; exact gd_afterAt ht (by simp only [okF])
  | .textIs k, o => by simp only [rewr]; exact gd_afterAt ht (by simp only [okF] at o ⊢; exact o)
  | .textFrom k, o => by simp only [rewr]; exact gd_afterAt ht (by simp only [okF] at o ⊢; exact o)
  | .itemsFrom k, o => by simp only [rewr]; exact gd_afterAt ht (by simp only [okF] at o ⊢; exact o)
  | .eachItem n f, o => by simp only [rewr]; exact gd_afterAt ht (by simp only [okF] at o ⊢; exact o)
  | .eachField ns f, o => by simp only [rewr]; exact gd_afterAt ht (by simp only [okF] at o ⊢; exact o)
theorem gd_rewrs {t : Path} (ht : ∀ x ∈ t, okTok x) : ∀ fs : List Fm, okFs false fs → gdL false (3 * depL fs + 4) (plL fs) (rewrs t fs)
  | [], _ => by simp only [rewrs]; exact fun _ z => nomatch z
  | f :: r, o => by
    simp only [okFs] at o
    have h1 := gd_rewr ht f o.1
    have h2 := gd_rewrs ht r o.2
    simp only [rewrs, depL, plL]
    intro x hx
    rcases List.mem_cons.mp hx with rfl | hx
    · exact h1.mono (by omega) (by omega)
    · exact (h2 x hx).mono (by omega) (by omega)
end
theorem gd_before {t : Path} (ht : ∀ x ∈ t, okTok x) {f : Fm} (o : okF false f) : gd false (3 * dep f + 5) (t.length + Fm.pl f) (before t f) := by
  unfold before
  have h1 := (gd_atP (gd_tru (d := 0) (l := 0)) ht).up
  have h2 := gd_rewr ht f o
  exact gd_both (gdL2 (h1.mono (by omega) (by omega)) (h2.mono (Nat.le_refl _) (by omega)))
theorem wt_before {t : Path} (ht : small t) {f : Fm} (o : okF false f) : wt (before t f) ≤ Cr f + 3 := by
  have h1 := wt_rewr ht f o
  have h2 := wt_at t .tru
  have h3 := wt_both [at' t .tru, rewr t f]
  unfold before
  simp only [wtL, wt] at h2 h3
  omega
end Pk

/-! ## P3 -/
set_option Elab.async false
set_option linter.all false
set_option maxRecDepth 100000
set_option maxHeartbeats 4000000
namespace Pk
open PySem L2
/-- a value or None -/
def oV : Option Val → S
  | some v => .d (encV v)
  | none => .d .non
@[simp] theorem oV_some (v : Val) : oV (some v) = .d (encV v) := rfl
@[simp] theorem oV_none : oV none = .d .non := rfl
@[simp] theorem isN_oV (o : Option Val) : isN (oV o) = o.isNone := by cases o <;> simp
@[simp] theorem view_oV (o : Option Val) : view (oV o) = oV o := by cases o <;> rfl
@[simp] theorem stor_oV (o : Option Val) : stor (oV o) = True := by cases o <;> rfl
def s_child : SD := fun ss Q => ∃ v t, ss = [.d (encV v), .d (encT t)] ∧ Q (oV (child v t))
theorem s_child_i {v : Val} {t : Tok} {Q : S → Prop} (h : Q (oV (child v t))) : s_child [.d (encV v), .d (encT t)] Q := ⟨v, t, rfl, h⟩
theorem loop_child (a : S) (z : Str) (DD : EndsD) : ∀ (fs : List (Str × Val)) (x : Option S), (match (fs.find? fun f => f.1 = z).map (·.2) with
      | some c => DD.rt (.d (encV c))
      | none => ∀ y, DD.nx [some a, some (.d (.str z)), y]) → forD 2 B_child_1 DD (encFs fs) [some a, some (.d (.str z)), x]
  | [], x, h => by simpa [forD, encFs] using h x
  | (n, v) :: r, x, h => by
    by_cases e : n = z
    · simp [forD, encFs, encFd, B_child_1, e] at h ⊢
      exact h
    · have h' : (match (r.find? fun f => f.1 = z).map (·.2) with
        | some c => DD.rt (.d (encV c))
        | none => ∀ y, DD.nx [some a, some (.d (.str z)), y]) := by
        simpa [List.find?_cons, e] using h
      have ih := loop_child a z DD r (some (.d (encFd (n, v)))) h'
      simp [forD, encFs, encFd, B_child_1, e] at ih ⊢
      exact ih
theorem pure_child : ∀ ss Q, s_child ss Q → T_child { nx := fun _ => Q (.d .non), rt := Q } (ss.map some ++ List.replicate 1 none) := by
  rintro ss Q ⟨v, t, rfl, h⟩
  cases v with
  | list xs =>
    cases t with
    | i n =>
      simp [T_child, encV, encT, child, encVs_map] at h ⊢
      by_cases c : 0 ≤ n ∧ n < xs.length
      · obtain ⟨c1, c2⟩ := c
        obtain ⟨k, rfl⟩ : ∃ k : Nat, n = k := ⟨n.toNat, by omega⟩
        have hk : k < xs.length := by omega
        have e : atI (xs.map encV) (k : Int) = some (encV xs[k]) := atI_nat (by simp [hk])
        simp [c2, e]
        simpa [hk, oV] using h
      · rw [if_neg c] at h
        have h2 : Q (.d .non) := h
        by_cases c1 : 0 ≤ n
        · have c2 : ¬ n < xs.length := fun z => c ⟨c1, z⟩
          simp [c1, c2, h2]
        · simp [c1, h2]
    | s z =>
      have h2 : Q (.d .non) := h
      simp [T_child, encV, encT, h2]
  | obj fs =>
    cases t with
    | i n =>
      have h2 : Q (.d .non) := h
      simp [T_child, encV, encT, h2]
    | s z =>
      simp [T_child, encV, encT]
      refine loop_child _ z _ fs none ?_
      simp only [child] at h
      cases e : (fs.find? fun f => f.1 = z).map (·.2) with
      | some c => rw [e] at h; exact h
      | none => rw [e] at h; simpa [oV] using h
  | _ =>
    have h2 : Q (.d .non) := by cases t <;> exact h
    cases t <;> simp [T_child, encV, encT, h2]
def s_lookup : SD := fun ss Q => ∃ v p, ss = [.d (encV v), .d (encP p)] ∧ Q (oV (lookup v p))
theorem s_lookup_i {v : Val} {p : Path} {Q : S → Prop} (h : Q (oV (lookup v p))) : s_lookup [.d (encV v), .d (encP p)] Q := ⟨v, p, rfl, h⟩
theorem loop_lookup (a : S) (DD : EndsD) : ∀ (p : Path) (o : Option Val) (x : Option S), (∀ y, DD.nx [some (oV (o.bind fun v => lookup v p)), some a, y]) → forD 2 (B_lookup_1 s_child) DD (p.map encT) [some (oV o), some a, x]
  | [], o, x, h => by cases o <;> simpa [forD, lookup] using h x
  | t :: p, o, x, h => by
    cases o with
    | none =>
      have ih := loop_lookup a DD p none (some (.d (encT t))) (by simpa using h)
      simp [forD, B_lookup_1] at ih ⊢
      exact ih
    | some v =>
      have ih := loop_lookup a DD p (child v t) (some (.d (encT t))) (by simpa [lookup] using h)
      simp [forD, B_lookup_1] at ih ⊢
      exact s_child_i (by simpa using ih)
theorem pure_lookup : ∀ ss Q, s_lookup ss Q → T_lookup s_child { nx := fun _ => Q (.d .non), rt := Q } (ss.map some ++ List.replicate 1 none) := by
  rintro ss Q ⟨v, p, rfl, h⟩
  simp [T_lookup, encP]
  exact loop_lookup _ _ p (some v) none fun y => by simpa using h
theorem cutD_from1 (xs : List D) (k : Nat) : cutD xs (some ((k : Int) + 1)) none = xs.drop (k + 1) := cutD_from xs (k + 1)
/-! ### with -/
def szV : Val → Nat
  | .list xs => xs.length
  | .obj fs => fs.length
  | _ => 0
def s_with : SD := fun ss Q => ∃ v t w, ss = [.d (encV v), .d (encT t), .d (encV w)] ∧ fits v t ∧ szV v ≤ 900000 ∧ Q (.d (encV (withC v t w)))
theorem s_with_i {v w : Val} {t : Tok} {Q : S → Prop} (h1 : fits v t) (h2 : szV v ≤ 900000) (h : Q (.d (encV (withC v t w)))) : s_with [.d (encV v), .d (encT t), .d (encV w)] Q := ⟨v, t, w, rfl, h1, h2, h⟩
theorem pure_with : ∀ ss Q, s_with ss Q → T_with { nx := fun _ => Q (.d .non), rt := Q } (ss.map some ++ List.replicate 3 none) := by
  rintro ss Q ⟨v, t, w, rfl, hf, hs, h⟩
  cases v with
  | list xs =>
    cases t with
    | i n =>
      simp only [fits] at hf
      simp only [szV] at hs
      obtain ⟨k, rfl⟩ : ∃ k : Nat, n = k := ⟨n.toNat, by omega⟩
      simp [T_with, encV, encT, withC, encVs_map, cutD_to, cutD_from1] at h ⊢
      exact ⟨by omega, by omega, h⟩
    | s z => exact hf.elim
  | obj fs =>
    cases t with
    | s z =>
      simp only [szV] at hs
      have h1 := filter2_len fs z
      simp [T_with, encV, encT, withC, encFs_map] at h ⊢
      refine lcD_filterA encFd encFd (fun f => ltS f.1 z) (fun f _ => by cases f; simp [encFd]) (fun f hf Q q => ?_) (fun f hf Q q => ?_) (by simp; omega) ?_
      · cases f; simpa [C_with_2, encFd] using q
      · cases f; simpa [E_with_2, encFd] using q
      · simp
        refine lcD_filterA encFd encFd (fun f => ltS z f.1) (fun f _ => by cases f; simp [encFd]) (fun f hf Q q => ?_) (fun f hf Q q => ?_) (by simp; omega) ?_
        · cases f; simpa [C_with_1, encFd] using q
        · cases f; simpa [E_with_1, encFd] using q
        · simp
          exact ⟨by omega, by omega, by simpa [encFd] using h⟩
    | i n => exact hf.elim
  | _ => cases t <;> exact hf.elim
end Pk

/-! ## P7a -/
set_option Elab.async false
set_option linter.all false
set_option maxRecDepth 100000
set_option maxHeartbeats 4000000
namespace Pk
open PySem L2 Fm
/-- an index that is there -/
theorem atI_in {α : Type} {xs : List α} {k : Int} (h0 : 0 ≤ k) (h1 : k < xs.length) : ∃ x ∈ xs, atI xs k = some x := by
  obtain ⟨n, rfl⟩ : ∃ n : Nat, k = n := ⟨k.toNat, by omega⟩
  have hn : n < xs.length := by omega
  exact ⟨xs[n], List.getElem_mem hn, atI_nat (by simp [hn])⟩
/-- things of one kind, drawn one behind another -/
theorem lcD_gen {α : Type} {i : Nat} {Te : TDE} {ρ : DE} (e : α → D) (P : α → Prop) {xs : List D} {Q : List D → Prop} (hn : ∀ a, P a → noInt (e a)) (he : ∀ x ∈ xs, ∀ Q : S → Prop, (∀ a, P a → Q (.d (e a))) → Te (ρ.set i (some (.d x))) Q) (hl : xs.length ≤ 1000000)
    (h : ∀ as : List α, as.length = xs.length → (∀ a ∈ as, P a) → Q (as.map e)) : lcD i dYes Te ρ xs [] Q := by
  refine lcD_any (P := fun _ y => ∃ a, P a ∧ y = e a) (fun x y ⟨a, pa, z⟩ => by rw [z]; exact hn a pa) (fun x hx Q q => he x hx Q fun a pa => q _ ⟨a, pa, rfl⟩) (by simpa using hl) fun ys pys => ?_
  have : ∃ as : List α, ys = as.map e ∧ as.length = xs.length ∧ ∀ a ∈ as, P a := by
    clear h hl he
    induction pys with
    | nil => exact ⟨[], rfl, rfl, fun _ z => nomatch z⟩
    | cons hd tl ih =>
      obtain ⟨as, e1, e2, e3⟩ := ih
      obtain ⟨a, pa, rfl⟩ := hd
      exact ⟨a :: as, by simp [e1], by simp [e2], fun b hb => by
        rcases List.mem_cons.mp hb with rfl | hb
        · exact pa
        · exact e3 b hb⟩
  obtain ⟨as, rfl, e2, e3⟩ := this
  simpa using h as e2 e3
theorem rngD_len' (i : Int) (n : Nat) : (rngD i n).length = n := by simp [rngD]
/-! ### the source of draws -/
def s_cell : SD := fun ss Q => ∃ (ns : List Int) (k : Int), ss = [.fz (ns.map D.int), .d (.int k)] ∧ 0 ≤ k ∧ ∀ n : Int, Q (.d (.int n))
theorem pure_cell : ∀ ss Q, s_cell ss Q → T_cell { nx := fun _ => Q (.d .non), rt := Q } (ss.map some ++ List.replicate 0 none) := by
  rintro ss Q ⟨ns, k, rfl, hk, h⟩
  simp [T_cell]
  by_cases c : k < ns.length
  · obtain ⟨n, rfl⟩ : ∃ n : Nat, k = n := ⟨k.toNat, by omega⟩
    have hn : n < ns.length := by omega
    have e : atI (ns.map D.int) (n : Int) = some (D.int ns[n]) := atI_nat (by simp [hn])
    simp [hn, e]
    exact h _
  · simp [c]
    exact h 0
def s_source : SD := fun ss Q => ∃ n : Int, ss = [.d (.int n)] ∧ Q .src
theorem pure_source : ∀ ss Q, s_source ss Q → T_source { nx := fun _ => Q (.d .non), rt := Q } (ss.map some ++ List.replicate 0 none) := by
  rintro ss Q ⟨n, rfl, h⟩
  simp [T_source, CPow]
  exact h
def s_draw : SD := fun ss Q => ∃ m : Int, ss = [.src, .d (.int m)] ∧ 0 < m ∧ m.natAbs < 2 ^ 200 ∧ ∀ k : Int, 0 ≤ k → k < m → Q (.d (.int k))
theorem s_draw_i {m : Int} {Q : S → Prop} (h1 : 0 < m) (h2 : m.natAbs < 2 ^ 200) (h : ∀ k : Int, 0 ≤ k → k < m → Q (.d (.int k))) : s_draw [.src, .d (.int m)] Q := ⟨m, rfl, h1, h2, h⟩
theorem fmod_in {x m : Int} (h : 0 < m) : 0 ≤ x.fmod m ∧ x.fmod m < m := by
  rw [Int.fmod_eq_emod_of_nonneg x (by omega)]
  exact ⟨Int.emod_nonneg x (by omega), Int.emod_lt_of_pos x h⟩
theorem pure_draw : ∀ ss Q, s_draw ss Q → T_draw { nx := fun _ => Q (.d .non), rt := Q } (ss.map some ++ List.replicate 2 none) := by
  rintro ss Q ⟨m, rfl, h1, h2, h⟩
  have m0 : m ≠ 0 := by omega
  have hm : ∀ x : Int, Q (.d (.int (x.fmod m))) := fun x => h _ (fmod_in h1).1 (fmod_in h1).2
  have c1 : ∀ x : Int, CMul x 48271 := fun x => .inr ⟨by decide, by decide⟩
  have c2 : ∀ x : Int, CMul x 69621 := fun x => .inr ⟨by decide, by decide⟩
  have c3 : ∀ x : Int, CMul x 7919 := fun x => .inr ⟨by decide, by decide⟩
  have c4 : ∀ x y : Int, CMul (x.fmod 2147483647) y := fun x y => .inl (by have := fmod_in (x := x) (m := 2147483647) (by decide); omega)
  simp [T_draw, c1, c2, c3, c4, m0, h1, h2, hm]
/-! ### texts -/
def okC (c : Nat) : Prop := 32 ≤ c ∧ c ≤ 126 ∧ c ≠ 37
instance (c : Nat) : Decidable (okC c) := by unfold okC; exact inferInstance
def s_char : SD := fun ss Q => ss = [.src] ∧ ∀ c, okC c → Q (.d (.str ⟨#[c]⟩))
theorem s_char_i {Q : S → Prop} (h : ∀ c, okC c → Q (.d (.str ⟨#[c]⟩))) : s_char [.src] Q := ⟨rfl, h⟩
def charsA : Str := " !\"#$&'()*+,-./0123456789:;<=>?@ABCDEFGHIJKLMNOPQRSTUVWXYZ[\\]^_`"
def charsB : Str := "abcdefghijklmnopqrstuvwxyz{|}~"
theorem chars_len : (charsA ++ charsB).cps.toList.length = 94 := by decide +kernel
theorem chars_len1 : charsA.length + charsB.length ≤ 1000000 := by decide +kernel
theorem chars_len2 : (charsA ++ charsB).length ≤ 1000000 := by decide +kernel
theorem chars_ok : ∀ c ∈ (charsA ++ charsB).cps.toList, okC c := by decide +kernel
theorem pure_char : ∀ ss Q, s_char ss Q → T_char s_draw { nx := fun _ => Q (.d .non), rt := Q } (ss.map some ++ List.replicate 1 none) := by
  rintro ss Q ⟨rfl, h⟩
  have h1 := chars_len1
  have h2 := chars_len2
  have key : T_char s_draw { nx := fun _ => Q (.d .non), rt := Q } [some .src, none] := by
    unfold T_char
    simp only [dSeq, dSet, dC, dRet, d2, dVar, dCall, aCons, aNil, List.set, List.getElem?_cons_zero, List.getElem?_cons_succ, stor_d, view_d, view_s, true_and, fAdd_ss]
    refine ⟨h1, ?_⟩
    simp only [List.map_cons, List.map_nil, view_d, view_s]
    refine s_draw_i (by decide) (by decide) fun k k0 k1 => ?_
    rw [fIx_s]
    refine ⟨h2, ?_⟩
    obtain ⟨c, hc, e⟩ := atI_in (xs := (charsA ++ charsB).cps.toList) k0 (by rw [chars_len]; exact k1)
    have := h c (chars_ok c hc)
    unfold charsA charsB at e
    simp only [e]
    exact this
  exact key
def s_name : SD := fun ss Q => ss = [.src] ∧ ∀ z, okS z → Q (.d (.str z))
theorem s_name_i {Q : S → Prop} (h : ∀ z, okS z → Q (.d (.str z))) : s_name [.src] Q := ⟨rfl, h⟩
/-- good signs, some length -/
def okN (n : Nat) (z : Str) : Prop := (∀ c ∈ z.cps.toList, okC c) ∧ z.length ≤ n
instance (n : Nat) (z : Str) : Decidable (okN n z) := by unfold okN; exact inferInstance
theorem okN.ok {n : Nat} {z : Str} (h : okN n z) (hn : n ≤ 1000) : okS z := ⟨h.1, Nat.le_trans h.2 hn⟩
theorem okN.app {n m : Nat} {y z : Str} (h : okN n y) (g : okN m z) : okN (n + m) (y ++ z) := by
  have e : (y ++ z).cps = y.cps ++ z.cps := rfl
  refine ⟨fun c hc => ?_, ?_⟩
  · rw [e, Array.toList_append] at hc
    rcases List.mem_append.mp hc with hc | hc
    · exact h.1 c hc
    · exact g.1 c hc
  · have h2 := h.2
    have g2 := g.2
    unfold Str.length at *
    rw [e, Array.size_append]
    omega
theorem rep_name {k : Int} (h0 : 0 ≤ k) (h1 : k < 4) : okN 12 (repS "name" k) := by
  have : k = 0 ∨ k = 1 ∨ k = 2 ∨ k = 3 := by omega
  rcases this with rfl | rfl | rfl | rfl <;> decide +kernel
theorem okN1 {c : Nat} (h : okC c) : okN 1 ⟨#[c]⟩ := ⟨fun d hd => by
  have : d = c := by simpa using hd
  rw [this]; exact h, Nat.le_refl _⟩
theorem strsOf_signs : ∀ cs : List Nat, strsOf (cs.map fun c => D.str ⟨#[c]⟩) = some (cs.map fun c => ⟨#[c]⟩)
  | [] => rfl
  | c :: r => by simp [strsOf_signs r]
theorem join_signs (cs : List Nat) : (Txt.join "" (cs.map fun c => (⟨#[c]⟩ : Str))).cps.toList = cs := by
  unfold Txt.join Builtin.Str.glued
  have e0 : ("" : Str).cps = #[] := by decide +kernel
  have key : ∀ (cs : List Nat) (acc : Array Nat), ((cs.map fun c => (⟨#[c]⟩ : Str)).foldl (fun acc p => acc ++ ("" : Str).cps ++ p.cps) acc).toList = acc.toList ++ cs := by
    intro cs
    induction cs with
    | nil => intro acc; simp
    | cons c r ih => intro acc; rw [List.map_cons, List.foldl_cons, ih, e0]; simp
  cases cs with
  | nil => rfl
  | cons c r => rw [List.map_cons, List.drop_succ_cons, List.drop_zero, key]; rfl
theorem sum_ones : ∀ cs : List Nat, ((cs.map fun c => (⟨#[c]⟩ : Str)).map (·.length)).sum = cs.length
  | [] => rfl
  | c :: r => by
    have := sum_ones r
    have e : (⟨#[c]⟩ : Str).length = 1 := rfl
    simp only [List.map_cons, List.sum_cons, List.length_cons, this, e]; omega
def names8 : List D := [.str "a", .str "b", .str "c", .str "ab", .str "", .str "z9", .str "B", .str "ba"]
theorem names8_ok : ∀ d ∈ names8, ∃ z, d = .str z ∧ okS z := by
  have h : ∀ z ∈ ([("a" : Str), "b", "c", "ab", "", "z9", "B", "ba"] : List Str), okN 2 z := by decide +kernel
  intro d hd
  have e : names8 = ([("a" : Str), "b", "c", "ab", "", "z9", "B", "ba"] : List Str).map D.str := rfl
  rw [e] at hd
  obtain ⟨z, hz, rfl⟩ := List.mem_map.mp hd
  exact ⟨z, rfl, (h z hz).ok (by decide)⟩
theorem pure_name : ∀ ss Q, s_name ss Q → T_name s_draw s_char { nx := fun _ => Q (.d .non), rt := Q } (ss.map some ++ List.replicate 2 none) := by
  rintro ss Q ⟨rfl, h⟩
  simp [T_name]
  refine s_draw_i (by decide) (by decide) fun k k0 k1 => ?_
  simp
  by_cases c : k < 8
  · simp [c]
    obtain ⟨d, hd, e⟩ := atI_in (xs := names8) k0 (by simpa [names8] using c)
    obtain ⟨z, rfl, hz⟩ := names8_ok d hd
    unfold names8 at e
    simp [e]
    exact h z hz
  · simp [c]
    refine s_draw_i (by decide) (by decide) fun k k0 k1 => ?_
    by_cases c : k = 0
    · simp [c]
      refine s_draw_i (by decide) (by decide) fun k k0 k1 => ?_
      have e4 : (0 : Nat) < (Str.ofString "name").length ∧ (Str.ofString "name").length ≤ 1000 := by decide +kernel
      simp
      refine ⟨⟨e4.1, e4.2, by omega, by omega⟩, ?_⟩
      refine s_char_i fun c hc => ?_
      have n1 := rep_name k0 k1
      have n2 := n1.app (okN1 hc)
      have l1 := n1.2
      have l2 := (okN1 hc).2
      simp
      refine ⟨by omega, ?_⟩
      refine s_draw_i (by decide) (by decide) fun j j0 j1 => ?_
      have n3 := rep_name j0 (by omega)
      have n4 := n2.app n3
      have l3 := n2.2
      have l4 := n3.2
      simp
      exact ⟨⟨e4.1, e4.2, by omega, by omega⟩, by omega, h _ (n4.ok (by decide))⟩
    · simp [c]
      refine s_draw_i (by decide) (by decide) fun k k0 k1 => ?_
      simp
      refine ⟨⟨by omega, by omega⟩, ?_⟩
      refine lcD_gen (fun c : Nat => D.str ⟨#[c]⟩) okC (fun _ _ => trivial) (fun x hx Q q => ?_) (by rw [rngD_len']; omega) fun as la oa => ?_
      · simp [E_name_1]
        exact s_char_i q
      · rw [rngD_len'] at la
        have e := strsOf_signs as
        have e2 := sum_ones as
        have e3 := join_signs as
        have l0 : ("" : Str).length = 0 := by decide +kernel
        simp [e, -List.map_map]
        refine ⟨?_, ?_⟩
        · have l0' : (Str.ofString "").length = 0 := l0
          rw [e2, l0']; omega
        · refine h _ ⟨?_, ?_⟩
          · rw [show (Txt.join (Str.ofString "") (as.map fun c => (⟨#[c]⟩ : Str))).cps.toList = as from e3]
            exact oa
          · have : (Txt.join (Str.ofString "") (as.map fun c => (⟨#[c]⟩ : Str))).length = as.length := by
              have := congrArg List.length e3
              simpa [Str.length] using this
            rw [this]; omega
/-! ### leaves -/
def s_number : SD := fun ss Q => ss = [.src] ∧ ∀ n : Int, Q (.d (.int n))
theorem s_number_i {Q : S → Prop} (h : ∀ n : Int, Q (.d (.int n))) : s_number [.src] Q := ⟨rfl, h⟩
theorem pure_number : ∀ ss Q, s_number ss Q → T_number s_draw { nx := fun _ => Q (.d .non), rt := Q } (ss.map some ++ List.replicate 1 none) := by
  rintro ss Q ⟨rfl, h⟩
  simp [T_number]
  refine s_draw_i (by decide) (by decide) fun k k0 k1 => ?_
  have p1 : CPow 10 20 := ⟨by decide, by decide, by decide⟩
  have p2 : CPow 10 19 := ⟨by decide, by decide, by decide⟩
  have p3 : ∀ x, CMul 5 x := fun x => .inl ⟨by decide, by decide⟩
  simp
  by_cases c : k = 0
  · simp [c]
    refine s_draw_i (by decide) (by decide) fun k k0 k1 => ?_
    simpa using h _
  · by_cases c1 : k = 1
    · simp [c1, p1]
      refine s_draw_i (by decide) (by decide) fun k k0 k1 => ?_
      simp [p2, p3]
      exact h _
    · simp [c, c1]
      refine s_draw_i (by decide) (by decide) fun k k0 k1 => ?_
      simpa using h _
def s_leaf : SD := fun ss Q => ss = [.src] ∧ ∀ v, wfV 0 0 v → Q (.d (encV v))
theorem s_leaf_i {Q : S → Prop} (h : ∀ v, wfV 0 0 v → Q (.d (encV v))) : s_leaf [.src] Q := ⟨rfl, h⟩
theorem pure_leaf : ∀ ss Q, s_leaf ss Q → T_leaf s_name s_number s_draw { nx := fun _ => Q (.d .non), rt := Q } (ss.map some ++ List.replicate 1 none) := by
  rintro ss Q ⟨rfl, h⟩
  simp [T_leaf]
  refine s_draw_i (by decide) (by decide) fun k k0 k1 => ?_
  simp
  by_cases c : k = 0
  · simp [c]
    exact h .nul trivial
  · by_cases c1 : k = 1
    · simp [c1]
      refine s_draw_i (by decide) (by decide) fun k k0 k1 => ?_
      simp
      exact h (.bool _) trivial
    · by_cases c2 : k < 5
      · simp [c, c1, c2]
        refine s_number_i fun n => ?_
        simp
        exact h (.int n) trivial
      · simp [c, c1, c2]
        refine s_name_i fun z hz => ?_
        simp
        exact h (.text z) hz
end Pk

/-! ## P7b -/
set_option Elab.async false
set_option linter.all false
set_option maxRecDepth 100000
set_option maxHeartbeats 4000000
namespace Pk
open PySem L2 Fm
/-! ### objects -/
def s_object : SD := fun ss Q => ∃ (ps : List (Str × Val)) (d : Nat), ss = [.lst (ps.map encFd)] ∧ ps.length ≤ 100 ∧ (∀ x ∈ ps, okS x.1 ∧ wfV d 100 x.2) ∧ ∀ v, wfV (d + 1) 100 v → Q (.d (encV v))
theorem s_object_i {ps : List (Str × Val)} {d : Nat} {Q : S → Prop} (h1 : ps.length ≤ 100) (h2 : ∀ x ∈ ps, okS x.1 ∧ wfV d 100 x.2) (h : ∀ v, wfV (d + 1) 100 v → Q (.d (encV v))) : s_object [.lst (ps.map encFd)] Q := ⟨ps, d, rfl, h1, h2, h⟩
theorem loop_object (a : Option S) (d : Nat) (DD : EndsD) (h : ∀ v, wfV (d + 1) 100 v → ∀ x, DD.nx [a, some (.d (encV v)), x]) : ∀ (ps fs : List (Str × Val)) (x : Option S), fs.length + ps.length ≤ 100 → sortedF fs → (∀ x ∈ fs, okS x.1 ∧ wfV d 100 x.2) → (∀ x ∈ ps, okS x.1 ∧ wfV d 100 x.2) →
    forD 2 (B_object_1 s_with) DD (ps.map encFd) [a, some (.d (encV (.obj fs))), x]
  | [], fs, x, hl, hs, hf, hp => by
    simp [forD]
    refine h (.obj fs) ?_ x
    simp only [wfV]
    exact ⟨by omega, by simpa using hl, hs, wfFs_iff.mpr hf⟩
  | (z, w) :: r, fs, x, hl, hs, hf, hp => by
    have hw := hp (z, w) (by simp)
    have l2 := filter2_len fs z
    simp only [List.length_cons] at hl
    have ih := loop_object a d DD h r ((fs.filter fun f => ltS f.1 z) ++ [(z, w)] ++ fs.filter fun f => ltS z f.1) (some (.d (encFd (z, w)))) (by simp only [List.length_append, List.length_cons, List.length_nil]; omega) (sorted_with hs z w) (fun y hy => by
      rcases List.mem_append.mp hy with hy | hy
      · rcases List.mem_append.mp hy with hy | hy
        · exact hf y (List.mem_filter.mp hy).1
        · have e : y = (z, w) := by simpa using hy
          subst e
          exact hw
      · exact hf y (List.mem_filter.mp hy).1) (fun y hy => hp y (by simp [hy]))
    rw [List.map_cons, forD]
    unfold B_object_1 at ih ⊢
    simp [encFd]
    refine s_with_i (v := .obj fs) (t := .s z) trivial (by simp only [szV]; omega) ?_
    simp only [withC]
    simpa [encFd] using ih
theorem pure_object : ∀ ss Q, s_object ss Q → T_object s_with { nx := fun _ => Q (.d .non), rt := Q } (ss.map some ++ List.replicate 2 none) := by
  rintro ss Q ⟨ps, d, rfl, h1, h2, h⟩
  simp [T_object]
  have := loop_object (some (.lst (ps.map encFd))) d { nx := dRet (dVar 1) { nx := fun _ => Q (.d .non), rt := Q }, rt := Q } (fun v hv x => by simpa using h v hv) ps [] none (by simpa using h1) .nil (fun _ z => nomatch z) h2
  simpa [encV, encFs] using this
/-! ### values -/
/-- of depth d at most -/
def s_value (n : Nat) : SD := fun ss Q => ∃ d : Nat, ss = [.src, .d (.int d)] ∧ 1 ≤ d ∧ d ≤ n ∧ ∀ v, wfV d 100 v → Q (.d (encV v))
theorem s_value_i {n d : Nat} {j : Int} {Q : S → Prop} (e : j = d) (h1 : 1 ≤ d) (h2 : d ≤ n) (h : ∀ v, wfV d 100 v → Q (.d (encV v))) : s_value n [.src, .d (.int j)] Q := ⟨d, by rw [e], h1, h2, h⟩
theorem pure_value1 {sv : SD} : ∀ ss Q, s_value 1 ss Q → T_value s_draw sv s_name s_object s_leaf { nx := fun _ => Q (.d .non), rt := Q } (ss.map some ++ List.replicate 2 none) := by
  rintro ss Q ⟨d, rfl, h1, h2, h⟩
  have e : d = 1 := by omega
  subst e
  simp [T_value]
  refine s_draw_i (by decide) (by decide) fun k k0 k1 => ?_
  simp
  exact s_leaf_i fun v hv => h v (wfV_mono (by omega) (by omega) v hv)
theorem pure_value (n : Nat) : ∀ ss Q, s_value (n + 2) ss Q → T_value s_draw (s_value (n + 1)) s_name s_object s_leaf { nx := fun _ => Q (.d .non), rt := Q } (ss.map some ++ List.replicate 2 none) := by
  rintro ss Q ⟨d, rfl, h1, h2, h⟩
  by_cases hd : d = 1
  · exact pure_value1 _ _ ⟨d, rfl, h1, by omega, h⟩
  obtain ⟨d, rfl⟩ : ∃ e, d = e + 2 := ⟨d - 2, by omega⟩
  have e0 : ¬ ((d : Int) + 2 < 2) := by omega
  simp [T_value, e0]
  refine s_draw_i (by decide) (by decide) fun k k0 k1 => ?_
  simp
  by_cases c : k < 3
  · simp [c]
    exact s_leaf_i fun v hv => h v (wfV_mono (by omega) (by omega) v hv)
  · by_cases c1 : k < 6
    · simp [c, c1]
      refine s_draw_i (by decide) (by decide) fun k k0 k1 => ?_
      simp
      refine ⟨⟨by omega, by omega⟩, ?_⟩
      refine lcD_gen encV (wfV (d + 1) 100) (fun a _ => noInt_encV a) (fun x hx Q q => ?_) (by rw [rngD_len']; omega) fun as la oa => ?_
      · simp [E_value_2]
        exact s_value_i (d := d + 1) (by omega) (by omega) (by omega) q
      · rw [rngD_len'] at la
        try simp
        have := h (.list as) (by simp only [wfV]; exact ⟨by omega, by omega, wfVs_iff.mpr oa⟩)
        simpa [encV, encVs_map] using this
    · simp [c, c1]
      refine s_draw_i (by decide) (by decide) fun k k0 k1 => ?_
      simp
      refine ⟨⟨by omega, by omega⟩, ?_⟩
      refine lcD_gen encFd (fun x => okS x.1 ∧ wfV (d + 1) 100 x.2) (fun a _ => by cases a; trivial) (fun x hx Q q => ?_) (by rw [rngD_len']; omega) fun as la oa => ?_
      · simp [E_value_1]
        refine s_name_i fun z hz => ?_
        simp
        refine s_value_i (d := d + 1) (by omega) (by omega) (by omega) fun v hv => ?_
        simp
        exact q (z, v) ⟨hz, hv⟩
      · rw [rngD_len'] at la
        try simp
        exact s_object_i (by omega) oa h
/-! ### wide values -/
def s_wide : SD := fun ss Q => ss = [.src, .d (.int 3)] ∧ ∀ v, wfV 6 100 v → Q (.d (encV v))
theorem loop_wide (DD : EndsD) (h : ∀ v, wfV 6 100 v → ∀ x y z u, DD.nx [some .src, some (.d (.int 3)), some (.d (encV v)), x, y, z, u]) : ∀ (xs : List D) (v : Val) (x y z u : Option S), xs.length ≤ 3 → wfV (6 - xs.length) 100 v → forD 3 (B_wide_1 s_draw s_leaf s_object s_name) DD xs [some .src, some (.d (.int 3)), some (.d (encV v)), x, y, z, u]
  | [], v, x, y, z, u, hl, hv => by simpa [forD] using h v (by simpa using hv) x y z u
  | c :: xs, v, x, y, z, u, hl, hv => by
    simp only [List.length_cons] at hl hv
    have hw : wfV (6 - xs.length - 1) 100 v := wfV_mono (by omega) (Nat.le_refl _) v hv
    have ih := fun v' hv' y => loop_wide DD h xs v' (some (.d c)) y z u (by omega) hv'
    unfold B_wide_1 at ih ⊢
    rw [forD]
    simp
    refine s_draw_i (by decide) (by decide) fun k k0 k1 => ?_
    try simp
    refine s_draw_i (by decide) (by decide) fun j j0 j1 => ?_
    have hp : 0 ≤ k * j ∧ k * j ≤ 12 := by
      have : k = 0 ∨ k = 1 := by omega
      rcases this with rfl | rfl <;> omega
    simp
    refine ⟨.inl ⟨by omega, by omega⟩, ⟨by omega, by omega⟩, ?_⟩
    refine lcD_gen encV (wfV 0 0) (fun a _ => noInt_encV a) (fun x hx Q q => ?_) (by rw [rngD_len']; omega) fun as la oa => ?_
    · simp [E_wide_2]
      exact s_leaf_i q
    · rw [rngD_len'] at la
      simp
      refine s_draw_i (by decide) (by decide) fun b b0 b1 => ?_
      by_cases cb : b = 0
      · simp [cb]
        refine ⟨by omega, ?_⟩
        have := ih (.list (as ++ [v])) (by
          simp only [wfV]
          refine ⟨by omega, by simp; omega, wfVs_iff.mpr fun y hy => ?_⟩
          rcases List.mem_append.mp hy with hy | hy
          · exact wfV_mono (by omega) (by omega) y (oa y hy)
          · have e : y = v := by simpa using hy
            subst e
            exact hw) (some (.own (as.map encV)))
        simpa [encV, encVs_map] using this
      · simp [cb]
        refine lcD_gen encFd (fun x => okS x.1 ∧ wfV 0 0 x.2) (fun a _ => by cases a; trivial) (fun x hx Q q => ?_) (by simp; omega) fun ps lp op => ?_
        · obtain ⟨a, ha, rfl⟩ := List.mem_map.mp hx
          simp [E_wide_1]
          refine s_name_i fun z hz => ?_
          simp
          exact q (z, a) ⟨hz, oa a ha⟩
        · simp at lp
          simp
          refine s_name_i fun z hz => ?_
          simp
          refine ⟨by omega, nsrcD_of fun y hy => ?_, ?_⟩
          · rcases List.mem_append.mp hy with hy | hy
            · obtain ⟨a, _, rfl⟩ := List.mem_map.mp hy
              cases a; trivial
            · have e : y = D.tup [.str z, encV v] := by simpa using hy
              subst e; trivial
          · have e : ps.map encFd ++ [D.tup [.str z, encV v]] = (ps ++ [(z, v)]).map encFd := by simp [encFd]
            rw [e]
            refine s_object_i (d := 6 - xs.length - 1) (by simp; omega) (fun y hy => ?_) fun v' hv' => ?_
            · rcases List.mem_append.mp hy with hy | hy
              · have := op y hy
                exact ⟨this.1, wfV_mono (by omega) (by omega) y.2 this.2⟩
              · have e : y = (z, v) := by simpa using hy
                subst e
                exact ⟨hz, hw⟩
            · have := ih v' (wfV_mono (by omega) (Nat.le_refl _) v' hv') (some (.own (as.map encV)))
              simpa using this
theorem s_wide_i {Q : S → Prop} (h : ∀ v, wfV 6 100 v → Q (.d (encV v))) : s_wide [.src, .d (.int 3)] Q := ⟨rfl, h⟩
theorem pure_wide : ∀ ss Q, s_wide ss Q → T_wide s_draw s_name s_object s_leaf (s_value 3) { nx := fun _ => Q (.d .non), rt := Q } (ss.map some ++ List.replicate 5 none) := by
  rintro ss Q ⟨rfl, h⟩
  simp [T_wide]
  refine s_value_i (d := 3) rfl (by omega) (by omega) fun v hv => ?_
  simp
  refine s_draw_i (by decide) (by decide) fun k k0 k1 => ?_
  have key : ∀ n : Nat, n ≤ 3 → forD 3 (B_wide_1 s_draw s_leaf s_object s_name) { nx := dRet (dVar 2) { nx := fun _ => Q (.d .non), rt := Q }, rt := Q } (rngD 0 n) [some .src, some (.d (.int 3)), some (.d (encV v)), none, none, none, none] := fun n hn =>
    loop_wide _ (fun v' hv' x y z u => by simpa using h v' hv') (rngD 0 n) v none none none none (by rw [rngD_len']; exact hn) (by rw [rngD_len']; exact wfV_mono (by omega) (Nat.le_refl _) v hv)
  have k0' := key 0 (by decide)
  have k1' := key 1 (by decide)
  have k3' := key 3 (by decide)
  have : k = 0 ∨ k = 1 ∨ k = 2 ∨ k = 3 := by omega
  rcases this with rfl | rfl | rfl | rfl
  · simpa using k0'
  · have e : atI [D.int 0, D.int 0, D.int 1, D.int 3] 1 = some (.int 0) := rfl
    simp
    exact k0'
  · have e : atI [D.int 0, D.int 0, D.int 1, D.int 3] 2 = some (.int 1) := rfl
    simp
    exact k1'
  · have e : atI [D.int 0, D.int 0, D.int 1, D.int 3] 3 = some (.int 3) := atI_nat (j := 3) rfl
    simp [e]
    exact k3'
/-! ### places -/
def gTok (t : Tok) : Prop := okTok t ∧ ∀ n, t = .i n → n ≤ 9
def s_token : SD := fun ss Q => ∃ v, ss = [.src, .d (encV v)] ∧ wfV 16 200 v ∧ Q (.d .non) ∧ ∀ t c, child v t = some c → gTok t → Q (.d (encT t))
theorem s_token_i {v : Val} {Q : S → Prop} (h : wfV 16 200 v) (h1 : Q (.d .non)) (h2 : ∀ t c, child v t = some c → gTok t → Q (.d (encT t))) : s_token [.src, .d (encV v)] Q := ⟨v, rfl, h, h1, h2⟩
theorem small200 {m : Int} (h : m ≤ 1000) (h0 : 0 ≤ m) : m.natAbs < 2 ^ 200 := Nat.lt_of_le_of_lt (by omega : m.natAbs ≤ 1000) (by decide)
theorem pure_token : ∀ ss Q, s_token ss Q → T_token s_draw { nx := fun _ => Q (.d .non), rt := Q } (ss.map some ++ List.replicate 0 none) := by
  rintro ss Q ⟨v, rfl, hv, h1, h2⟩
  cases v with
  | list xs =>
    simp only [wfV] at hv
    simp [T_token, encV, encVs_map]
    by_cases c : xs = []
    · subst c
      simp
      exact h1
    · have hl : 0 < xs.length := List.length_pos_iff.mpr c
      simp [hl]
      refine s_draw_i (by omega) (small200 (by omega) (by omega)) fun k k0 k1 => ?_
      simp
      have e : ∀ j : Int, 0 ≤ j → j ≤ k → j ≤ 9 → Q (.d (.int j)) := fun j j0 j1 j2 => by
        have hc : 0 ≤ j ∧ j < xs.length := ⟨j0, by omega⟩
        exact h2 (.i j) (xs[j.toNat]'(by omega)) (by simp only [child]; rw [if_pos hc]; simp) ⟨j0, fun n e => by cases e; exact j2⟩
      split
      · exact e 9 (by omega) (by omega) (by omega)
      · exact e k (by omega) (by omega) (by omega)
  | obj fs =>
    simp only [wfV] at hv
    simp [T_token, encV, encFs_map]
    by_cases c : fs = []
    · subst c
      simp
      exact h1
    · have hl : 0 < fs.length := List.length_pos_iff.mpr c
      simp [hl]
      refine s_draw_i (by omega) (small200 (by omega) (by omega)) fun k k0 k1 => ?_
      obtain ⟨d, hd, e⟩ := atI_in (xs := fs.map encFd) k0 (by simpa using k1)
      obtain ⟨f, hf, rfl⟩ := List.mem_map.mp hd
      obtain ⟨z, w⟩ := f
      have hz := (wfFs_iff.mp hv.2.2.2 _ hf).1
      simp [e, encFd]
      cases e2 : child (.obj fs) (.s z) with
      | none =>
        simp only [child, Option.map_eq_none_iff, List.find?_eq_none] at e2
        have := e2 (z, w) hf
        simp at this
      | some c => exact h2 (.s z) c e2 ⟨hz, fun n e => nomatch e⟩
  | _ => simpa [T_token, encV] using h1
def s_path : SD := fun ss Q => ∃ (m : Nat) (v : Val), ss = [.src, .d (encV v), .d (.int m)] ∧ wfV 16 200 v ∧ m ≤ 6 ∧ ∀ p : Path, p.length ≤ m → (∀ t ∈ p, gTok t) → Q (.d (encP p))
theorem s_path_i {m : Nat} {v : Val} {j : Int} {Q : S → Prop} (e : j = m) (h : wfV 16 200 v) (hm : m ≤ 6) (h2 : ∀ p : Path, p.length ≤ m → (∀ t ∈ p, gTok t) → Q (.d (encP p))) : s_path [.src, .d (encV v), .d (.int j)] Q := ⟨m, v, by rw [e], h, hm, h2⟩
theorem gTok_app {p : Path} {t : Tok} (h : ∀ t ∈ p, gTok t) (ht : gTok t) : ∀ x ∈ p ++ [t], gTok x := fun x hx => by
  rcases List.mem_append.mp hx with hx | hx
  · exact h x hx
  · have e : x = t := by simpa using hx
    rw [e]; exact ht
theorem loop_path (m : Nat) (a : Option S) (DD : EndsD) (h : ∀ v (p : Path) x y, p.length ≤ m → (∀ t ∈ p, gTok t) → DD.nx [some .src, some (.d (encV v)), a, some (.d (encP p)), x, y]) : ∀ (xs : List D) (v : Val) (p : Path) (x y : Option S), m ≤ 6 → p.length + xs.length ≤ m → wfV 16 200 v → (∀ t ∈ p, gTok t) → forD 4 (B_path_1 s_token s_draw s_child) DD xs [some .src, some (.d (encV v)), a, some (.d (encP p)), x, y]
  | [], v, p, x, y, hm, hl, hv, hp => by simpa [forD] using h v p x y (by simpa using hl) hp
  | c :: xs, v, p, x, y, hm, hl, hv, hp => by
    simp only [List.length_cons] at hl
    have stop := fun y => loop_path m a DD h xs .nul p (some (.d c)) y hm (by omega) trivial hp
    have go := fun t c' (ht : gTok t) (hc : child v t = some c') => loop_path m a DD h xs c' (p ++ [t]) (some (.d c)) (some (.d (encT t))) hm (by simp; omega) (wfV_mono (by omega) (Nat.le_refl _) c' (child_wf hv hc).2) (gTok_app hp ht)
    unfold B_path_1 at stop go ⊢
    rw [forD]
    simp
    refine s_token_i hv ?_ fun t c' hc ht => ?_
    · have := stop (some (.d .non))
      simpa [encV] using this
    · have h1 := go t c' ht hc
      have h2 := stop (some (.d (encT t)))
      have st : stor (.d (encT t)) = True := rfl
      simp
      refine s_draw_i (by decide) (by decide) fun k k0 k1 => ?_
      simp
      split
      · refine ⟨by omega, ?_⟩
        refine s_child_i ?_
        simp [hc]
        simpa using h1
      · simpa [encV] using h2
theorem pure_path : ∀ ss Q, s_path ss Q → T_path s_draw s_name s_child s_token { nx := fun _ => Q (.d .non), rt := Q } (ss.map some ++ List.replicate 3 none) := by
  rintro ss Q ⟨m, v, rfl, hv, hm, h⟩
  have key := fun nx hnx => loop_path m (some (.d (.int m))) { nx := nx, rt := Q } hnx (rngD 0 m) v [] none none hm (by rw [rngD_len']; simp) hv (fun _ z => nomatch z)
  simp [T_path]
  refine ⟨by omega, ?_⟩
  refine key _ fun v p x y hp ht => ?_
  · simp
    by_cases c : p.length < m
    · simp [c]
      refine s_draw_i (by decide) (by decide) fun k k0 k1 => ?_
      by_cases c1 : k = 0
      · simp [c1]
        refine s_draw_i (by decide) (by decide) fun k k0 k1 => ?_
        by_cases c2 : k = 0
        · simp [c2]
          refine s_name_i fun z hz => ?_
          simp
          exact ⟨by omega, h _ (by simp; omega) (gTok_app ht ⟨hz, fun n e => nomatch e⟩)⟩
        · simp [c2]
          refine s_draw_i (by decide) (by decide) fun k k0 k1 => ?_
          simp
          exact ⟨by omega, h _ (by simp; omega) (gTok_app ht ⟨k0, fun n e => by cases e; omega⟩)⟩
      · simp [c1]
        exact h p hp ht
    · simp [c]
      exact h p hp ht
def s_target : SD := fun ss Q => ∃ v, ss = [.src, .d (encV v), .d (.int 3)] ∧ wfV 16 200 v ∧ ∀ p : Path, p.length ≤ 3 → (∀ t ∈ p, okTok t ∨ t = .i (-1)) → Q (.d (encP p))
theorem pure_target : ∀ ss Q, s_target ss Q → T_target s_name s_draw s_lookup s_path { nx := fun _ => Q (.d .non), rt := Q } (ss.map some ++ List.replicate 3 none) := by
  rintro ss Q ⟨v, rfl, hv, h⟩
  simp [T_target]
  refine s_path_i (m := 3) rfl hv (by decide) fun p hp ht => ?_
  have h0 : Q (.d (encP p)) := h p hp fun t z => .inl (ht t z).1
  have h1 : ∀ t, p.length < 3 → okTok t ∨ t = .i (-1) → Q (.d (encP (p ++ [t]))) := fun t hl o => h _ (by simp; omega) fun x hx => by
    rcases List.mem_append.mp hx with hx | hx
    · exact .inl (ht x hx).1
    · have e : x = t := by simpa using hx
      rw [e]; exact o
  have vp : view (.d (encP p)) = .d (encP p) := rfl
  have sp : stor (.d (encP p)) = True := rfl
  simp
  refine s_lookup_i ?_
  cases e : lookup v p with
  | none => simpa using h0
  | some u =>
    simp
    by_cases c : 3 ≤ p.length
    · have c' : (3 : Int) ≤ p.length := by omega
      simp [c']
      exact h0
    · have c' : ¬ ((3 : Int) ≤ p.length) := by omega
      simp [c']
      refine s_draw_i (by decide) (by decide) fun k k0 k1 => ?_
      simp
      cases u with
      | list xs =>
        simp [encV, encVs_map]
        by_cases c1 : k = 1
        · simp [c1]
          refine ⟨by omega, ?_⟩
          refine h1 (.i _) (by omega) (.inl ?_)
          simp only [okTok]
          split <;> omega
        · by_cases c2 : k = 2
          · simp [c2]
            exact ⟨by omega, h1 (.i (-1)) (by omega) (.inr rfl)⟩
          · simp [c1, c2]
            exact h0
      | obj fs =>
        simp [encV]
        by_cases c1 : 0 < k
        · simp [c1]
          refine s_name_i fun z hz => ?_
          simp
          exact ⟨by omega, h1 (.s z) (by omega) (.inl hz)⟩
        · simp [c1]
          exact h0
      | _ => simpa [encV] using h0
end Pk

/-! ## P4 -/
set_option Elab.async false
set_option linter.all false
set_option maxRecDepth 100000
set_option maxHeartbeats 4000000
namespace Pk
open PySem L2
@[simp] theorem fIx_p0 {t : Tok} {p : Path} {Q : S → Prop} : fIx (.d (encP (t :: p))) (.d (.int 0)) Q = Q (.d (encT t)) := by
  have := fIx_p (p := t :: p) (n := 0) (Q := Q)
  simpa using this
theorem atI_snoc {α : Type} (xs : List α) (v : α) : atI (xs ++ [v]) (-1) = some v := atI_last xs v
@[simp] theorem fIx_pm {t : Tok} {p : Path} {Q : S → Prop} : fIx (.d (encP (p ++ [t]))) (.d (.int (-1))) Q = Q (.d (encT t)) := by
  have e : fIx (.d (encP (p ++ [t]))) (.d (.int (-1))) Q = (match atI ((p ++ [t]).map encT) (-1) with
      | some d => Q (.d d)
      | none => False) := rfl
  rw [e, List.map_append, List.map_cons, List.map_nil, atI_snoc]
def s_replace (n : Nat) : SD := fun ss Q => ∃ v p w, ss = [.d (encV v), .d (encP p), .d (encV w)] ∧ p.length ≤ n ∧ (∃ d e L, wfV d L v ∧ wfV e L w ∧ L + p.length ≤ 900000) ∧ Q (oV (replace v p w))
theorem s_replace_i {n d e L : Nat} {v w : Val} {p : Path} {Q : S → Prop} (h1 : p.length ≤ n) (h2 : wfV d L v) (h3 : wfV e L w) (h4 : L + p.length ≤ 900000) (h : Q (oV (replace v p w))) : s_replace n [.d (encV v), .d (encP p), .d (encV w)] Q := ⟨v, p, w, rfl, h1, ⟨d, e, L, h2, h3, h4⟩, h⟩
theorem sz_wf {d L : Nat} {v : Val} (h : wfV d L v) : szV v ≤ L := by
  cases v <;> simp only [wfV, szV] at h ⊢ <;> first | exact h.2.1 | omega
theorem pure_replace0 : ∀ ss Q, s_replace 0 ss Q → T_replace s_with (fun _ _ => False) s_child { nx := fun _ => Q (.d .non), rt := Q } (ss.map some ++ List.replicate 2 none) := by
  rintro ss Q ⟨v, p, w, rfl, hp, _, h⟩
  have e : p = [] := List.eq_nil_of_length_eq_zero (by omega)
  subst e
  simp [T_replace]
  exact h
theorem pure_replace (n : Nat) : ∀ ss Q, s_replace (n + 1) ss Q → T_replace s_with (s_replace n) s_child { nx := fun _ => Q (.d .non), rt := Q } (ss.map some ++ List.replicate 2 none) := by
  rintro ss Q ⟨v, p, w, rfl, hp, ⟨d, e, L, h2, h3, h4⟩, h⟩
  cases p with
  | nil =>
    simp [T_replace]
    exact h
  | cons t p =>
    have e1 : ¬ ((p.length : Int) + 1 = 0) := by omega
    simp at hp h4
    simp [T_replace, e1]
    refine s_child_i ?_
    simp only [replace] at h
    cases e2 : child v t with
    | none =>
      rw [e2] at h
      simpa using h
    | some c =>
      rw [e2] at h
      have hc := child_wf h2 e2
      simp
      refine s_replace_i (by omega) hc.2 h3 (by omega) ?_
      simp at h
      cases e3 : replace c p w with
      | none =>
        rw [e3] at h
        simpa using h
      | some c' =>
        rw [e3] at h
        simp
        exact s_with_i (child_fits e2) (by have := sz_wf h2; omega) (by simpa using h)
/-! ### put, take: some value, or None -/
theorem lookup_snoc {t : Tok} {c : Val} : ∀ {p : Path} {v : Val}, lookup v (p ++ [t]) = some c → ∃ u, lookup v p = some u ∧ child u t = some c
  | [], v, h => by
    simp only [List.nil_append, lookup] at h
    obtain ⟨x, e1, e2⟩ := Option.bind_eq_some_iff.mp h
    cases e2
    exact ⟨v, rfl, e1⟩
  | a :: p, v, h => by
    simp only [List.cons_append, lookup] at h
    obtain ⟨x, e1, e2⟩ := Option.bind_eq_some_iff.mp h
    obtain ⟨u, e3, e4⟩ := lookup_snoc e2
    exact ⟨u, by simp only [lookup, e1]; exact e3, e4⟩
theorem snoc_of {α : Type} {p : List α} (h : p ≠ []) : ∃ q t, p = q ++ [t] := ⟨p.dropLast, p.getLast h, (List.dropLast_concat_getLast h).symm⟩
def okPut : Tok → Prop
  | .s z => okS z
  | .i n => -1 ≤ n
def s_put : SD := fun ss Q => ∃ v p w, ss = [.d (encV v), .d (encP p), .d (encV w)] ∧ wfV 6 100 v ∧ wfV 2 100 w ∧ p.length ≤ 10 ∧ (∀ t ∈ p, okPut t) ∧ Q (.d .non) ∧ ∀ v', wfV 16 200 v' → Q (.d (encV v'))
theorem out_rep {v w : Val} {p : Path} {Q : S → Prop} (h1 : wfV 6 101 v) (h2 : wfV 7 101 w) (hp : p.length ≤ 10) (h : Q (.d .non)) (h' : ∀ v', wfV 16 200 v' → Q (.d (encV v'))) : s_replace 12 [.d (encV v), .d (encP p), .d (encV w)] Q := by
  refine s_replace_i (by omega) h1 h2 (by omega) ?_
  cases e : replace v p w with
  | none => exact h
  | some v' => exact h' v' (wfV_mono (by omega) (by omega) v' (replace_wf h2 h1 e))
theorem pure_put : ∀ ss Q, s_put ss Q → T_put (s_replace 12) s_with s_lookup { nx := fun _ => Q (.d .non), rt := Q } (ss.map some ++ List.replicate 4 none) := by
  rintro ss Q ⟨v, p, w, rfl, hv, hw, hp, ht, h, h'⟩
  by_cases hn : p = []
  · subst hn
    simp [T_put]
    exact h' w (wfV_mono (by omega) (by omega) w hw)
  · obtain ⟨q, t, rfl⟩ := snoc_of hn
    have e1 : ¬ ((q.length : Int) + 1 = 0) := by omega
    simp at hp
    simp [T_put, e1]
    refine s_lookup_i ?_
    cases e2 : lookup v q with
    | none => simpa using h
    | some u =>
      have hu := lookup_wf hv e2
      have ht' := ht t (by simp)
      have hv1 : wfV 6 101 v := wfV_mono (by omega) (by omega) v hv
      cases u with
      | list xs =>
        cases t with
        | s z => simp [encV, encT, h]
        | i n =>
          simp only [okPut] at ht'
          simp only [wfV] at hu
          simp [encV, encT, encVs_map]
          by_cases c : n ≤ xs.length
          · have mk : ∀ k : Nat, k ≤ xs.length → wfV 7 101 (.list (xs.take k ++ [w] ++ xs.drop k)) := fun k hk => by
              simp only [wfV]
              refine ⟨by omega, by simp; omega, wfVs_iff.mpr fun x hx => ?_⟩
              have old : ∀ x ∈ xs, wfV 6 101 x := fun x hx => wfV_mono (by omega) (by omega) x (wfVs_iff.mp hu.2.2 x hx)
              rcases List.mem_append.mp hx with hx | hx
              · rcases List.mem_append.mp hx with hx | hx
                · exact old x (List.mem_of_mem_take hx)
                · have e : x = w := by simpa using hx
                  subst e
                  exact wfV_mono (by omega) (by omega) x hw
              · exact old x (List.mem_of_mem_drop hx)
            by_cases c2 : n = -1
            · subst c2
              have hx : (-1 : Int) ≤ xs.length := by omega
              simp [hx, cutD_to, cutD_from]
              refine ⟨by omega, ?_⟩
              rw [List.take_of_length_le (by simp), List.drop_of_length_le (by simp)]
              have := out_rep (p := q) hv1 (mk xs.length (Nat.le_refl _)) (by omega) h h'
              simpa [encV, encVs_map] using this
            · obtain ⟨k, rfl⟩ : ∃ k : Nat, n = k := ⟨n.toNat, by omega⟩
              have hk : k ≤ xs.length := by omega
              simp [hk, c2, cutD_to, cutD_from]
              refine ⟨by omega, by omega, ?_⟩
              have := out_rep (p := q) hv1 (mk k hk) (by omega) h h'
              simpa [encV, encVs_map] using this
          · simp [c, h]
      | obj fs =>
        cases t with
        | i n => simp [encV, encT, h]
        | s z =>
          have hf : fits (.obj fs) (.s z) := trivial
          have mk : wfV 7 101 (withC (.obj fs) (.s z) w) := wfV_mono (by omega) (by omega) _ (with_wf (e := 2) (L := 100) hu hf hw fun y hy => by cases hy; exact ht')
          have := out_rep (p := q) hv1 mk (by omega) h h'
          have e3 := s_with_i (w := w) (Q := fun s => stor s ∧ if isN (view s) = true then Q (.d .non) else s_replace 12 [.d (encV v), .d (encP q), view (view s)] Q) hf (by have := sz_wf hu; omega) (by simpa using this)
          simp [encV, encT] at e3 ⊢
          exact e3
      | _ => cases t <;> simp [encV, encT, h]
def s_take : SD := fun ss Q => ∃ v p, ss = [.d (encV v), .d (encP p)] ∧ wfV 6 100 v ∧ p.length ≤ 10 ∧ Q (.d .non) ∧ ∀ v', wfV 16 200 v' → Q (.d (encV v'))
theorem pure_take : ∀ ss Q, s_take ss Q → T_take (s_replace 12) s_lookup { nx := fun _ => Q (.d .non), rt := Q } (ss.map some ++ List.replicate 4 none) := by
  rintro ss Q ⟨v, p, rfl, hv, hp, h, h'⟩
  by_cases hn : p = []
  · subst hn
    simp [T_take]
    exact h
  · obtain ⟨q, t, rfl⟩ := snoc_of hn
    have e1 : ¬ ((q.length : Int) + 1 = 0) := by omega
    simp at hp
    simp [T_take, e1]
    refine s_lookup_i ?_
    cases e2 : lookup v (q ++ [t]) with
    | none => simpa using h
    | some c =>
      obtain ⟨u, e3, e4⟩ := lookup_snoc e2
      have hu := lookup_wf hv e3
      have hv1 : wfV 6 101 v := wfV_mono (by omega) (by omega) v hv
      simp
      refine s_lookup_i ?_
      rw [e3]
      cases u with
      | list xs =>
        cases t with
        | s z => cases e4
        | i n =>
          simp only [child] at e4
          split at e4
          · rename_i hb
            obtain ⟨k, rfl⟩ : ∃ k : Nat, n = k := ⟨n.toNat, by omega⟩
            simp only [wfV] at hu
            have mk : wfV 7 101 (.list (xs.take k ++ xs.drop (k + 1))) := by
              simp only [wfV]
              refine ⟨by omega, by simp; omega, wfVs_iff.mpr fun x hx => ?_⟩
              have old : ∀ x ∈ xs, wfV 6 101 x := fun x hx => wfV_mono (by omega) (by omega) x (wfVs_iff.mp hu.2.2 x hx)
              rcases List.mem_append.mp hx with hx | hx
              · exact old x (List.mem_of_mem_take hx)
              · exact old x (List.mem_of_mem_drop hx)
            have := out_rep (p := q) hv1 mk (by omega) h h'
            simp [encV, encVs_map] at this
            simp [encV, encT, encVs_map, cutD_to, cutD_from1]
            exact ⟨by omega, this⟩
          · cases e4
      | obj fs =>
        cases t with
        | i n => cases e4
        | s z =>
          simp only [wfV] at hu
          have mk : wfV 7 101 (.obj (fs.filter fun f => !decide (f.1 = z))) := by
            simp only [wfV]
            exact ⟨by omega, Nat.le_trans (List.length_filter_le _ _) (by omega), List.Pairwise.sublist List.filter_sublist hu.2.2.1, wfFs_iff.mpr fun x hx => ⟨(wfFs_iff.mp hu.2.2.2 x (List.mem_filter.mp hx).1).1, wfV_mono (by omega) (by omega) x.2 (wfFs_iff.mp hu.2.2.2 x (List.mem_filter.mp hx).1).2⟩⟩
          have := out_rep (p := q) hv1 mk (by omega) h h'
          simp only [encV, encFs_map] at this
          simp [encV, encT, encFs_map]
          refine lcD_filterA encFd encFd (fun f => !decide (f.1 = z)) (fun f _ => by cases f; simp [encFd]) (fun f hf Q q => ?_) (fun f hf Q q => ?_) (by simp; omega) ?_
          · cases f; simpa [C_take_1, encFd] using q
          · cases f; simpa [E_take_1, encFd] using q
          · simpa using this
      | _ => cases t <;> cases e4
/-! ### the primitive -/
def prim' (t : Path) : D := .tup [.str "swap", encP t]
def s_primitive : SD := fun ss Q => ∃ v t w, ss = [.d (prim' t), .d (encV v), .d (encV w)] ∧ t.length ≤ 10 ∧ wfV 16 200 v ∧ wfV 16 200 w ∧ (match replace v t w with
    | some v' => Q (.d (.tup [encV v', encV w]))
    | none => Q (.d .non))
theorem pure_primitive : ∀ ss Q, s_primitive ss Q → T_primitive s_put (s_replace 12) s_take s_lookup { nx := fun _ => Q (.d .non), rt := Q } (ss.map some ++ List.replicate 2 none) := by
  rintro ss Q ⟨v, t, w, rfl, ht, hv, hw, h⟩
  simp [T_primitive, prim']
  refine s_replace_i (by omega) hv hw (by omega) ?_
  cases e : replace v t w with
  | none => rw [e] at h; simpa using h
  | some v' => rw [e] at h; simpa using h
end Pk

/-! ## P7c -/
set_option Elab.async false
set_option linter.all false
set_option maxRecDepth 100000
set_option maxHeartbeats 4000000
namespace Pk
open PySem L2 Fm
/-! ### bounds of drawn formulas -/
def Wb : Nat → Nat
  | 0 => 1
  | d + 1 => 3 * Wb d + 300
def Xb : Nat → Nat
  | 0 => 3
  | d + 1 => 3 * Xb d + 102 * (Wb d + 1) + 500
/-- a drawn formula of depth d + 1 at most -/
structure gF (d : Nat) (f : Fm) : Prop where
  ok : okF true f
  dp : dep f ≤ d + 1
  w : wt f ≤ Wb d
  c : Cw f ≤ Xb d
  l : Fm.pl f ≤ 3 * d
theorem Wb_le (d : Nat) : Wb d ≤ Wb (d + 1) := by simp only [Wb]; omega
theorem Xb_le (d : Nat) : Xb d ≤ Xb (d + 1) := by simp only [Xb]; omega
theorem gF.up {d : Nat} {f : Fm} (h : gF d f) : gF (d + 1) f := ⟨h.ok, by have := h.dp; omega, Nat.le_trans h.w (Wb_le d), Nat.le_trans h.c (Xb_le d), by have := h.l; omega⟩
theorem gF.up0 {f : Fm} (h : gF 0 f) : ∀ d, gF d f
  | 0 => h
  | d + 1 => (gF.up0 h d).up
def kinds6 : List D := [.str "null", .str "bool", .str "int", .str "text", .str "list", .str "object"]
theorem kinds6_ok : ∀ d ∈ kinds6, ∃ k, d = .str k ∧ okF true (.kind k) := by
  intro d hd
  have e : kinds6 = ([("null" : Str), "bool", "int", "text", "list", "object"] : List Str).map D.str := rfl
  rw [e] at hd
  obtain ⟨z, hz, rfl⟩ := List.mem_map.mp hd
  exact ⟨z, rfl, hz⟩
def s_atom : SD := fun ss Q => ∃ v, ss = [.src, .d (encV v)] ∧ wfV 16 200 v ∧ ∀ f, gF 0 f → Q (.d (enc f))
theorem s_atom_i {v : Val} {Q : S → Prop} (h : wfV 16 200 v) (h2 : ∀ f, gF 0 f → Q (.d (enc f))) : s_atom [.src, .d (encV v)] Q := ⟨v, rfl, h, h2⟩
theorem gF0_kind {k : Str} (h : okF true (.kind k)) : gF 0 (.kind k) := ⟨h, by simp [dep], by simp [wt, Wb], by simp [Cw, Xb], by simp [Fm.pl]⟩
theorem kind_ok (v : Val) : okF true (.kind (kindOf v)) := by cases v <;> simp [okF, kindOf]
def atoms4 : List Fm := [.tru, .fls, .intFrom 0, .textIs "a"]
theorem atoms4_ok : ∀ f ∈ atoms4, gF 0 f := by
  have ha : okS "a" := (show okN 1 "a" by decide +kernel).ok (by decide)
  intro f hf
  simp only [atoms4, List.mem_cons, List.not_mem_nil, or_false] at hf
  rcases hf with rfl | rfl | rfl | rfl <;> exact ⟨by first | trivial | exact ha, by simp [dep], by simp [wt, Wb], by simp [Cw, Xb], by simp [Fm.pl]⟩
theorem encV0 (v : Val) : ∃ r, encV v = .tup (.str (kindOf v) :: r) := by cases v <;> exact ⟨_, rfl⟩
theorem mx0 (x : Int) : 0 ≤ (if x > 0 then x else 0) := by split <;> omega
theorem pure_atom : ∀ ss Q, s_atom ss Q → T_atom s_draw { nx := fun _ => Q (.d .non), rt := Q } (ss.map some ++ List.replicate 1 none) := by
  rintro ss Q ⟨v, rfl, hv, h⟩
  have mk : ∀ f : Fm, okF true f → dep f = 1 → wt f = 1 → Cw f = 3 → Fm.pl f = 0 → Q (.d (enc f)) := fun f a b c d e => h f ⟨a, by omega, by simp only [Wb]; omega, by simp only [Xb]; omega, by omega⟩
  simp [T_atom]
  refine s_draw_i (by decide) (by decide) fun k k0 k1 => ?_
  simp
  by_cases c0 : k = 0
  · simp [c0]
    refine s_draw_i (by decide) (by decide) fun k k0 k1 => ?_
    obtain ⟨d, hd, e⟩ := atI_in (xs := kinds6) k0 (by simpa [kinds6] using k1)
    obtain ⟨z, rfl, hz⟩ := kinds6_ok d hd
    unfold kinds6 at e
    simp [e]
    exact h (.kind z) (gF0_kind hz)
  · by_cases c1 : k = 1
    · obtain ⟨r, e⟩ := encV0 v
      simp [c1, e]
      exact h (.kind (kindOf v)) (gF0_kind (kind_ok v))
    · have last : ∀ P : Prop, True := fun _ => trivial
      have fin : s_draw [.src, .d (.int 4)] fun s => fIx (.own (atoms4.map enc)) s Q := s_draw_i (by decide) (by decide) fun k k0 k1 => by
        obtain ⟨d, hd, e⟩ := atI_in (xs := atoms4.map enc) k0 (by simpa [atoms4] using k1)
        obtain ⟨f, hf, rfl⟩ := List.mem_map.mp hd
        simp [e]
        exact h f (atoms4_ok f hf)
      simp only [atoms4, List.map_cons, List.map_nil, enc] at fin
      cases v with
      | int n =>
        simp [c0, c1, encV]
        refine s_draw_i (by decide) (by decide) fun j j0 j1 => ?_
        simp
        exact mk (.intFrom _) trivial rfl rfl rfl rfl
      | text z =>
        have hz : okS z := hv
        have hz2 : z.length ≤ 1000000 := by have := hz.2; omega
        by_cases c2 : k < 4
        · simp [c0, c1, c2, encV]
          exact mk (.textIs z) hz rfl rfl rfl rfl
        · simp [c0, c1, c2, encV, hz2]
          refine s_draw_i (by decide) (by decide) fun j j0 j1 => ?_
          simp
          refine mk (.textFrom _) ?_ rfl rfl rfl rfl
          simp only [okF]
          split <;> omega
      | list xs =>
        simp [c0, c1, encV, encVs_map]
        refine s_draw_i (by decide) (by decide) fun j j0 j1 => ?_
        simp
        refine mk (.itemsFrom _) ?_ rfl rfl rfl rfl
        simp only [okF]
        split <;> omega
      | bool b =>
        simp [c0, c1, encV]
        refine s_draw_i (by decide) (by decide) fun j j0 j1 => ?_
        simp
        exact mk (.boolIs _) trivial rfl rfl rfl rfl
      | nul =>
        simp [c0, c1, encV]
        simpa using fin
      | obj fs =>
        simp [c0, c1, encV]
        simpa using fin
/-! ### item_of, every, formula -/
def s_item_of : SD := fun ss Q => ∃ v, ss = [.src, .d (encV v)] ∧ wfV 16 200 v ∧ ∀ c, wfV 16 200 c → Q (.d (encV c))
theorem s_item_of_i {v : Val} {Q : S → Prop} (h : wfV 16 200 v) (h2 : ∀ c, wfV 16 200 c → Q (.d (encV c))) : s_item_of [.src, .d (encV v)] Q := ⟨v, rfl, h, h2⟩
theorem pure_item_of : ∀ ss Q, s_item_of ss Q → T_item_of s_child s_leaf s_token { nx := fun _ => Q (.d .non), rt := Q } (ss.map some ++ List.replicate 1 none) := by
  rintro ss Q ⟨v, rfl, hv, h⟩
  simp [T_item_of]
  refine s_token_i hv ?_ fun t c hc ht => ?_
  · simp
    exact s_leaf_i fun c hc => h c (wfV_mono (by omega) (by omega) c hc)
  · have st : stor (.d (encT t)) = True := rfl
    simp
    refine s_child_i ?_
    simp [hc]
    exact h c (wfV_mono (by omega) (Nat.le_refl _) c (child_wf hv hc).2)
def s_formula (n : Nat) : SD := fun ss Q => ∃ (d : Nat) (v : Val), ss = [.src, .d (encV v), .d (.int ((d : Int) + 1))] ∧ d ≤ n ∧ wfV 16 200 v ∧ ∀ f, gF d f → Q (.d (enc f))
theorem s_formula_i {n d : Nat} {v : Val} {j : Int} {Q : S → Prop} (hn : d ≤ n) (e : j = (d : Int) + 1) (h : wfV 16 200 v) (h2 : ∀ f, gF d f → Q (.d (enc f))) : s_formula n [.src, .d (encV v), .d (.int j)] Q := ⟨d, v, by rw [e], hn, h, h2⟩
def s_every (n : Nat) : SD := fun ss Q => ∃ (d : Nat) (v : Val), ss = [.src, .d (encV v), .d (.int ((d : Int) + 2))] ∧ d ≤ n ∧ wfV 16 200 v ∧ ∀ f, gF (d + 1) f → Q (.d (enc f))
theorem s_every_i {n d : Nat} {v : Val} {j : Int} {Q : S → Prop} (hn : d ≤ n) (e : j = (d : Int) + 2) (h : wfV 16 200 v) (h2 : ∀ f, gF (d + 1) f → Q (.d (enc f))) : s_every n [.src, .d (encV v), .d (.int j)] Q := ⟨d, v, by rw [e], hn, h, h2⟩
theorem gF_item {d : Nat} {f : Fm} {n : Int} (h : gF d f) (hn : 0 ≤ n) : gF (d + 1) (.eachItem n f) := ⟨⟨hn, h.ok⟩, by have := h.dp; simp only [dep]; omega, by have := h.w; simp only [wt, Wb]; omega, by
  have := h.w; have := h.c; simp only [Cw, Xb]; omega, by have := h.l; simp only [Fm.pl]; omega⟩
theorem gF_field {d : Nat} {f : Fm} {ns : List Str} (h : gF d f) (hn : ∀ z ∈ ns, okS z) (hl : ns.length ≤ 201) : gF (d + 1) (.eachField ns f) := ⟨⟨hn, h.ok⟩, by have := h.dp; simp only [dep]; omega, by have := h.w; simp only [wt, Wb]; omega, by
  have := h.w; have := h.c; simp only [Cw, Xb]; omega, by have := h.l; simp only [Fm.pl]; omega⟩
/-- with a test that may go either way, elements of one kind -/
theorem lcD_genS {α : Type} {i : Nat} {Tt : TDT} {Te : TDE} {ρ : DE} (e : α → D) (P : α → Prop) {xs : List D} {Q : List D → Prop} (hn : ∀ a, P a → noInt (e a)) (ht : ∀ x ∈ xs, ∀ Q : Bool → Prop, (∀ b, Q b) → Tt (ρ.set i (some (.d x))) Q) (he : ∀ x ∈ xs, ∀ Q : S → Prop, (∀ a, P a → Q (.d (e a))) → Te (ρ.set i (some (.d x))) Q) (hl : xs.length ≤ 1000000)
    (h : ∀ as : List α, as.length ≤ xs.length → (∀ a ∈ as, P a) → Q (as.map e)) : lcD i Tt Te ρ xs [] Q := by
  refine lcD_some (P := fun y => ∃ a, P a ∧ y = e a) (fun y ⟨a, pa, z⟩ => by rw [z]; exact hn a pa) ht (fun x hx Q q => he x hx Q fun a pa => q _ ⟨a, pa, rfl⟩) (by simpa using hl) fun ys ly pys => ?_
  have : ∃ as : List α, ys = as.map e ∧ ∀ a ∈ as, P a := by
    clear ly
    induction ys with
    | nil => exact ⟨[], rfl, fun _ z => nomatch z⟩
    | cons y r ih =>
      obtain ⟨as, e1, e3⟩ := ih fun y hy => pys y (by simp [hy])
      obtain ⟨a, pa, rfl⟩ := pys y (by simp)
      exact ⟨a :: as, by simp [e1], fun b hb => by
        rcases List.mem_cons.mp hb with rfl | hb
        · exact pa
        · exact e3 b hb⟩
  obtain ⟨as, rfl, e3⟩ := this
  simpa using h as (by simpa using ly) e3
theorem pure_every (n : Nat) : ∀ ss Q, s_every n ss Q → T_every s_draw s_name s_item_of (s_formula n) { nx := fun _ => Q (.d .non), rt := Q } (ss.map some ++ List.replicate 4 none) := by
  rintro ss Q ⟨d, v, rfl, hn, hv, h⟩
  simp [T_every]
  refine s_item_of_i hv fun c hc => ?_
  simp
  refine s_formula_i hn (by omega) hc fun f hf => ?_
  have fld : ∀ ns : List Str, ns.length ≤ 201 → (∀ z ∈ ns, okS z) → Q (.d (.tup [.str "each_field", .tup (ns.map D.str), enc f])) := fun ns hl hn => h _ (gF_field hf hn hl)
  simp
  cases v with
  | list xs =>
    simp only [encV, fIx_t, atI_cons0, fEq_ss]
    simp
    refine s_draw_i (by decide) (by decide) fun k k0 k1 => ?_
    by_cases c : k = 0
    · simp [c]
      exact s_draw_i (by decide) (by decide) fun n n0 n1 => by simpa [enc] using h _ (gF_item hf n0)
    · simp [c]
      exact s_draw_i (by decide) (by decide) fun n n0 n1 => by simpa [enc] using h _ (gF_item hf n0)
  | obj fs =>
    simp only [wfV] at hv
    simp [encV, encFs_map]
    refine s_draw_i (by decide) (by decide) fun k k0 k1 => ?_
    simp
    refine ⟨⟨by omega, by omega⟩, ?_⟩
    refine lcD_gen D.str okS (fun _ _ => trivial) (fun x hx Q q => ?_) (by rw [rngD_len']; omega) fun ns ln on => ?_
    · simp [E_every_2]
      exact s_name_i q
    · rw [rngD_len'] at ln
      refine lcD_genS D.str okS (fun _ _ => trivial) (fun x hx Q q => ?_) (fun x hx Q q => ?_) (by simp; omega) fun ms lm om => ?_
      · simp [C_every_1]
        refine s_draw_i (by decide) (by decide) fun k k0 k1 => ?_
        simpa using q _
      · obtain ⟨⟨z, w⟩, hz, rfl⟩ := List.mem_map.mp hx
        simp [E_every_1, encFd]
        exact q z (wfFs_iff.mp hv.2.2.2 _ hz).1
      · simp at lm
        have := fld (ns ++ ms) (by simp; omega) (fun z hz => by
          rcases List.mem_append.mp hz with hz | hz
          · exact on z hz
          · exact om z hz)
        simp only [List.map_append] at this
        simp
        refine ⟨by omega, nsrcD_of fun y hy => ?_, this⟩
        rcases List.mem_append.mp hy with hy | hy <;> (obtain ⟨z, _, rfl⟩ := List.mem_map.mp hy; trivial)
  | _ =>
    simp only [encV, fIx_t, atI_cons0, fEq_ss, fNe_ss]
    simp
    refine s_draw_i (by decide) (by decide) fun k k0 k1 => ?_
    simp
    split
    · try simp
      refine s_draw_i (by decide) (by decide) fun k k0 k1 => ?_
      by_cases c : k = 0
      · simp [c]
        exact s_draw_i (by decide) (by decide) fun n n0 n1 => by simpa [enc] using h _ (gF_item hf n0)
      · simp [c]
        exact s_draw_i (by decide) (by decide) fun n n0 n1 => by simpa [enc] using h _ (gF_item hf n0)
    · refine s_draw_i (by decide) (by decide) fun k k0 k1 => ?_
      simp
      refine ⟨⟨by omega, by omega⟩, ?_⟩
      refine lcD_gen D.str okS (fun _ _ => trivial) (fun x hx Q q => ?_) (by rw [rngD_len']; omega) fun ns ln on => ?_
      · simp [E_every_2]
        exact s_name_i q
      · rw [rngD_len'] at ln
        exact fld ns (by omega) on
/-! ### formula -/
theorem pure_formula0 {se sf : SD} : ∀ ss Q, s_formula 0 ss Q → T_formula se sf s_leaf s_lookup s_path s_draw s_atom { nx := fun _ => Q (.d .non), rt := Q } (ss.map some ++ List.replicate 5 none) := by
  rintro ss Q ⟨d, v, rfl, hn, hv, h⟩
  have e : d = 0 := by omega
  subst e
  simp [T_formula]
  refine s_draw_i (by decide) (by decide) fun k k0 k1 => ?_
  simp
  exact s_atom_i hv h
theorem wtL_le {n : Nat} : ∀ {fs : List Fm}, (∀ f ∈ fs, wt f ≤ n) → wtL fs ≤ fs.length * n
  | [], _ => by simp [wtL]
  | f :: r, h => by
    have := wtL_le (fs := r) fun g hg => h g (by simp [hg])
    have := h f (by simp)
    simp only [wtL, List.length_cons, Nat.succ_mul]; omega
theorem CwL_le {n : Nat} : ∀ {fs : List Fm}, (∀ f ∈ fs, Cw f ≤ n) → CwL fs ≤ fs.length * n
  | [], _ => by simp [CwL]
  | f :: r, h => by
    have := CwL_le (fs := r) fun g hg => h g (by simp [hg])
    have := h f (by simp)
    simp only [CwL, List.length_cons, Nat.succ_mul]; omega
theorem depL_le {n : Nat} : ∀ {fs : List Fm}, (∀ f ∈ fs, dep f ≤ n) → depL fs ≤ n
  | [], _ => by simp [depL]
  | f :: r, h => by
    have := depL_le (fs := r) fun g hg => h g (by simp [hg])
    have := h f (by simp)
    simp only [depL]; omega
theorem plL_le {n : Nat} : ∀ {fs : List Fm}, (∀ f ∈ fs, Fm.pl f ≤ n) → plL fs ≤ n
  | [], _ => by simp [plL]
  | f :: r, h => by
    have := plL_le (fs := r) fun g hg => h g (by simp [hg])
    have := h f (by simp)
    simp only [plL]; omega
theorem gF_list {d : Nat} {fs : List Fm} (h : ∀ f ∈ fs, gF d f) (hl : fs.length ≤ 3) : gF (d + 1) (.conj fs) ∧ gF (d + 1) (.disj fs) := by
  have h1 := okFs_iff.mpr fun f hf => (h f hf).ok
  have h2 := depL_le fun f hf => (h f hf).dp
  have h3 := wtL_le fun f hf => (h f hf).w
  have h4 := CwL_le fun f hf => (h f hf).c
  have h5 := plL_le fun f hf => (h f hf).l
  have h6 : fs.length * Wb d ≤ 3 * Wb d := Nat.mul_le_mul_right _ hl
  have h7 : fs.length * Xb d ≤ 3 * Xb d := Nat.mul_le_mul_right _ hl
  constructor
  · exact ⟨h1, by simp only [dep]; omega, by simp only [wt, Wb]; omega, by simp only [Cw, Xb]; omega, by simp only [Fm.pl]; omega⟩
  · exact ⟨h1, by simp only [dep]; omega, by simp only [wt, Wb]; omega, by simp only [Cw, Xb]; omega, by simp only [Fm.pl]; omega⟩
theorem gF_neg {d : Nat} {f : Fm} (h : gF d f) : gF (d + 1) (.neg f) := ⟨h.ok, by have := h.dp; simp only [dep]; omega, by have := h.w; simp only [wt, Wb]; omega, by have := h.c; simp only [Cw, Xb]; omega, by have := h.l; simp only [Fm.pl]; omega⟩
theorem gF_at {d : Nat} {f : Fm} {p : Path} (h : gF d f) (hp : ∀ t ∈ p, okTok t) (hl : p.length ≤ 3) : gF (d + 1) (.at_ p f) := ⟨⟨hp, h.ok⟩, by have := h.dp; simp only [dep]; omega, by have := h.w; simp only [wt, Wb]; omega, by have := h.c; simp only [Cw, Xb]; omega, by have := h.l; simp only [Fm.pl]; omega⟩
theorem pure_formula (n : Nat) : ∀ ss Q, s_formula (n + 1) ss Q → T_formula (s_every n) (s_formula n) s_leaf s_lookup s_path s_draw s_atom { nx := fun _ => Q (.d .non), rt := Q } (ss.map some ++ List.replicate 5 none) := by
  rintro ss Q ⟨d, v, rfl, hn, hv, h⟩
  by_cases hd : d = 0
  · exact pure_formula0 _ _ ⟨d, v, rfl, by omega, hv, h⟩
  obtain ⟨d, rfl⟩ : ∃ e, d = e + 1 := ⟨d - 1, by omega⟩
  have hn : d ≤ n := by omega
  have e0 : ¬ ((d : Int) + 1 + 1 < 2) := by omega
  simp [T_formula, e0]
  refine s_draw_i (by decide) (by decide) fun k k0 k1 => ?_
  simp
  by_cases c0 : k < 2
  · simp [c0]
    exact s_atom_i hv fun f hf => h f (hf.up0 (d + 1))
  · by_cases c1 : k = 2
    · simp [c1]
      refine s_formula_i (d := d) hn (by omega) hv fun f hf => ?_
      simp
      exact h _ (gF_neg hf)
    · by_cases c2 : k < 5
      · have c3 : k = 3 ∨ k = 4 := by omega
        rcases c3 with rfl | rfl
        · simp
          refine s_draw_i (by decide) (by decide) fun j j0 j1 => ?_
          simp
          refine ⟨⟨by omega, by omega⟩, ?_⟩
          refine lcD_gen enc (gF d) (fun f _ => noInt_enc f) (fun x hx Q q => ?_) (by rw [rngD_len']; omega) fun fs lf of => ?_
          · simp [E_formula_1]
            exact s_formula_i (d := d) hn (by omega) hv q
          · rw [rngD_len'] at lf
            simpa [enc, encL_map] using h _ (gF_list of (by omega)).1
        · simp
          refine s_draw_i (by decide) (by decide) fun j j0 j1 => ?_
          simp
          refine ⟨⟨by omega, by omega⟩, ?_⟩
          refine lcD_gen enc (gF d) (fun f _ => noInt_enc f) (fun x hx Q q => ?_) (by rw [rngD_len']; omega) fun fs lf of => ?_
          · simp [E_formula_1]
            exact s_formula_i (d := d) hn (by omega) hv q
          · rw [rngD_len'] at lf
            simpa [enc, encL_map] using h _ (gF_list of (by omega)).2
      · by_cases c3 : k < 8
        · simp [c0, c1, c2, c3]
          refine s_path_i (m := 3) rfl hv (by decide) fun p hp ht => ?_
          have vp : view (.d (encP p)) = .d (encP p) := rfl
          simp
          refine s_lookup_i ?_
          cases e : lookup v p with
          | none =>
            simp
            refine s_leaf_i fun c hc => ?_
            have hc' : wfV 16 200 c := wfV_mono (by omega) (by omega) c hc
            simp
            refine s_formula_i (d := d) hn (by omega) hc' fun f hf => ?_
            simp [encP] 
            simpa [enc, encP] using h _ (gF_at hf (fun t z => (ht t z).1) hp)
          | some u =>
            simp
            refine s_formula_i (d := d) hn (by omega) (lookup_wf hv e) fun f hf => ?_
            simp [encP] 
            simpa [enc, encP] using h _ (gF_at hf (fun t z => (ht t z).1) hp)
        · simp [c0, c1, c2, c3]
          exact s_every_i (d := d) hn (by omega) hv h
end Pk

/-! ## P7d -/
set_option Elab.async false
set_option linter.all false
set_option maxRecDepth 100000
set_option maxHeartbeats 4000000
namespace Pk
open PySem L2 Fm
def s_changed : SD := fun ss Q => ∃ v, ss = [.src, .d (encV v)] ∧ wfV 6 100 v ∧ ∀ w, wfV 16 200 w → Q (.d (encV w))
theorem s_changed_i {v : Val} {Q : S → Prop} (h : wfV 6 100 v) (h2 : ∀ w, wfV 16 200 w → Q (.d (encV w))) : s_changed [.src, .d (encV v)] Q := ⟨v, rfl, h, h2⟩
theorem pure_changed : ∀ ss Q, s_changed ss Q → T_changed s_leaf (s_replace 12) s_target s_put s_take s_draw s_path { nx := fun _ => Q (.d .non), rt := Q } (ss.map some ++ List.replicate 3 none) := by
  rintro ss Q ⟨v, rfl, hv, h⟩
  have hv2 : wfV 16 200 v := wfV_mono (by omega) (by omega) v hv
  have h0 := h v hv2
  simp [T_changed]
  refine s_path_i (m := 3) rfl hv2 (by decide) fun p hp ht => ?_
  have vp : view (.d (encP p)) = .d (encP p) := rfl
  have sp : stor (.d (encP p)) = True := rfl
  simp
  refine s_draw_i (by decide) (by decide) fun k k0 k1 => ?_
  have hk : k = 0 ∨ k = 1 ∨ k = 2 := by omega
  simp
  rcases hk with rfl | rfl | rfl
  · simp
    refine ⟨v, p, rfl, hv, by omega, ?_, fun w hw => ?_⟩
    · simpa using h0
    · simpa using h w hw
  · simp
    refine ⟨v, rfl, hv2, fun q hq hq2 => ?_⟩
    simp
    refine s_leaf_i fun w hw => ?_
    simp
    refine ⟨v, q, w, rfl, hv, wfV_mono (by omega) (by omega) w hw, by omega, fun t z => ?_, ?_, fun w hw => ?_⟩
    · rcases hq2 t z with z | z
      · cases t with
        | s y => exact z
        | i n =>
          simp only [okTok] at z
          simp only [okPut]; omega
      · subst z
        simp only [okPut]; omega
    · simpa using h0
    · simpa using h w hw
  · simp
    refine s_leaf_i fun w hw => ?_
    simp
    refine s_replace_i (e := 0) (by omega) hv (wfV_mono (Nat.le_refl 0) (by omega) w hw) (by omega) ?_
    cases e : replace v p w with
    | none => simpa using h0
    | some v' => simpa using h v' (wfV_mono (by omega) (by omega) v' (replace_wf (wfV_mono (Nat.le_refl 0) (by omega) w hw) hv e))
/-- what near gives -/
structure gN (f : Fm) : Prop where
  ok : okF true f
  dp : dep f ≤ 5
  w : wt f ≤ 5000
  c : Cw f ≤ 230000
  l : Fm.pl f ≤ 20
theorem W3 : Wb 3 = 3927 := by decide
theorem X3 : Xb 3 = 224861 := by decide
theorem gF.gN {f : Fm} (h : gF 3 f) : gN f := ⟨h.ok, by have := h.dp; omega, by have := h.w; rw [W3] at this; omega, by have := h.c; rw [X3] at this; omega, by have := h.l; omega⟩
theorem gF.gNat {f : Fm} {p : Path} (h : gF 3 f) (hp : ∀ t ∈ p, okTok t) (hl : p.length ≤ 6) : Pk.gN (.at_ p f) := ⟨⟨hp, h.ok⟩, by have := h.dp; simp only [dep]; omega, by have := h.w; rw [W3] at this; simp only [wt]; omega, by have := h.c; rw [X3] at this; simp only [Cw]; omega, by have := h.l; simp only [Fm.pl]; omega⟩
def s_near : SD := fun ss Q => ∃ v p, ss = [.src, .d (encV v), .d (encP p)] ∧ wfV 16 200 v ∧ p.length ≤ 6 ∧ (∀ t ∈ p, okTok t) ∧ ∀ f, gN f → Q (.d (enc f))
theorem s_near_i {v : Val} {p : Path} {Q : S → Prop} (h : wfV 16 200 v) (hl : p.length ≤ 6) (hp : ∀ t ∈ p, okTok t) (h2 : ∀ f, gN f → Q (.d (enc f))) : s_near [.src, .d (encV v), .d (encP p)] Q := ⟨v, p, rfl, h, hl, hp, h2⟩
theorem pure_near : ∀ ss Q, s_near ss Q → T_near (s_formula 3) s_draw (s_every 2) s_lookup { nx := fun _ => Q (.d .non), rt := Q } (ss.map some ++ List.replicate 2 none) := by
  rintro ss Q ⟨v, p, rfl, hv, hl, hp, h⟩
  simp [T_near]
  refine s_draw_i (by omega) (small200 (by omega) (by omega)) fun k k0 k1 => ?_
  obtain ⟨n, rfl⟩ : ∃ n : Nat, k = n := ⟨k.toNat, by omega⟩
  have vp : view (.d (encP (p.take n))) = .d (encP (p.take n)) := rfl
  simp
  refine s_lookup_i ?_
  have ht : ∀ t ∈ p.take n, okTok t := fun t z => hp t (List.mem_of_mem_take z)
  have hl2 : (p.take n).length ≤ 6 := by rw [List.length_take]; omega
  cases e : lookup v (p.take n) with
  | none =>
    simp
    exact s_formula_i (d := 3) (by omega) rfl hv fun f hf => h f hf.gN
  | some u =>
    have hu := lookup_wf hv e
    simp
    refine s_draw_i (by decide) (by decide) fun k k0 k1 => ?_
    by_cases c : k = 0
    · simp [c]
      exact s_formula_i (d := 3) (by omega) rfl hv fun f hf => h f hf.gN
    · simp [c]
      refine s_draw_i (by decide) (by decide) fun k k0 k1 => ?_
      by_cases c : k = 0
      · simp [c]
        refine s_every_i (d := 2) (by omega) rfl hu fun f hf => ?_
        simpa [enc, encP] using h _ (hf.gNat ht hl2)
      · simp [c]
        refine s_formula_i (d := 2) (by omega) rfl hu fun f hf => ?_
        simpa [enc, encP] using h _ (hf.up.gNat ht hl2)
/-- what mixed gives -/
structure gM (f : Fm) : Prop where
  ok : okF false f
  dp : dep f ≤ 7
  w : wt f ≤ 20000
  c : Cr f ≤ 600000
  l : Fm.pl f ≤ 20
theorem ok_up : ∀ f : Fm, okF true f → okF false f := by
  have key : ∀ n, ∀ f : Fm, sizeOf f ≤ n → okF true f → okF false f := by
    intro n
    induction n with
    | zero => intro f hf; cases f <;> simp at hf
    | succ n ih =>
      intro f hf h
      cases f with
      | neg f => simp only [okF] at h ⊢; exact ih f (by simp at hf; omega) h
      | conj fs =>
        simp only [okF] at h ⊢
        exact okFs_iff.mpr fun g hg => ih g (by have := List.sizeOf_lt_of_mem hg; simp at hf; omega) (okFs_iff.mp h g hg)
      | disj fs =>
        simp only [okF] at h ⊢
        exact okFs_iff.mpr fun g hg => ih g (by have := List.sizeOf_lt_of_mem hg; simp at hf; omega) (okFs_iff.mp h g hg)
      | held g => simp only [okF] at h; exact absurd h.1 (by decide)
      | _ => exact h
  exact fun f => key _ f (Nat.le_refl _)
theorem Cr_le : ∀ f : Fm, okF true f → Cr f ≤ Cw f + 4 * wt f := by
  have key : ∀ n, ∀ f : Fm, sizeOf f ≤ n → okF true f → Cr f ≤ Cw f + 4 * wt f := by
    intro n
    induction n with
    | zero => intro f hf; cases f <;> simp at hf
    | succ n ih =>
      have lst : ∀ fs : List Fm, sizeOf fs ≤ n → okFs true fs → CrL fs ≤ CwL fs + 4 * wtL fs := by
        intro fs
        induction fs with
        | nil => intros; simp [CrL]
        | cons f r ih2 =>
          intro hf h
          simp only [okFs] at h
          simp at hf
          have := ih f (by omega) h.1
          have := ih2 (by omega) h.2
          simp only [CrL, CwL, wtL]; omega
      intro f hf h
      cases f with
      | neg f =>
        simp only [okF] at h
        have := ih f (by simp at hf; omega) h
        simp only [Cr, Cw, wt]; omega
      | conj fs =>
        simp only [okF] at h
        have := lst fs (by simp at hf; omega) h
        simp only [Cr, Cw, wt]; omega
      | disj fs =>
        simp only [okF] at h
        have := lst fs (by simp at hf; omega) h
        simp only [Cr, Cw, wt]; omega
      | held g => simp only [okF] at h; exact absurd h.1 (by decide)
      | _ => simp only [Cr, Cw, wt] <;> omega
  exact fun f => key _ f (Nat.le_refl _)
def s_mixed : SD := fun ss Q => ∃ v p w, ss = [.src, .d (encV v), .d (encP p), .d (encV w)] ∧ wfV 16 200 v ∧ wfV 16 200 w ∧ p.length ≤ 6 ∧ (∀ t ∈ p, okTok t) ∧ ∀ f, gM f → Q (.d (enc f))
theorem s_mixed_i {v w : Val} {p : Path} {Q : S → Prop} (h : wfV 16 200 v) (h1 : wfV 16 200 w) (hl : p.length ≤ 6) (hp : ∀ t ∈ p, okTok t) (h2 : ∀ f, gM f → Q (.d (enc f))) : s_mixed [.src, .d (encV v), .d (encP p), .d (encV w)] Q := ⟨v, p, w, rfl, h, h1, hl, hp, h2⟩
/-- bounds of a part -/
structure gP (f : Fm) : Prop where
  ok : okF false f
  dp : dep f ≤ 6
  w : wt f ≤ 5001
  c : Cr f ≤ 250100
  l : Fm.pl f ≤ 20
theorem gP.neg {f : Fm} (h : gN f) : gP (.neg f) := by
  have := Cr_le f h.ok
  have := h.dp; have := h.w; have := h.c; have := h.l
  exact ⟨ok_up f h.ok, by simp only [dep]; omega, by simp only [wt]; omega, by simp only [Cr]; omega, by simp only [Fm.pl]; omega⟩
theorem gN.P {f : Fm} (h : gN f) : gP f := by
  have := Cr_le f h.ok
  have := h.dp; have := h.w; have := h.c; have := h.l
  exact ⟨ok_up f h.ok, by omega, by omega, by omega, by omega⟩
theorem gP.held {f : Fm} (h : gF 3 f) : gP (.held f) := by
  have := h.dp; have hw := h.w; rw [W3] at hw; have := h.l
  exact ⟨⟨rfl, h.ok⟩, by simp only [dep]; omega, by simp only [wt]; omega, by simp only [Cr]; omega, by simp only [Fm.pl]; omega⟩
theorem gP.nheld {f : Fm} (h : gF 3 f) : gP (.neg (.held f)) := by
  have := h.dp; have hw := h.w; rw [W3] at hw; have := h.l
  exact ⟨⟨rfl, h.ok⟩, by simp only [dep]; omega, by simp only [wt]; omega, by simp only [Cr]; omega, by simp only [Fm.pl]; omega⟩
theorem gP.M {f : Fm} (h : gP f) : gM f := by
  have := h.dp; have := h.w; have := h.c; have := h.l
  exact ⟨h.ok, by omega, by omega, by omega, by omega⟩
theorem gP.conj {f g : Fm} (h : gP f) (k : gP g) : gM (.conj [f, g]) := by
  have := h.dp; have := h.w; have := h.c; have := h.l
  have := k.dp; have := k.w; have := k.c; have := k.l
  exact ⟨⟨h.ok, k.ok, trivial⟩, by simp only [dep, depL]; omega, by simp only [wt, wtL]; omega, by simp only [Cr, CrL]; omega, by simp only [Fm.pl, plL]; omega⟩
theorem gP.disj {f g : Fm} (h : gP f) (k : gP g) : gM (.disj [f, g]) := by
  have := h.dp; have := h.w; have := h.c; have := h.l
  have := k.dp; have := k.w; have := k.c; have := k.l
  exact ⟨⟨h.ok, k.ok, trivial⟩, by simp only [dep, depL]; omega, by simp only [wt, wtL]; omega, by simp only [Cr, CrL]; omega, by simp only [Fm.pl, plL]; omega⟩
theorem pure_mixed : ∀ ss Q, s_mixed ss Q → T_mixed (s_formula 3) s_draw s_near { nx := fun _ => Q (.d .non), rt := Q } (ss.map some ++ List.replicate 3 none) := by
  rintro ss Q ⟨v, p, w, rfl, hv, hw, hl, hp, h⟩
  simp [T_mixed]
  refine s_near_i hv hl hp fun f hf => ?_
  simp
  refine s_near_i hv hl hp fun g hg => ?_
  simp
  refine s_draw_i (by decide) (by decide) fun k k0 k1 => ?_
  simp
  by_cases c : 4 < k
  · have hk : k = 5 ∨ k = 6 := by omega
    rcases hk with rfl | rfl
    · simp
      refine s_formula_i (d := 2) (by omega) rfl hw fun u hu => ?_
      simp
      simpa [enc, encL] using h _ (hf.P.conj (gP.held hu.up))
    · simp
      refine s_formula_i (d := 2) (by omega) rfl hw fun u hu => ?_
      simp
      simpa [enc, encL] using h _ ((gP.nheld hu.up).disj hg.P)
  · have hk : k = 0 ∨ k = 1 ∨ k = 2 ∨ k = 3 ∨ k = 4 := by omega
    have a3 : ∀ (a b c d e : D), atI [a, b, c, d, e] 3 = some d := fun a b c d e => atI_nat (j := 3) rfl
    have a4 : ∀ (a b c d e : D), atI [a, b, c, d, e] 4 = some e := fun a b c d e => atI_nat (j := 4) rfl
    rcases hk with rfl | rfl | rfl | rfl | rfl
    · have e : (0 : Int).fmod 5 = 0 := by decide
      simp [e]
      exact h _ hf.P.M
    · have e : (1 : Int).fmod 5 = 1 := by decide
      simp [e]
      exact h _ (gP.neg hf).M
    · have e : (2 : Int).fmod 5 = 2 := by decide
      simp [e]
      simpa [enc, encL] using h _ (hf.P.conj hg.P)
    · have e : (3 : Int).fmod 5 = 3 := by decide
      simp [e, a3]
      simpa [enc, encL] using h _ (hf.P.disj hg.P)
    · have e : (4 : Int).fmod 5 = 4 := by decide
      simp [e, a4]
      simpa [enc, encL] using h _ ((gP.neg hf).conj hg.P)
end Pk

/-! ## P5 -/
set_option Elab.async false
set_option linter.all false
set_option maxRecDepth 100000
set_option maxHeartbeats 4000000
namespace Pk
open PySem L2 Fm
@[simp] theorem bools_map {α : Type} (g : α → Bool) : ∀ xs : List α, bools (xs.map fun x => D.bl (g x)) = some (xs.map g)
  | [] => rfl
  | x :: r => by simp [bools_map g r]
theorem holdsA_map (v h : Val) : ∀ fs : List Fm, holdsA fs v h = (fs.map fun f => holds f v h).all id
  | [] => by simp [holdsA]
  | f :: r => by simp [holdsA, holdsA_map v h r]
theorem holdsO_map (v h : Val) : ∀ fs : List Fm, holdsO fs v h = (fs.map fun f => holds f v h).any id
  | [] => by simp [holdsO]
  | f :: r => by simp [holdsO, holdsO_map v h r]
/-- comparing a whole value with a short tuple -/
theorem eqv_bool (v : Val) (b : Bool) : PyData.eqv (toP (encV v)) (toP (.tup [.str "bool", .bl b])) = (match v with
    | .bool c => decide (c = b)
    | _ => false) := by
  cases v with
  | bool c => simp [encV, toP, toPs, PyData.eqv, PyData.eqvAll, Bool.beq_eq_decide_eq]
  | _ => simp [encV, toP, toPs, PyData.eqv, PyData.eqvAll]
theorem eqv_text (v : Val) (z : Str) : PyData.eqv (toP (encV v)) (toP (.tup [.str "text", .str z])) = (match v with
    | .text y => decide (y = z)
    | _ => false) := by
  cases v with
  | text c => simp [encV, toP, toPs, PyData.eqv, PyData.eqvAll, Bool.beq_eq_decide_eq]
  | _ => simp [encV, toP, toPs, PyData.eqv, PyData.eqvAll]
def s_holds (d : Nat) : SD := fun ss Q => ∃ f v h hd, ss = [.d (enc f), .d (encV v), .d hd] ∧ dep f ≤ d ∧ wt f ≤ 900000 ∧ wfV 20 900 v ∧ (okF true f ∨ (okF false f ∧ hd = encV h ∧ wfV 20 900 h)) ∧ Q (.d (.bl (holds f v h)))
theorem s_holds_i {d : Nat} {f : Fm} {v h : Val} {hd : D} {Q : S → Prop} (h1 : dep f ≤ d) (h2 : wt f ≤ 900000) (h3 : wfV 20 900 v) (h4 : okF true f ∨ (okF false f ∧ hd = encV h ∧ wfV 20 900 h)) (q : Q (.d (.bl (holds f v h)))) : s_holds d [.d (enc f), .d (encV v), .d hd] Q := ⟨f, v, h, hd, rfl, h1, h2, h3, h4, q⟩
theorem wtL_mem {f : Fm} : ∀ {fs : List Fm}, f ∈ fs → wt f ≤ wtL fs
  | g :: r, h => by
    simp only [wtL]
    rcases List.mem_cons.mp h with rfl | h
    · omega
    · have := wtL_mem h; omega
theorem fEq_vt {v : Val} {x : List D} {Q : S → Prop} : fEq (.d (encV v)) (.d (.tup x)) Q = (SeqAt.shaped (toP (encV v)) = true ∧ SeqAt.shaped (toP (.tup x)) = true ∧ Q (.d (.bl (PyData.eqv (toP (encV v)) (toP (.tup x)))))) := by
  cases v <;> rfl
theorem cutS_bool : cutS "bool_is" none (some 4) = ("bool" : Str) := by decide +kernel
theorem cutS_text : cutS "text_is" none (some 4) = ("text" : Str) := by decide +kernel
theorem filter_all {α : Type} (c g : α → Bool) : ∀ xs : List α, ((xs.filter fun x => !c x).map g).all id = xs.all fun x => c x || g x
  | [] => rfl
  | x :: r => by
    have ih := filter_all c g r
    cases h : c x with
    | true => simp [h, ih]
    | false => simp [h, ih]
theorem pure_holds (d : Nat) : ∀ ss Q, s_holds (d + 1) ss Q → T_holds (s_holds d) s_lookup { nx := fun _ => Q (.d .non), rt := Q } (ss.map some ++ List.replicate 5 none) := by
  rintro ss Q ⟨f, v, h, hd, rfl, h1, h2, h3, h4, q⟩
  have pl : okF true f → ∀ {g : Fm}, okF true g → okF true g ∨ (okF false g ∧ D.non = encV h ∧ wfV 20 900 h) := fun _ _ z => .inl z
  cases f with
  | tru => simpa [T_holds, enc, holds] using q
  | fls => simpa [T_holds, enc, holds] using q
  | neg g =>
    simp only [okF] at h4
    simp only [dep] at h1
    simp only [wt] at h2
    simp only [holds] at q
    simp [T_holds, enc]
    exact s_holds_i (by omega) (by omega) h3 h4 q
  | conj fs =>
    simp only [okF] at h4
    simp only [dep] at h1
    simp only [wt] at h2
    simp only [holds, holdsA_map] at q
    have hn := wtL_len fs
    simp [T_holds, enc, encL_map]
    refine lcD_mapA enc (fun f => D.bl (holds f v h)) (fun _ _ => trivial) (fun g hg Q q => ?_) (by simp; omega) ?_
    · simp [E_holds_4]
      have a1 := depL_mem hg
      have a2 := wtL_mem hg
      refine s_holds_i (by omega) (by omega) h3 ?_ q
      rcases h4 with h4 | ⟨h4, h5⟩
      · exact .inl (okFs_iff.mp h4 g hg)
      · exact .inr ⟨okFs_iff.mp h4 g hg, h5⟩
    · simpa using q
  | disj fs =>
    simp only [okF] at h4
    simp only [dep] at h1
    simp only [wt] at h2
    simp only [holds, holdsO_map] at q
    have hn := wtL_len fs
    simp [T_holds, enc, encL_map]
    refine lcD_mapA enc (fun f => D.bl (holds f v h)) (fun _ _ => trivial) (fun g hg Q q => ?_) (by simp; omega) ?_
    · simp [E_holds_3]
      have a1 := depL_mem hg
      have a2 := wtL_mem hg
      refine s_holds_i (by omega) (by omega) h3 ?_ q
      rcases h4 with h4 | ⟨h4, h5⟩
      · exact .inl (okFs_iff.mp h4 g hg)
      · exact .inr ⟨okFs_iff.mp h4 g hg, h5⟩
    · simpa using q
  | held g =>
    simp only [okF] at h4
    simp only [dep] at h1
    simp only [wt] at h2
    simp only [holds] at q
    simp [T_holds, enc]
    rcases h4 with h4 | ⟨h4, rfl, h5⟩
    · exact absurd h4.1 (by decide)
    · exact s_holds_i (by omega) (by omega) h5 (.inl h4.2) q
  | at_ p g =>
    have hg : okF true g := by
      simp only [okF] at h4
      rcases h4 with h4 | h4
      · exact h4.2
      · exact h4.1.2
    simp only [dep] at h1
    simp only [wt] at h2
    simp only [holds] at q
    simp [T_holds, enc]
    refine s_lookup_i ?_
    cases e : lookup v p with
    | none =>
      rw [e] at q
      simpa using q
    | some c =>
      rw [e] at q
      simp
      exact s_holds_i (by omega) (by omega) (lookup_wf h3 e) (.inl hg) q
  | kind k =>
    simp only [holds] at q
    cases v <;> (simp [T_holds, enc, encV]; exact q)
  | intFrom n =>
    simp only [holds] at q
    cases v <;> simpa [T_holds, enc, encV] using q
  | boolIs b =>
    simp only [holds] at q
    have s1 := shaped_V h3
    have s2 : SeqAt.shaped (toP (.tup [.str "bool", .bl b])) = true := by cases b <;> decide +kernel
    have e := eqv_bool v b
    have z : (Str.ofString "bool_is").length ≤ 1000000 := by decide +kernel
    simp [T_holds, enc, cutS_bool, fEq_vt, s1, s2, e, z]
    exact q
  | textIs t =>
    simp only [holds] at q
    have ht : okS t := by
      simp only [okF] at h4
      rcases h4 with h4 | h4
      · exact h4
      · exact h4.1
    have s1 := shaped_V h3
    have s2 : SeqAt.shaped (toP (.tup [.str "text", .str t])) = true := by
      have e : PyData.strOk "text" = true := by decide +kernel
      simp [SeqAt.shaped, toP, toPs, PyData.canLay0, PyData.canLayAll0, PyData.depth, PyData.depthAll, e, strOk_of ht]
    have e := eqv_text v t
    have z : (Str.ofString "text_is").length ≤ 1000000 := by decide +kernel
    simp [T_holds, enc, cutS_text, fEq_vt, s1, s2, e, z]
    exact q
  | textFrom n =>
    simp only [holds] at q
    cases v with
    | text y =>
      have hy : okS y := by simpa [wfV] using h3
      have hy2 : y.length ≤ 1000000 := by have := hy.2; omega
      simp [T_holds, enc, encV, hy2]
      exact q
    | _ => simpa [T_holds, enc, encV] using q
  | itemsFrom n =>
    simp only [holds] at q
    cases v <;> simpa [T_holds, enc, encV, encVs_map] using q
  | eachItem n g =>
    have hg : 0 ≤ n ∧ okF true g := by
      simp only [okF] at h4
      rcases h4 with h4 | h4
      · exact h4
      · exact h4.1
    simp only [dep] at h1
    simp only [wt] at h2
    simp only [holds] at q
    cases v with
    | list xs =>
      simp only [wfV] at h3
      obtain ⟨k, rfl⟩ : ∃ k : Nat, n = k := ⟨n.toNat, by omega⟩
      have e : (xs.map encV).drop k = (xs.drop k).map encV := by rw [List.map_drop]
      simp [T_holds, enc, encV, encVs_map, cutD_from, e, -List.map_drop]
      refine lcD_mapA encV (fun x => D.bl (holds g x h)) (fun _ _ => trivial) (fun x hx Q q => ?_) (by simp; omega) ?_
      · simp [E_holds_2, enc]
        exact s_holds_i (by omega) (by omega) (wfV_mono (by omega) (Nat.le_refl _) x (wfVs_iff.mp h3.2.2 x (List.mem_of_mem_drop hx))) (.inl hg.2) q
      · simp [-List.map_drop]
        simpa using q
    | _ => simpa [T_holds, enc, encV] using q
  | eachField ns g =>
    have hg : okF true g := by
      simp only [okF] at h4
      rcases h4 with h4 | h4
      · exact h4.2
      · exact h4.1.2
    simp only [dep] at h1
    simp only [wt] at h2
    simp only [holds] at q
    cases v with
    | obj fs =>
      simp only [wfV] at h3
      simp [T_holds, enc, encV, encFs_map]
      refine lcD_filterA encFd (fun f => D.bl (holds g f.2 h)) (fun f => !decide (f.1 ∈ ns)) (fun _ _ => trivial) (fun f hf Q q => ?_) (fun f hf Q q => ?_) (by simp; omega) ?_
      · cases f; simpa [C_holds_1, encFd, enc] using q
      · cases f with
        | mk a b =>
          simp [E_holds_1, encFd, enc]
          exact s_holds_i (by omega) (by omega) (wfV_mono (by omega) (Nat.le_refl _) b (wfFs_iff.mp h3.2.2.2 _ hf).2) (.inl hg) q
      · simp
        exact q
    | _ => simpa [T_holds, enc, encV] using q
end Pk

/-! ## P6 -/
set_option Elab.async false
set_option linter.all false
set_option maxRecDepth 100000
set_option maxHeartbeats 4000000
namespace Pk
open PySem L2 Fm
def isIntD : D → Bool
  | .int _ => true
  | _ => false
def isBlD : D → Bool
  | .bl _ => true
  | _ => false
/-! ### is_integer, is_string, is_token -/
def s_is_integer : SD := fun ss Q => ∃ n : Int, ss = [.d (.int n)] ∧ Q (.d (.bl true))
theorem pure_is_integer : ∀ ss Q, s_is_integer ss Q → T_is_integer { nx := fun _ => Q (.d .non), rt := Q } (ss.map some ++ List.replicate 0 none) := by
  rintro ss Q ⟨n, rfl, h⟩
  simpa [T_is_integer] using h
@[simp] theorem s_is_integer_i {n : Int} {Q : S → Prop} : s_is_integer [.d (.int n)] Q ↔ Q (.d (.bl true)) := ⟨fun ⟨_, _, h⟩ => h, fun h => ⟨n, rfl, h⟩⟩
def s_is_string : SD := fun ss Q => (∃ z : Str, ss = [.d (.str z)] ∧ okS z ∧ Q (.d (.bl true))) ∨ (∃ n : Int, ss = [.d (.int n)] ∧ Q (.d (.bl false)))
theorem sp_le (c : Nat) (h : 32 ≤ c) : ltS ⟨#[c]⟩ " " = false := by
  have e : (" " : Str).cps.toList = [32] := by decide +kernel
  unfold ltS
  rw [e]
  refine decide_eq_false fun z => ?_
  rcases List.cons_lt_cons_iff.mp (show [c] < [32] from z) with z | ⟨_, z⟩
  · omega
  · cases z
theorem le_ti (c : Nat) (h : c ≤ 126) : ltS "~" ⟨#[c]⟩ = false := by
  have e : ("~" : Str).cps.toList = [126] := by decide +kernel
  unfold ltS
  rw [e]
  refine decide_eq_false fun z => ?_
  rcases List.cons_lt_cons_iff.mp (show [126] < [c] from z) with z | ⟨_, z⟩
  · omega
  · cases z
theorem all_true {α : Type} : ∀ xs : List α, (xs.map fun _ => true).all id = true
  | [] => rfl
  | _ :: r => by simp [all_true r]
@[simp] theorem bools_rep (b : Bool) : ∀ n : Nat, bools (List.replicate n (D.bl b)) = some (List.replicate n b)
  | 0 => rfl
  | n + 1 => by simp [List.replicate_succ, bools_rep b n]
theorem signsD_map (z : Str) : signsD z = z.cps.toList.map fun c => D.str ⟨#[c]⟩ := rfl
theorem pure_is_string : ∀ ss Q, s_is_string ss Q → T_is_string { nx := fun _ => Q (.d .non), rt := Q } (ss.map some ++ List.replicate 1 none) := by
  rintro ss Q (⟨z, rfl, hz, h⟩ | ⟨n, rfl, h⟩)
  · have hl : z.cps.size ≤ 1000 := hz.2
    simp [T_is_string, signsD_map, -Array.toList_map]
    refine lcD_mapA (fun c => D.str ⟨#[c]⟩) (fun _ => D.bl true) (fun _ _ => trivial) (fun c hc Q q => ?_) (by simp; omega) ?_
    · have hc := hz.1 c hc
      have h1 := sp_le c hc.1
      have h2 := le_ti c hc.2.1
      simp [E_is_string_1, h1, h2]
      refine ⟨rfl, ?_⟩
      have : ¬ (c : Int) = 37 := by omega
      simpa [this] using q
    · have e : (z.cps.all fun _ => true) = true := by
        rw [Array.all_eq_true]
        intros
        rfl
      simp [e]
      exact h
  · simpa [T_is_string] using h
theorem s_is_string_s {z : Str} (hz : okS z) {Q : S → Prop} (h : Q (.d (.bl true))) : s_is_string [.d (.str z)] Q := .inl ⟨z, rfl, hz, h⟩
def s_is_token : SD := fun ss Q => ∃ t, ss = [.d (encT t)] ∧ okTok t ∧ Q (.d (.bl true))
theorem pure_is_token : ∀ ss Q, s_is_token ss Q → T_is_token s_is_string s_is_integer { nx := fun _ => Q (.d .non), rt := Q } (ss.map some ++ List.replicate 0 none) := by
  rintro ss Q ⟨t, rfl, ht, h⟩
  cases t with
  | s z =>
    simp [T_is_token, encT]
    exact s_is_string_s ht (by simpa using h)
  | i n =>
    simp only [okTok] at ht
    simp [T_is_token, encT]
    exact .inr ⟨n, rfl, by simpa [ht] using h⟩
/-! ### the parts of a formula -/
abbrev Row := Fm × Bool
def encRow (r : Row) : D := .tup [enc r.1, .bl r.2]
def kids (pl : Bool) : Fm → List Row
  | .neg f => [(f, pl)]
  | .conj fs => fs.map fun f => (f, pl)
  | .disj fs => fs.map fun f => (f, pl)
  | .at_ _ f => [(f, true)]
  | .eachItem _ f => [(f, true)]
  | .eachField _ f => [(f, true)]
  | .held f => [(f, true)]
  | _ => []
def s_formula_parts : SD := fun ss Q => ∃ f pl, ss = [.d (enc f), .d (.bl pl)] ∧ okF pl f ∧ wt f ≤ 900000 ∧ (∀ p g, f = .at_ p g → p.length ≤ 900000) ∧ Q (.own ((kids pl f).map encRow))
@[simp] theorem atI_m1 {α : Type} (x : α) : atI [x] (-1) = some x := atI_last [] x
@[simp] theorem atI_m2 {α : Type} (x y : α) : atI [x, y] (-1) = some y := atI_last [x] y
@[simp] theorem atI_m3 {α : Type} (x y z : α) : atI [x, y, z] (-1) = some z := atI_last [x, y] z
theorem s_is_token_i {t : Tok} (ht : okTok t) {Q : S → Prop} (h : Q (.d (.bl true))) : s_is_token [.d (encT t)] Q := ⟨t, rfl, ht, h⟩
theorem pure_formula_parts : ∀ ss Q, s_formula_parts ss Q → T_formula_parts s_is_token s_is_integer s_is_string { nx := fun _ => Q (.d .non), rt := Q } (ss.map some ++ List.replicate 4 none) := by
  rintro ss Q ⟨f, pl, rfl, hf, hw, hp, h⟩
  cases f with
  | tru => simpa [T_formula_parts, enc, kids] using h
  | fls => simpa [T_formula_parts, enc, kids] using h
  | neg g => cases pl <;> simpa [T_formula_parts, enc, kids, encRow] using h
  | held g =>
    simp only [okF] at hf
    obtain ⟨rfl, _⟩ := hf
    simpa [T_formula_parts, enc, kids, encRow] using h
  | conj fs =>
    have hl := wtL_len fs
    simp only [wt] at hw
    simp [T_formula_parts, enc, encL_map]
    refine lcD_mapA enc (fun f => encRow (f, pl)) (fun f _ => trivial) (fun f hf Q q => ?_) (by simp; omega) ?_
    · simpa [E_formula_parts_2, encRow] using q
    · simpa [kids, Function.comp_def] using h
  | disj fs =>
    have hl := wtL_len fs
    simp only [wt] at hw
    simp [T_formula_parts, enc, encL_map]
    refine lcD_mapA enc (fun f => encRow (f, pl)) (fun f _ => trivial) (fun f hf Q q => ?_) (by simp; omega) ?_
    · simpa [E_formula_parts_2, encRow] using q
    · simpa [kids, Function.comp_def] using h
  | kind k =>
    simp only [okF] at hf
    simp [T_formula_parts, enc]
    simp at hf
    simpa [hf, kids] using h
  | intFrom n => simpa [T_formula_parts, enc, kids] using h
  | boolIs b => simpa [T_formula_parts, enc, kids] using h
  | textIs z =>
    simp only [okF] at hf
    simp [T_formula_parts, enc]
    exact s_is_string_s hf (by simpa [kids] using h)
  | textFrom n =>
    simp only [okF] at hf
    simpa [T_formula_parts, enc, kids, hf] using h
  | itemsFrom n =>
    simp only [okF] at hf
    simpa [T_formula_parts, enc, kids, hf] using h
  | eachItem n g =>
    simp only [okF] at hf
    simpa [T_formula_parts, enc, kids, hf.1, encRow] using h
  | at_ p g =>
    simp only [okF] at hf
    have hp := hp p g rfl
    simp [T_formula_parts, enc, encP]
    refine lcD_mapA encT (fun _ => D.bl true) (fun _ _ => trivial) (fun t ht Q q => ?_) (by simpa using (by omega : p.length ≤ 1000000)) ?_
    · simp [E_formula_parts_1]
      exact s_is_token_i (hf.1 t ht) (by simpa using q)
    · simpa [kids, encRow] using h
  | eachField ns g =>
    simp only [okF] at hf
    simp only [wt] at hw
    simp [T_formula_parts, enc]
    refine lcD_mapA D.str (fun _ => D.bl true) (fun _ _ => trivial) (fun t ht Q q => ?_) (by simpa using (by omega : ns.length ≤ 1000000)) ?_
    · simp [E_formula_parts_1]
      exact s_is_token_i (t := .s t) (hf.1 t ht) (by simpa using q)
    · simpa [kids, encRow] using h
end Pk

/-! ## P6b -/
set_option Elab.async false
set_option linter.all false
set_option maxRecDepth 100000
set_option maxHeartbeats 4000000
namespace Pk
open PySem L2 Fm
theorem s_parts_i {f : Fm} {pl : Bool} {Q : S → Prop} (h1 : okF pl f) (h2 : wt f ≤ 900000) (h3 : ∀ p g, f = .at_ p g → p.length ≤ 900000) (h : Q (.own ((kids pl f).map encRow))) : s_formula_parts [.d (enc f), .d (.bl pl)] Q := ⟨f, pl, rfl, h1, h2, h3, h⟩
def wtR : List Row → Nat
  | [] => 0
  | r :: s => wt r.1 + wtR s
theorem wtR_app : ∀ r s : List Row, wtR (r ++ s) = wtR r + wtR s
  | [], s => by simp [wtR]
  | x :: r, s => by simp only [List.cons_append, wtR, wtR_app r s]; omega
theorem wt_pos (f : Fm) : 1 ≤ wt f := by cases f <;> simp [wt]
theorem wtR_len : ∀ r : List Row, r.length ≤ wtR r
  | [] => by simp
  | x :: r => by
    have := wtR_len r
    have := wt_pos x.1
    simp only [wtR, List.length_cons]; omega
theorem wtR_map (pl : Bool) : ∀ fs : List Fm, wtR (fs.map fun f => (f, pl)) = wtL fs
  | [] => rfl
  | f :: r => by simp [wtR, wtL, wtR_map pl r]
theorem wt_kids (pl : Bool) (f : Fm) : wtR (kids pl f) + 1 ≤ wt f := by
  cases f <;> simp [kids, wtR, wt, wtR_map] <;> omega
/-- a good row: d a bound of its depth -/
def okR (d : Nat) (r : Row) : Prop := okF r.2 r.1 ∧ dep r.1 ≤ d ∧ Fm.pl r.1 ≤ 900000
theorem okR_kids {d : Nat} {r : Row} (h : okR (d + 1) r) : ∀ s ∈ kids r.2 r.1, okR d s := by
  obtain ⟨f, pl⟩ := r
  obtain ⟨h1, h2, h3⟩ := h
  cases f with
  | conj fs =>
    simp only [okF] at h1
    simp only [dep] at h2
    simp only [Fm.pl] at h3
    intro s hs
    obtain ⟨g, hg, rfl⟩ := List.mem_map.mp hs
    have := depL_mem hg
    have := plL_mem hg
    exact ⟨okFs_iff.mp h1 g hg, by simp only; omega, by simp only; omega⟩
  | disj fs =>
    simp only [okF] at h1
    simp only [dep] at h2
    simp only [Fm.pl] at h3
    intro s hs
    obtain ⟨g, hg, rfl⟩ := List.mem_map.mp hs
    have := depL_mem hg
    have := plL_mem hg
    exact ⟨okFs_iff.mp h1 g hg, by simp only; omega, by simp only; omega⟩
  | _ =>
    simp only [okF] at h1
    simp only [dep] at h2
    simp only [Fm.pl] at h3
    intro s hs
    simp only [kids, List.mem_singleton, List.not_mem_nil] at hs
    try
      (subst hs; exact ⟨by first | exact h1 | exact h1.2, by simp only; omega, by simp only; omega⟩)
def kidsR (r : Row) : List Row := kids r.2 r.1
theorem wt_kidsR : ∀ rs : List Row, wtR (rs.flatMap kidsR) ≤ wtR rs
  | [] => by simp [wtR]
  | r :: s => by
    have := wt_kidsR s
    have := wt_kids r.2 r.1
    simp only [List.flatMap_cons, wtR_app, wtR, kidsR] at *
    omega
@[simp] theorem noInt_row (r : Row) : noInt (encRow r) := trivial
theorem nsrcD_row (rs : List Row) : nsrcD (rs.map encRow) := nsrcD_of fun x hx => by
  obtain ⟨f, _, rfl⟩ := List.mem_map.mp hx
  trivial
theorem enc_len (f : Fm) : ∃ xs, enc f = .tup xs ∧ (((xs.length : Nat) : Int) = 1 ∨ ((xs.length : Nat) : Int) = 2 ∨ ((xs.length : Nat) : Int) = 3) := by
  cases f <;> exact ⟨_, rfl, by simp⟩
theorem loop_row (a0 a1 a2 a3 a4 : Option S) (DD : EndsD) : ∀ (rs acc : List Row) (x y : Option S), wtR acc + wtR rs ≤ 900000 → (∀ r ∈ rs, okF r.2 r.1 ∧ Fm.pl r.1 ≤ 900000) →
    (∀ x y, DD.nx [a0, a1, a2, a3, a4, some (.own ((acc ++ rs.flatMap kidsR).map encRow)), x, y]) → forD 6 (B_is_formula_1 s_formula_parts) DD (rs.map encRow) [a0, a1, a2, a3, a4, some (.own (acc.map encRow)), x, y]
  | [], acc, x, y, hw, ho, h => by
    simp only [List.flatMap_nil, List.append_nil] at h
    simpa [forD] using h x y
  | (f, pl) :: r, acc, x, y, hw, ho, h => by
    simp only [wtR] at hw
    have hf := ho (f, pl) (by simp)
    have hk := wt_kids pl f
    obtain ⟨xs, e, hl⟩ := enc_len f
    have ih := fun x y => loop_row a0 a1 a2 a3 a4 DD r (acc ++ kids pl f) x y (by rw [wtR_app]; omega) (fun s hs => ho s (by simp [hs])) (fun x y => by
      have := h x y
      simpa [kidsR, List.append_assoc] using this)
    have n1 := nsrcD_row (acc ++ kids pl f)
    have l1 := wtR_len (acc ++ kids pl f)
    rw [wtR_app] at l1
    simp only [List.length_append] at l1
    have hp : ∀ p g, f = .at_ p g → p.length ≤ 900000 := by
      rintro p g rfl
      have := hf.2
      simp only [Fm.pl] at this
      omega
    have key : forD 6 (B_is_formula_1 s_formula_parts) DD (encRow (f, pl) :: r.map encRow) [a0, a1, a2, a3, a4, some (.own (acc.map encRow)), x, y] := by
      rw [forD]
      have hm : ((xs.length : Nat) : Int) ∈ ([1, 2, 3] : List Int) := by simpa using hl
      simp only [B_is_formula_1, encRow, e]
      simp [-List.map_append]
      simp at hm
      have hm2 : ¬ (¬ (((xs.length : Nat) : Int) = 1) ∧ ¬ (((xs.length : Nat) : Int) = 2) ∧ ¬ (((xs.length : Nat) : Int) = 3)) := by omega
      rw [if_neg hm2, ← e]
      refine s_parts_i hf.1 (by omega) hp ?_
      simp [-List.map_append]
      simp only [← List.map_append]
      refine ⟨n1, by omega, ?_⟩
      have := ih (some (.d (encRow (f, pl)))) (some (.own ((kids pl f).map encRow)))
      simp only [B_is_formula_1, encRow] at this
      simpa [e, -List.map_append] using this
    simpa using key
theorem loop_lev (a0 a1 a2 : Option S) (DD : EndsD) (h : ∀ x y z u, DD.nx [a0, a1, a2, some (.own []), x, y, z, u]) : ∀ (xs : List D) (rs : List Row) (x y z u : Option S), wtR rs ≤ 900000 → (∀ r ∈ rs, okR xs.length r) → forD 4 (B_is_formula_2 s_formula_parts) DD xs [a0, a1, a2, some (.own (rs.map encRow)), x, y, z, u]
  | [], rs, x, y, z, u, hw, ho => by
    have e : rs = [] := by
      cases rs with
      | nil => rfl
      | cons r s =>
        have := (ho r (by simp)).2.1
        have h2 : 1 ≤ dep r.1 := by cases r.1 <;> simp [dep]
        simp at this
        omega
    subst e
    simpa [forD] using h x y z u
  | c :: xs, rs, x, y, z, u, hw, ho => by
    have hk := wt_kidsR rs
    rw [forD]
    simp [B_is_formula_2]
    refine loop_row a0 a1 a2 _ _ _ rs [] z u (by simp only [wtR]; omega) (fun r hr => ⟨(ho r hr).1, (ho r hr).2.2⟩) (fun z u => ?_)
    simp
    have := loop_lev a0 a1 a2 DD h xs (rs.flatMap kidsR) (some (.d c)) none z u (by omega) (fun s hs => by
      obtain ⟨r, hr, hs⟩ := List.mem_flatMap.mp hs
      exact okR_kids (by simpa using ho r hr) s hs)
    simpa [B_is_formula_2] using this
def s_is_formula : SD := fun ss Q => ∃ f pl, ss = [.d (enc f), .d (.bl pl), .d (.int 300)] ∧ okF pl f ∧ dep f ≤ 300 ∧ Fm.pl f ≤ 900000 ∧ wt f ≤ 900000 ∧ Q (.d (.bl true))
theorem rngD_len (i : Int) (n : Nat) : (rngD i n).length = n := by simp [rngD]
theorem pure_is_formula : ∀ ss Q, s_is_formula ss Q → T_is_formula s_formula_parts { nx := fun _ => Q (.d .non), rt := Q } (ss.map some ++ List.replicate 5 none) := by
  rintro ss Q ⟨f, pl, rfl, h1, h2, h3, h4, h⟩
  simp [T_is_formula]
  have := loop_lev (some (.d (enc f))) (some (.d (.bl pl))) (some (.d (.int 300))) { nx := dRet (d2 fEq (dCB fLen (aCons (dVar 3) aNil)) (dC (.d (.int 0)))) { nx := fun _ => Q (.d .non), rt := Q }, rt := Q } (fun x y z u => by simpa using h) (rngD 0 300) [(f, pl)] none none none none (by simp [wtR]; omega) (fun r hr => by
    have e : r = (f, pl) := by simpa using hr
    subst e
    rw [rngD_len]
    exact ⟨h1, h2, h3⟩)
  simp only [List.map_cons, List.map_nil, encRow] at this
  exact this
end Pk

/-! ## P8 -/
set_option Elab.async false
set_option linter.all false
set_option maxRecDepth 100000
set_option maxHeartbeats 4000000
namespace Pk
open PySem L2 Fm
/-- a good target -/
structure gT (t : Path) : Prop where
  l : t.length ≤ 6
  ok : ∀ x ∈ t, okTok x
  sm : small t
theorem gT_of {t : Path} (hl : t.length ≤ 6) (h : ∀ x ∈ t, gTok x) : gT t := ⟨hl, fun x hx => (h x hx).1, fun m hm => by
  obtain ⟨h1, h2⟩ := h _ hm
  simp only [okTok] at h1
  have := h2 m rfl
  omega⟩
theorem gM.cb {t : Path} {f : Fm} (h : gM f) (g : gT t) : Cb t f := ⟨g.ok, by have := g.l; omega, g.sm, h.ok, by have := h.l; omega, by have := h.c; omega⟩
theorem s_primitive_i {t : Path} {v w : Val} {Q : S → Prop} (h1 : t.length ≤ 10) (h2 : wfV 16 200 v) (h3 : wfV 16 200 w) (h : match replace v t w with
    | some v' => Q (.d (.tup [encV v', encV w]))
    | none => Q (.d .non)) : s_primitive [.d (prim t), .d (encV v), .d (encV w)] Q := ⟨v, t, w, rfl, h1, h2, h3, h⟩
def s_is_exact : SD := fun ss Q => ∃ t f v w, ss = [.d (enc (before t f)), .d (prim t), .d (enc f), .d (encV v), .d (encV w)] ∧ gT t ∧ gM f ∧ wfV 16 200 v ∧ wfV 2 100 w ∧ Q (.d (.bl true))
theorem s_is_exact_i {t : Path} {f : Fm} {v w : Val} {Q : S → Prop} (h1 : gT t) (h2 : gM f) (h3 : wfV 16 200 v) (h4 : wfV 2 100 w) (h : Q (.d (.bl true))) : s_is_exact [.d (enc (before t f)), .d (prim t), .d (enc f), .d (encV v), .d (encV w)] Q := ⟨t, f, v, w, rfl, h1, h2, h3, h4, h⟩
theorem pure_is_exact : ∀ ss Q, s_is_exact ss Q → T_is_exact (s_holds 30) s_primitive { nx := fun _ => Q (.d .non), rt := Q } (ss.map some ++ List.replicate 2 none) := by
  rintro ss Q ⟨t, f, v, w, rfl, ht, hf, hv, hw, h⟩
  have hv2 : wfV 20 900 v := wfV_mono (by omega) (by omega) v hv
  have hw2 : wfV 20 900 w := wfV_mono (by omega) (by omega) w hw
  have hb := gd_before ht.ok hf.ok
  have hbw := wt_before ht.sm hf.ok
  have hd := hf.dp
  have hc := hf.c
  have hbd := hb.2.1
  have e1 := before_ok (v := v) (h := w) (t := t) hf.ok
  have main : ∀ b : Bool, holds (before t f) v w = b → s_holds 30 [.d (enc (before t f)), .d (encV v), .d (encV w)] fun s => fEq s (.d (.bl b)) Q := fun b e => s_holds_i (by omega) (by omega) hv2 (.inr ⟨hb.1, rfl, hw2⟩) (by simpa [e] using h)
  simp [T_is_exact]
  have hl := ht.l
  refine s_primitive_i (by omega) hv (wfV_mono (by omega) (by omega) w hw) ?_
  cases e : replace v t w with
  | none =>
    rw [e] at e1
    simp
    exact main false e1
  | some v' =>
    rw [e] at e1
    have hv' : wfV 20 900 v' := wfV_mono (by omega) (by omega) v' (replace_wf (L := 200) (wfV_mono (Nat.le_refl 2) (by omega) w hw) hv e)
    simp
    refine s_holds_i (by omega) (by have := hf.w; omega) hv' (.inr ⟨hf.ok, rfl, hw2⟩) ?_
    simp
    exact main _ e1
/-! ### the law -/
theorem s_src_i {n : Int} {Q : S → Prop} (h : Q .src) : s_source [.d (.int n)] Q := ⟨n, rfl, h⟩
theorem s_cell_i {ns : List Int} {k : Int} {Q : S → Prop} (hk : 0 ≤ k) (h : ∀ n : Int, Q (.d (.int n))) : s_cell [.fz (ns.map D.int), .d (.int k)] Q := ⟨ns, k, rfl, hk, h⟩
theorem loop_vals {a0 a1 a3 a4 a5 a6 a7 a8 a9 a10 a13 a14 : Option S} {g : Val} {DD : EndsD} (hg : wfV 6 100 g) (h : ∀ (vals : List Val) x, (∀ v ∈ vals, wfV 16 200 v) → DD.nx [a0, a1, some (.d (encV g)), a3, a4, a5, a6, a7, a8, a9, a10, some (.own (vals.map encV)), x, a13, a14]) :
    ∀ (cells : List Int) (vals : List Val) x, vals.length + cells.length ≤ 1000 → (∀ v ∈ vals, wfV 16 200 v) → forD 12 (B_law_2 s_changed s_source (s_value 3)) DD (cells.map D.int) [a0, a1, some (.d (encV g)), a3, a4, a5, a6, a7, a8, a9, a10, some (.own (vals.map encV)), x, a13, a14]
  | [], vals, x, hl, hv => by simpa [forD] using h vals x hv
  | c :: r, vals, x, hl, hv => by
    simp only [List.length_cons] at hl
    have ih : ∀ v, wfV 16 200 v → _ := fun v hw => loop_vals hg h r (vals ++ [v]) (some (.d (.int c))) (by simp; omega) (fun u hu => by
      rcases List.mem_append.mp hu with hu | hu
      · exact hv u hu
      · have e : u = v := by simpa using hu
        rw [e]; exact hw)
    rw [List.map_cons, forD]
    unfold B_law_2 at ih ⊢
    simp
    split
    · refine s_src_i ?_
      simp
      refine s_changed_i hg fun v hw => ?_
      simp
      refine ⟨by omega, ?_⟩
      simpa using ih v hw
    · refine s_src_i ?_
      simp
      refine s_value_i (d := 3) rfl (by omega) (by omega) fun v hw => ?_
      simp
      refine ⟨by omega, ?_⟩
      simpa using ih v (wfV_mono (by omega) (by omega) v hw)
theorem loop_exact {a0 a1 a2 a4 a6 a7 a8 a11 a12 : Option S} {t : Path} {f : Fm} {w o : Val} {DD : EndsD} (ht : gT t) (hf : gM f) (hw : wfV 2 100 w) (ho : wfV 2 100 o)
    (h : ∀ x, DD.nx [a0, a1, a2, some (.d (encV w)), a4, some (.d (prim t)), a6, a7, a8, some (.d (enc f)), some (.d (enc (before t f))), a11, a12, some (.d (encV o)), x]) :
    ∀ (vals : List Val) x, (∀ v ∈ vals, wfV 16 200 v) → forD 14 (B_law_1 s_is_exact) DD (vals.map encV) [a0, a1, a2, some (.d (encV w)), a4, some (.d (prim t)), a6, a7, a8, some (.d (enc f)), some (.d (enc (before t f))), a11, a12, some (.d (encV o)), x]
  | [], x, hv => by simpa [forD] using h x
  | v :: r, x, hv => by
    have ih := loop_exact ht hf hw ho h r (some (.d (encV v))) fun u hu => hv u (by simp [hu])
    rw [List.map_cons, forD]
    unfold B_law_1 at ih ⊢
    simp
    refine s_is_exact_i ht hf (hv v (by simp)) hw ?_
    simp
    refine s_is_exact_i ht hf (hv v (by simp)) ho ?_
    simpa using ih
theorem cut_map (ns : List Int) (i j : Option Int) : ∃ ms : List Int, cutD (ns.map D.int) i j = ms.map D.int ∧ ms.length ≤ ns.length := by
  unfold cutD
  rw [← List.map_drop, ← List.map_take]
  exact ⟨_, rfl, by simp; omega⟩
def s_law : SD := fun ss Q => ∃ ns : List Int, ss = [.fz (ns.map D.int)] ∧ ns.length ≤ 63 ∧ Q (.d (.bl true))
theorem pure_law : ∀ ss Q, s_law ss Q → T_law s_is_exact s_cell s_source (s_value 3) s_changed s_is_formula (s_before 7) s_mixed s_primitive s_path s_wide { nx := fun _ => Q (.d .non), rt := Q } (ss.map some ++ List.replicate 14 none) := by
  rintro ss Q ⟨ns, rfl, hl, h⟩
  simp [T_law]
  refine s_cell_i (by decide) fun c0 => ?_
  simp
  refine s_src_i ?_
  simp
  refine s_wide_i fun g hg => ?_
  simp
  refine s_cell_i (by decide) fun c1 => ?_
  simp
  refine s_src_i ?_
  simp
  refine s_value_i (d := 2) rfl (by omega) (by omega) fun w hw => ?_
  have hg2 : wfV 16 200 g := wfV_mono (by omega) (by omega) g hg
  have hw2 : wfV 16 200 w := wfV_mono (by omega) (by omega) w hw
  simp
  refine s_path_i (m := 6) rfl hg2 (by decide) fun t hl6 htk => ?_
  have ht := gT_of hl6 htk
  have vp : view (.d (encP t)) = .d (encP t) := rfl
  have sp : stor (.d (encP t)) = True := rfl
  have dp : datas [.d (encP t)] = some [encP t] := rfl
  have pp : D.tup [.str (Str.ofString "swap"), encP t] = prim t := rfl
  simp [pp]
  have hl := ht.l
  refine s_primitive_i (by omega) hg2 hw2 ?_
  have tail : ∀ (a6 a7 a8 : Option S) (f : Fm), gM f → forD 12 (B_law_2 s_changed s_source (s_value 3)) { nx := dSeq (dSet 13 (dCall (s_value 3) (aCons (dCall s_source (aCons (dCall s_cell (aCons (dVar 0) (aCons (dC (.d (.int 12))) aNil))) aNil)) (aCons (dC (.d (.int 2))) aNil)))) (dSeq (dForVar 14 11 (B_law_1 s_is_exact)) (dRet (dC (.d (.bl true))))) { nx := fun _ => Q (.d .non), rt := Q }, rt := Q } (cutD (ns.map D.int) (some 3) (some 12))
      [some (.fz (ns.map D.int)), some .src, some (.d (encV g)), some (.d (encV w)), some (.d (encP t)), some (.d (prim t)), a6, a7, a8, some (.d (enc f)), some (.d (enc (before t f))), some (.own [encV g]), none, none, none] := by
    intro a6 a7 a8 f hf
    obtain ⟨ms, em, lm⟩ := cut_map ns (some 3) (some 12)
    rw [em]
    refine loop_vals (vals := [g]) hg (fun vals x hvals => ?_) ms none (by simp; omega) (fun v hv => by
      have e : v = g := by simpa using hv
      rw [e]; exact hg2)
    simp
    refine s_cell_i (by decide) fun c => ?_
    simp
    refine s_src_i ?_
    simp
    refine s_value_i (d := 2) rfl (by omega) (by omega) fun o ho => ?_
    simp
    exact loop_exact ht hf hw ho (fun x => by simpa using h) vals none hvals
  have fin : ∀ (a6 a7 a8 : Option S) (u : Val), wfV 16 200 u → ∀ P : S → S → S → Prop, (∀ f, gM f → P (.d (enc f)) (.d (enc (before t f))) (.d (.bl true))) → s_cell [.fz (ns.map D.int), .d (.int 2)] fun x => s_source [view x] fun x => s_mixed [view x, .d (encV u), .d (encP t), .d (encV w)] fun s => stor s ∧ s_before 7 [.d (prim t), view (view s)] fun s1 => stor s1 ∧ s_is_formula [view (view s1), .d (.bl false), .d (.int 300)] fun s2 => P s s1 s2 := by
    intro a6 a7 a8 u hu P hP
    refine s_cell_i (by decide) fun c => ?_
    refine s_src_i ?_
    refine s_mixed_i hu hw2 hl ht.ok fun f hf => ?_
    refine ⟨trivial, t, f, rfl, hf.cb ht, hf.dp, trivial, ?_⟩
    have hb := gd_before ht.ok hf.ok
    have hbw := wt_before ht.sm hf.ok
    have hd := hf.dp
    have hc := hf.c
    have hp := hf.l
    have hbd := hb.2.1
    have hbp := hb.2.2
    exact ⟨before t f, false, rfl, hb.1, by omega, by omega, by omega, hP f hf⟩
  cases e : replace g t w with
  | none =>
    simp
    exact fin none none none g hg2 _ fun f hf => tail _ _ _ f hf
  | some v' =>
    simp
    exact fin none none none v' (wfV_mono (by omega) (by omega) v' (replace_wf (L := 100) hw hg e)) _ fun f hf => tail _ _ _ f hf
end Pk

/-! ## J1 -/
set_option Elab.async false
set_option linter.all false
set_option maxRecDepth 100000
set_option maxHeartbeats 4000000
namespace Pk
open PySem PySem.Spec PyProof.Rows L2
open Fm (dep)
/-- a def that is never called -/
theorem ok_never {P : Program} {w : World} {K : PySem.W.Frag} {mg : Str → Option Value} {base : Heap} (G : Gs K mg) {x : Str} {i : Nat} {N ps : List Str} {sd : SD} (j : Nat) (hj : fnT[j]? = some (x, i)) (sc : FnScope N ps (defScope (top i)))
    (hb : ∀ (kV doc pm : Value) (an : Option Addr) (cdv ct : Value) (us : List Value), us.length = ps.length → bindArgs (PySem.W.fnOf x x (defArgs (top i)) (defBody (top i)) (defScope (top i)) .none kV doc pm an cdv ct) ⟨us, []⟩ = pure (ps.zip us))
    (h : ∀ ss Q, ¬ sd ss Q) : DefOk P w K mg base x 1 ps sd := ok_def G j hj sc hb (fun ss Q z => (h ss Q z).elim) fun f cdv A outer s H E hr => ⟨_, pssd_never, fun ss Q z => (h ss Q z).elim⟩
theorem nv_after_there {P : Program} {w : World} {K : PySem.W.Frag} {mg : Str → Option Value} {base : Heap} (G : Gs K mg) {sd : SD} (h : ∀ ss Q, ¬ sd ss Q) : DefOk P w K mg base "after_there" 1 ["primitive", "path", "formula"] sd := ok_never G 9 rfl sc_after_there (fun _ _ _ _ _ _ us hl => match us, hl with | [_, _, _], _ => rfl) h
theorem nv_after_at {P : Program} {w : World} {K : PySem.W.Frag} {mg : Str → Option Value} {base : Heap} (G : Gs K mg) {sd : SD} (h : ∀ ss Q, ¬ sd ss Q) : DefOk P w K mg base "after_at" 1 ["primitive", "path", "formula"] sd := ok_never G 10 rfl sc_after_at (fun _ _ _ _ _ _ us hl => match us, hl with | [_, _, _], _ => rfl) h
theorem nv_rewritten {P : Program} {w : World} {K : PySem.W.Frag} {mg : Str → Option Value} {base : Heap} (G : Gs K mg) {sd : SD} (h : ∀ ss Q, ¬ sd ss Q) : DefOk P w K mg base "rewritten" 1 ["primitive", "formula"] sd := ok_never G 12 rfl sc_rewritten (fun _ _ _ _ _ _ us hl => match us, hl with | [_, _], _ => rfl) h
theorem nv_replace {P : Program} {w : World} {K : PySem.W.Frag} {mg : Str → Option Value} {base : Heap} (G : Gs K mg) {sd : SD} (h : ∀ ss Q, ¬ sd ss Q) : DefOk P w K mg base "_law_replace" 1 ["_law_value_here", "_law_path_here", "_law_new"] sd := ok_never G 18 rfl sc_replace (fun _ _ _ _ _ _ us hl => match us, hl with | [_, _, _], _ => rfl) h
theorem nv_holds {P : Program} {w : World} {K : PySem.W.Frag} {mg : Str → Option Value} {base : Heap} (G : Gs K mg) {sd : SD} (h : ∀ ss Q, ¬ sd ss Q) : DefOk P w K mg base "_law_holds" 1 ["_law_formula_here", "_law_value_here", "_law_held"] sd := ok_never G 22 rfl sc_holds (fun _ _ _ _ _ _ us hl => match us, hl with | [_, _, _], _ => rfl) h
theorem nv_value {P : Program} {w : World} {K : PySem.W.Frag} {mg : Str → Option Value} {base : Heap} (G : Gs K mg) {sd : SD} (h : ∀ ss Q, ¬ sd ss Q) : DefOk P w K mg base "_law_value" 1 ["_law_source_here", "_law_depth"] sd := ok_never G 36 rfl sc_value (fun _ _ _ _ _ _ us hl => match us, hl with | [_, _], _ => rfl) h
theorem nv_every {P : Program} {w : World} {K : PySem.W.Frag} {mg : Str → Option Value} {base : Heap} (G : Gs K mg) {sd : SD} (h : ∀ ss Q, ¬ sd ss Q) : DefOk P w K mg base "_law_every" 1 ["_law_source_here", "_law_value_here", "_law_depth"] sd := ok_never G 43 rfl sc_every (fun _ _ _ _ _ _ us hl => match us, hl with | [_, _, _], _ => rfl) h
theorem nv_formula {P : Program} {w : World} {K : PySem.W.Frag} {mg : Str → Option Value} {base : Heap} (G : Gs K mg) {sd : SD} (h : ∀ ss Q, ¬ sd ss Q) : DefOk P w K mg base "_law_formula" 1 ["_law_source_here", "_law_value_here", "_law_depth"] sd := ok_never G 44 rfl sc_formula (fun _ _ _ _ _ _ us hl => match us, hl with | [_, _, _], _ => rfl) h
theorem ok_no {P : Program} {w : World} {K : PySem.W.Frag} {mg : Str → Option Value} {base : Heap} (G : Gs K mg) : DefOk P w K mg base "no" 1 ["formula"] s_no := def_no G (k := 0) (by rintro ss Q ⟨_, rfl, _⟩; rfl) pure_no
theorem ok_both {P : Program} {w : World} {K : PySem.W.Frag} {mg : Str → Option Value} {base : Heap} (G : Gs K mg) : DefOk P w K mg base "both" 1 ["formulas"] s_both := def_both G (k := 0) (by rintro ss Q ⟨_, rfl, _⟩; rfl) pure_both
theorem ok_one_of {P : Program} {w : World} {K : PySem.W.Frag} {mg : Str → Option Value} {base : Heap} (G : Gs K mg) : DefOk P w K mg base "one_of" 1 ["formulas"] s_one_of := def_one_of G (k := 0) (by rintro ss Q ⟨_, rfl, _⟩; rfl) pure_one_of
theorem ok_at {P : Program} {w : World} {K : PySem.W.Frag} {mg : Str → Option Value} {base : Heap} (G : Gs K mg) : DefOk P w K mg base "at" 1 ["path", "formula"] s_at := def_at G (k := 0) (by rintro ss Q ⟨_, _, rfl, _⟩; rfl) pure_at
theorem ok_of_held {P : Program} {w : World} {K : PySem.W.Frag} {mg : Str → Option Value} {base : Heap} (G : Gs K mg) : DefOk P w K mg base "of_held" 1 ["formula"] s_of_held := def_of_held G (k := 0) (by rintro ss Q ⟨_, rfl, _⟩; rfl) pure_of_held
theorem ok_touched {P : Program} {w : World} {K : PySem.W.Frag} {mg : Str → Option Value} {base : Heap} (G : Gs K mg) : DefOk P w K mg base "touched" 1 ["primitive"] s_touched := def_touched G (k := 0) (by rintro ss Q ⟨_, rfl, _⟩; rfl) pure_touched
theorem ok_child {P : Program} {w : World} {K : PySem.W.Frag} {mg : Str → Option Value} {base : Heap} (G : Gs K mg) : DefOk P w K mg base "_law_child" 1 ["_law_value_here", "_law_token_here"] s_child := def_child G (k := 0) (by rintro ss Q ⟨_, _, rfl, _⟩; rfl) pure_child
theorem ok_with {P : Program} {w : World} {K : PySem.W.Frag} {mg : Str → Option Value} {base : Heap} (G : Gs K mg) : DefOk P w K mg base "_law_with" 1 ["_law_value_here", "_law_token_here", "_law_new"] s_with := def_with G (k := 0) (by rintro ss Q ⟨_, _, _, rfl, _⟩; rfl) pure_with
theorem ok_is_integer {P : Program} {w : World} {K : PySem.W.Frag} {mg : Str → Option Value} {base : Heap} (G : Gs K mg) : DefOk P w K mg base "_law_is_integer" 1 ["_law_number_here"] s_is_integer := def_is_integer G (k := 0) (by rintro ss Q ⟨_, rfl, _⟩; rfl) pure_is_integer
theorem ok_is_string {P : Program} {w : World} {K : PySem.W.Frag} {mg : Str → Option Value} {base : Heap} (G : Gs K mg) : DefOk P w K mg base "_law_is_string" 1 ["_law_string"] s_is_string := def_is_string G (k := 0) (by rintro ss Q (⟨_, rfl, _⟩ | ⟨_, rfl, _⟩) <;> rfl) pure_is_string
theorem ok_cell {P : Program} {w : World} {K : PySem.W.Frag} {mg : Str → Option Value} {base : Heap} (G : Gs K mg) : DefOk P w K mg base "_law_cell" 1 ["_law_script", "_law_k"] s_cell := def_cell G (k := 0) (by rintro ss Q ⟨_, _, rfl, _⟩; rfl) pure_cell
theorem ok_source {P : Program} {w : World} {K : PySem.W.Frag} {mg : Str → Option Value} {base : Heap} (G : Gs K mg) : DefOk P w K mg base "_law_source" 1 ["_law_cell_here"] s_source := def_source G (k := 0) (by rintro ss Q ⟨_, rfl, _⟩; rfl) pure_source
theorem ok_draw {P : Program} {w : World} {K : PySem.W.Frag} {mg : Str → Option Value} {base : Heap} (G : Gs K mg) : DefOk P w K mg base "_law_draw" 1 ["_law_source_here", "_law_many"] s_draw := def_draw G (k := 0) (by rintro ss Q ⟨_, rfl, _⟩; rfl) pure_draw
theorem ok_after_swap {P : Program} {w : World} {K : PySem.W.Frag} {mg : Str → Option Value} {base : Heap} (G : Gs K mg) : DefOk P w K mg base "after_swap" 2 ["target", "path", "formula"] s_after_swap := def_after_swap G (k := 1) (ok_at G) (by omega) (ok_of_held G) (by omega) (by rintro ss Q ⟨_, _, _, rfl, _⟩; rfl) pure_after_swap
theorem ok_held_before {P : Program} {w : World} {K : PySem.W.Frag} {mg : Str → Option Value} {base : Heap} (G : Gs K mg) : DefOk P w K mg base "held_before" 2 ["primitive", "formula"] s_held_before := def_held_before G (k := 1) (ok_at G) (by omega) (by rintro ss Q ⟨_, _, rfl, _⟩; rfl) pure_held_before
theorem ok_success_of {P : Program} {w : World} {K : PySem.W.Frag} {mg : Str → Option Value} {base : Heap} (G : Gs K mg) : DefOk P w K mg base "success_of" 2 ["primitive"] s_success := def_success_of G (k := 1) (ok_at G) (by omega) (ok_one_of G) (by omega) (by rintro ss Q ⟨_, rfl, _⟩; rfl) pure_success
theorem dep_pos (f : Fm) : 1 ≤ dep f := by cases f <;> simp [dep]
theorem ok_aat {P : Program} {w : World} {K : PySem.W.Frag} {mg : Str → Option Value} {base : Heap} (G : Gs K mg) : ∀ d : Nat, DefOk P w K mg base "after_at" (4 * d + 2) ["primitive", "path", "formula"] (s_aat d) ∧ DefOk P w K mg base "after_there" (4 * d + 2) ["primitive", "path", "formula"] (s_there d)
  | 0 => ⟨(nv_after_at G (by rintro ss Q ⟨t, p, f, _, _, h, _⟩; have := dep_pos f; omega)).mono (by omega), (nv_after_there G (by rintro ss Q ⟨t, p, f, _, _, h, _⟩; have := dep_pos f; omega)).mono (by omega)⟩
  | d + 1 => by
    have ih := ok_aat (P := P) (w := w) (base := base) G d
    have hd : DefOk P w K mg base "divided" (4 * d + 3) ["primitive", "path", "token", "formula"] (s_div (d + 1)) := def_divided G (k := 4 * d + 2) (ok_at G) (by omega) (ok_both G) (by omega) ih.1 (by omega) (by rintro ss Q ⟨_, _, _, _, rfl, _⟩; rfl) (pure_divided d)
    have hs : DefOk P w K mg base "after_simple" (4 * d + 4) ["primitive", "path", "formula"] (s_simple (d + 1)) := def_after_simple G (k := 4 * d + 3) (ok_after_swap G) (by omega) hd (by omega) (ok_touched G) (by omega) (ok_at G) (by omega) (by rintro ss Q ⟨_, _, _, rfl, _⟩; rfl) (pure_after_simple (d + 1))
    have ht : DefOk P w K mg base "after_there" (4 * d + 5) ["primitive", "path", "formula"] (s_there (d + 1)) := def_after_there G (k := 4 * d + 4) hs (by omega) ih.1 (by omega) ih.2 (by omega) (ok_one_of G) (by omega) (ok_both G) (by omega) (ok_no G) (by omega) (by rintro ss Q ⟨_, _, _, rfl, _⟩; rfl) (pure_after_there d)
    have ha : DefOk P w K mg base "after_at" (4 * d + 6) ["primitive", "path", "formula"] (s_aat (d + 1)) := def_after_at G (k := 4 * d + 5) ht (by omega) hs (by omega) (ok_both G) (by omega) (by rintro ss Q ⟨_, _, _, rfl, _⟩; rfl) (pure_after_at d)
    exact ⟨ha, ht.mono (by omega)⟩
theorem ok_rewritten {P : Program} {w : World} {K : PySem.W.Frag} {mg : Str → Option Value} {base : Heap} (G : Gs K mg) : ∀ d : Nat, DefOk P w K mg base "rewritten" (4 * d + 3) ["primitive", "formula"] (s_rew d)
  | 0 => (nv_rewritten G (by rintro ss Q ⟨t, f, _, _, h, _⟩; have := dep_pos f; omega)).mono (by omega)
  | d + 1 => def_rewritten G (k := 4 * d + 6) (ok_aat G (d + 1)).1 (by omega) (ok_held_before G) (by omega) (ok_rewritten G d) (by omega) (ok_one_of G) (by omega) (ok_both G) (by omega) (ok_no G) (by omega) (by rintro ss Q ⟨_, _, rfl, _⟩; rfl) (pure_rewritten d)
theorem ok_before_primitive {P : Program} {w : World} {K : PySem.W.Frag} {mg : Str → Option Value} {base : Heap} (G : Gs K mg) (d : Nat) : DefOk P w K mg base "before_primitive" (4 * d + 4) ["primitive", "formula"] (s_before d) := def_before_primitive G (k := 4 * d + 3) (ok_rewritten G d) (by omega) (ok_success_of G) (by omega) (ok_both G) (by omega) (by rintro ss Q ⟨_, _, rfl, _⟩; rfl) (pure_before d)
theorem ok_lookup {P : Program} {w : World} {K : PySem.W.Frag} {mg : Str → Option Value} {base : Heap} (G : Gs K mg) : DefOk P w K mg base "_law_lookup" 2 ["_law_value_here", "_law_path_here"] s_lookup := def_lookup G (k := 1) (ok_child G) (by omega) (by rintro ss Q ⟨_, _, rfl, _⟩; rfl) pure_lookup
theorem ok_replace {P : Program} {w : World} {K : PySem.W.Frag} {mg : Str → Option Value} {base : Heap} (G : Gs K mg) : ∀ n : Nat, DefOk P w K mg base "_law_replace" (n + 2) ["_law_value_here", "_law_path_here", "_law_new"] (s_replace n)
  | 0 => def_replace G (k := 1) (ok_with G) (by omega) (nv_replace G (sd := fun _ _ => False) (fun _ _ h => h)) (by omega) (ok_child G) (by omega) (by rintro ss Q ⟨_, _, _, rfl, _⟩; rfl) pure_replace0
  | n + 1 => def_replace G (k := n + 2) (ok_with G) (by omega) (ok_replace G n) (by omega) (ok_child G) (by omega) (by rintro ss Q ⟨_, _, _, rfl, _⟩; rfl) (pure_replace n)
theorem ok_put {P : Program} {w : World} {K : PySem.W.Frag} {mg : Str → Option Value} {base : Heap} (G : Gs K mg) : DefOk P w K mg base "_law_put" 15 ["_law_value_here", "_law_path_here", "_law_new"] s_put := def_put G (k := 14) (ok_replace G 12) (by omega) (ok_with G) (by omega) (ok_lookup G) (by omega) (by rintro ss Q ⟨_, _, _, rfl, _⟩; rfl) pure_put
theorem ok_take {P : Program} {w : World} {K : PySem.W.Frag} {mg : Str → Option Value} {base : Heap} (G : Gs K mg) : DefOk P w K mg base "_law_take" 15 ["_law_value_here", "_law_path_here"] s_take := def_take G (k := 14) (ok_replace G 12) (by omega) (ok_lookup G) (by omega) (by rintro ss Q ⟨_, _, rfl, _⟩; rfl) pure_take
theorem ok_primitive {P : Program} {w : World} {K : PySem.W.Frag} {mg : Str → Option Value} {base : Heap} (G : Gs K mg) : DefOk P w K mg base "_law_primitive" 16 ["_law_primitive_here", "_law_value_here", "_law_held"] s_primitive := def_primitive G (k := 15) (ok_put G) (by omega) (ok_replace G 12) (by omega) (ok_take G) (by omega) (ok_lookup G) (by omega) (by rintro ss Q ⟨_, _, _, rfl, _⟩; rfl) pure_primitive
theorem ok_holds {P : Program} {w : World} {K : PySem.W.Frag} {mg : Str → Option Value} {base : Heap} (G : Gs K mg) : ∀ d : Nat, DefOk P w K mg base "_law_holds" (d + 3) ["_law_formula_here", "_law_value_here", "_law_held"] (s_holds d)
  | 0 => (nv_holds G (by rintro ss Q ⟨f, v, h, hd, _, hl, _⟩; have := dep_pos f; omega)).mono (by omega)
  | d + 1 => def_holds G (k := d + 3) (ok_holds G d) (by omega) (ok_lookup G) (by omega) (by rintro ss Q ⟨_, _, _, _, rfl, _⟩; rfl) (pure_holds d)
theorem ok_is_token {P : Program} {w : World} {K : PySem.W.Frag} {mg : Str → Option Value} {base : Heap} (G : Gs K mg) : DefOk P w K mg base "_law_is_token" 2 ["_law_token_here"] s_is_token := def_is_token G (k := 1) (ok_is_string G) (by omega) (ok_is_integer G) (by omega) (by rintro ss Q ⟨_, rfl, _⟩; rfl) pure_is_token
theorem ok_formula_parts {P : Program} {w : World} {K : PySem.W.Frag} {mg : Str → Option Value} {base : Heap} (G : Gs K mg) : DefOk P w K mg base "_law_formula_parts" 3 ["_law_formula_here", "_law_plain"] s_formula_parts := def_formula_parts G (k := 2) (ok_is_token G) (by omega) (ok_is_integer G) (by omega) (ok_is_string G) (by omega) (by rintro ss Q ⟨_, _, rfl, _⟩; rfl) pure_formula_parts
theorem ok_is_formula {P : Program} {w : World} {K : PySem.W.Frag} {mg : Str → Option Value} {base : Heap} (G : Gs K mg) : DefOk P w K mg base "_law_is_formula" 4 ["_law_formula_here", "_law_plain", "_law_depth"] s_is_formula := def_is_formula G (k := 3) (ok_formula_parts G) (by omega) (by rintro ss Q ⟨_, _, rfl, _⟩; rfl) pure_is_formula
theorem ok_char {P : Program} {w : World} {K : PySem.W.Frag} {mg : Str → Option Value} {base : Heap} (G : Gs K mg) : DefOk P w K mg base "_law_char" 2 ["_law_source_here"] s_char := def_char G (k := 1) (ok_draw G) (by omega) (by rintro ss Q ⟨rfl, _⟩; rfl) pure_char
theorem ok_name {P : Program} {w : World} {K : PySem.W.Frag} {mg : Str → Option Value} {base : Heap} (G : Gs K mg) : DefOk P w K mg base "_law_name" 3 ["_law_source_here"] s_name := def_name G (k := 2) (ok_draw G) (by omega) (ok_char G) (by omega) (by rintro ss Q ⟨rfl, _⟩; rfl) pure_name
theorem ok_number {P : Program} {w : World} {K : PySem.W.Frag} {mg : Str → Option Value} {base : Heap} (G : Gs K mg) : DefOk P w K mg base "_law_number" 2 ["_law_source_here"] s_number := def_number G (k := 1) (ok_draw G) (by omega) (by rintro ss Q ⟨rfl, _⟩; rfl) pure_number
theorem ok_leaf {P : Program} {w : World} {K : PySem.W.Frag} {mg : Str → Option Value} {base : Heap} (G : Gs K mg) : DefOk P w K mg base "_law_leaf" 4 ["_law_source_here"] s_leaf := def_leaf G (k := 3) (ok_name G) (by omega) (ok_number G) (by omega) (ok_draw G) (by omega) (by rintro ss Q ⟨rfl, _⟩; rfl) pure_leaf
theorem ok_object {P : Program} {w : World} {K : PySem.W.Frag} {mg : Str → Option Value} {base : Heap} (G : Gs K mg) : DefOk P w K mg base "_law_object" 2 ["_law_pairs"] s_object := def_object G (k := 1) (ok_with G) (by omega) (by rintro ss Q ⟨_, _, rfl, _⟩; rfl) pure_object
theorem ok_value1 {P : Program} {w : World} {K : PySem.W.Frag} {mg : Str → Option Value} {base : Heap} (G : Gs K mg) : ∀ n : Nat, DefOk P w K mg base "_law_value" (n + 5) ["_law_source_here", "_law_depth"] (s_value (n + 1))
  | 0 => def_value G (k := 4) (ok_draw G) (by omega) (nv_value G (sd := fun _ _ => False) (fun _ _ h => h)) (by omega) (ok_name G) (by omega) (ok_object G) (by omega) (ok_leaf G) (by omega) (by rintro ss Q ⟨_, rfl, _⟩; rfl) pure_value1
  | n + 1 => def_value G (k := n + 5) (ok_draw G) (by omega) (ok_value1 G n) (by omega) (ok_name G) (by omega) (ok_object G) (by omega) (ok_leaf G) (by omega) (by rintro ss Q ⟨_, rfl, _⟩; rfl) (pure_value n)
theorem ok_value {P : Program} {w : World} {K : PySem.W.Frag} {mg : Str → Option Value} {base : Heap} (G : Gs K mg) (n : Nat) (h : n = 3 := by rfl) : DefOk P w K mg base "_law_value" 7 ["_law_source_here", "_law_depth"] (s_value n) := by
  subst h
  exact ok_value1 G 2
theorem ok_wide {P : Program} {w : World} {K : PySem.W.Frag} {mg : Str → Option Value} {base : Heap} (G : Gs K mg) : DefOk P w K mg base "_law_wide" 8 ["_law_source_here", "_law_depth"] s_wide := def_wide G (k := 7) (ok_draw G) (by omega) (ok_name G) (by omega) (ok_object G) (by omega) (ok_leaf G) (by omega) (ok_value G 3) (by omega) (by rintro ss Q ⟨rfl, _⟩; rfl) pure_wide
theorem ok_token {P : Program} {w : World} {K : PySem.W.Frag} {mg : Str → Option Value} {base : Heap} (G : Gs K mg) : DefOk P w K mg base "_law_token" 2 ["_law_source_here", "_law_value_here"] s_token := def_token G (k := 1) (ok_draw G) (by omega) (by rintro ss Q ⟨_, rfl, _⟩; rfl) pure_token
theorem ok_path {P : Program} {w : World} {K : PySem.W.Frag} {mg : Str → Option Value} {base : Heap} (G : Gs K mg) : DefOk P w K mg base "_law_path" 4 ["_law_source_here", "_law_value_here", "_law_most"] s_path := def_path G (k := 3) (ok_draw G) (by omega) (ok_name G) (by omega) (ok_child G) (by omega) (ok_token G) (by omega) (by rintro ss Q ⟨_, _, rfl, _⟩; rfl) pure_path
theorem ok_target {P : Program} {w : World} {K : PySem.W.Frag} {mg : Str → Option Value} {base : Heap} (G : Gs K mg) : DefOk P w K mg base "_law_target" 5 ["_law_source_here", "_law_value_here", "_law_most"] s_target := def_target G (k := 4) (ok_name G) (by omega) (ok_draw G) (by omega) (ok_lookup G) (by omega) (ok_path G) (by omega) (by rintro ss Q ⟨_, rfl, _⟩; rfl) pure_target
theorem ok_atom {P : Program} {w : World} {K : PySem.W.Frag} {mg : Str → Option Value} {base : Heap} (G : Gs K mg) : DefOk P w K mg base "_law_atom" 2 ["_law_source_here", "_law_value_here"] s_atom := def_atom G (k := 1) (ok_draw G) (by omega) (by rintro ss Q ⟨_, rfl, _⟩; rfl) pure_atom
theorem ok_item_of {P : Program} {w : World} {K : PySem.W.Frag} {mg : Str → Option Value} {base : Heap} (G : Gs K mg) : DefOk P w K mg base "_law_item_of" 5 ["_law_source_here", "_law_value_here"] s_item_of := def_item_of G (k := 4) (ok_child G) (by omega) (ok_leaf G) (by omega) (ok_token G) (by omega) (by rintro ss Q ⟨_, rfl, _⟩; rfl) pure_item_of
theorem ok_formula {P : Program} {w : World} {K : PySem.W.Frag} {mg : Str → Option Value} {base : Heap} (G : Gs K mg) : ∀ n : Nat, DefOk P w K mg base "_law_formula" (2 * n + 6) ["_law_source_here", "_law_value_here", "_law_depth"] (s_formula n)
  | 0 => def_formula G (k := 5) (nv_every G (sd := fun _ _ => False) (fun _ _ h => h)) (by omega) (nv_formula G (sd := fun _ _ => False) (fun _ _ h => h)) (by omega) (ok_leaf G) (by omega) (ok_lookup G) (by omega) (ok_path G) (by omega) (ok_draw G) (by omega) (ok_atom G) (by omega) (by rintro ss Q ⟨_, _, rfl, _⟩; rfl) pure_formula0
  | n + 1 => by
    have ih := ok_formula (P := P) (w := w) (base := base) G n
    have he : DefOk P w K mg base "_law_every" (2 * n + 7) ["_law_source_here", "_law_value_here", "_law_depth"] (s_every n) := def_every G (k := 2 * n + 6) (ok_draw G) (by omega) (ok_name G) (by omega) (ok_item_of G) (by omega) ih (by omega) (by rintro ss Q ⟨_, _, rfl, _⟩; rfl) (pure_every n)
    exact def_formula G (k := 2 * n + 7) he (by omega) ih (by omega) (ok_leaf G) (by omega) (ok_lookup G) (by omega) (ok_path G) (by omega) (ok_draw G) (by omega) (ok_atom G) (by omega) (by rintro ss Q ⟨_, _, rfl, _⟩; rfl) (pure_formula n)
theorem ok_every {P : Program} {w : World} {K : PySem.W.Frag} {mg : Str → Option Value} {base : Heap} (G : Gs K mg) (n : Nat) : DefOk P w K mg base "_law_every" (2 * n + 7) ["_law_source_here", "_law_value_here", "_law_depth"] (s_every n) := def_every G (k := 2 * n + 6) (ok_draw G) (by omega) (ok_name G) (by omega) (ok_item_of G) (by omega) (ok_formula G n) (by omega) (by rintro ss Q ⟨_, _, rfl, _⟩; rfl) (pure_every n)
theorem ok_changed {P : Program} {w : World} {K : PySem.W.Frag} {mg : Str → Option Value} {base : Heap} (G : Gs K mg) : DefOk P w K mg base "_law_changed" 16 ["_law_source_here", "_law_value_here"] s_changed := def_changed G (k := 15) (ok_leaf G) (by omega) (ok_replace G 12) (by omega) (ok_target G) (by omega) (ok_put G) (by omega) (ok_take G) (by omega) (ok_draw G) (by omega) (ok_path G) (by omega) (by rintro ss Q ⟨_, rfl, _⟩; rfl) pure_changed
theorem ok_near {P : Program} {w : World} {K : PySem.W.Frag} {mg : Str → Option Value} {base : Heap} (G : Gs K mg) : DefOk P w K mg base "_law_near" 13 ["_law_source_here", "_law_about", "_law_path_here"] s_near := def_near G (k := 12) (ok_formula G 3) (by omega) (ok_draw G) (by omega) (ok_every G 2) (by omega) (ok_lookup G) (by omega) (by rintro ss Q ⟨_, _, rfl, _⟩; rfl) pure_near
theorem ok_mixed {P : Program} {w : World} {K : PySem.W.Frag} {mg : Str → Option Value} {base : Heap} (G : Gs K mg) : DefOk P w K mg base "_law_mixed" 14 ["_law_source_here", "_law_about", "_law_path_here", "_law_held"] s_mixed := def_mixed G (k := 13) (ok_formula G 3) (by omega) (ok_draw G) (by omega) (ok_near G) (by omega) (by rintro ss Q ⟨_, _, _, rfl, _⟩; rfl) pure_mixed
theorem ok_is_exact {P : Program} {w : World} {K : PySem.W.Frag} {mg : Str → Option Value} {base : Heap} (G : Gs K mg) : DefOk P w K mg base "_law_is_exact" 34 ["_law_condition", "_law_primitive_here", "_law_formula_here", "_law_value_here", "_law_held"] s_is_exact := def_is_exact G (k := 33) (ok_holds G 30) (by omega) (ok_primitive G) (by omega) (by rintro ss Q ⟨_, _, _, _, rfl, _⟩; rfl) pure_is_exact
def spLawJ (K : PySem.W.Frag) : Sp := fun vs H Q _ => ∃ (a : Addr) (ns : List Int), vs = [.ref a] ∧ SqL K H a (ns.map V.int) ∧ ns.length ≤ 63 ∧ Only H ∧ ∀ H', Q (.bl true) H'
theorem sp_law {K : PySem.W.Frag} {vs : List V} {H : Hp} {Q : VK} {E : XK} (h : spLawJ K vs H Q E) : spD K s_law vs H Q E := by
  obtain ⟨a, ns, rfl, hs, hl, ho, hq⟩ := h
  have hz : RZ K H a (ns.map V.int) := by
    rcases hs with hs | hs
    · rcases hs with hs | ⟨o, hs⟩
      · rcases ho a with e | ⟨o, xs, e⟩
        · rw [e] at hs; cases hs
        · rw [e] at hs; cases hs
      · exact .inl ⟨o, hs⟩
    · exact .inr hs
  have hr : ∀ ns : List Int, RpA K H (ns.map V.int) (ns.map D.int) := by
    intro ns
    induction ns with
    | nil => exact .nil
    | cons n r ih => exact .cons (.int n) ih
  refine ⟨[.fz (ns.map D.int)], fun s => s = .d (.bl true), .cons ⟨a, _, rfl, hz, hr ns⟩ .nil, ⟨ns, rfl, hl, rfl⟩, fun v H' s k r e => ?_⟩
  subst e
  rw [Rp.bl_inv r]
  exact hq H'
/-- the rule for the law's def -/
theorem ok_fn {P : Program} {w : World} {K : PySem.W.Frag} {mg : Str → Option Value} {base : Heap} {x : Str} {i k : Nat} {N ps : List Str} {sd : SD} {f0 : Addr} {fd0 : FuncData} (F : FnP K x i f0 fd0) (sc : FnScope N ps (defScope (top i)))
    (len : ∀ ss Q, sd ss Q → ss.length = ps.length)
    (body : ∀ (f : Addr) (cdv : Value) (A : Around) (outer : List Env) (s : Shared) (H : Hp) (E : XK), Room k (A.deeper (envOfC x (defScope (top i)) s.heap.objs.size f cdv)) →
      ∃ T, PSsD (cxOf CX0 P w K mg base N x (defScope (top i)) f cdv A outer s H E).nox (defBody (top i)) T ∧ ∀ ss Q, sd ss Q → T { nx := fun _ => Q (.d .non), rt := Q } (entry N ps ss))
    {sp : Sp} (imp : ∀ vs H Q E, sp vs H Q E → spD K sd vs H Q E) : FnOk P w K mg base CX0 (k + 1) f0 fd0 ps sp := by
  refine F.ok sc (fun vs H Q E h => ?_) fun cdv A outer s H vs Q E hr h => ?_
  · obtain ⟨ss, QD, r, h, _⟩ := imp vs H Q E h
    rw [← len ss QD h]
    exact Paired.length r
  · obtain ⟨ss, QD, r, h, p⟩ := imp vs H Q E h
    obtain ⟨T, hT, q⟩ := body f0 cdv A outer s H E hr
    refine ⟨_, PSs.nox hT, H, entry N ps ss, _, Keep.refl H, rs_start r (len ss QD h), q ss QD h, ⟨fun σ H' ρ k r z => ?_, fun v H' s k r z => p v H' s k r z, fun _ _ _ _ _ z => z.elim, fun _ _ _ _ _ z => z.elim⟩⟩
    exact p _ _ (.d .non) k Rp.non z
theorem fn_law {P : Program} {w : World} {K : PySem.W.Frag} {mg : Str → Option Value} {base : Heap} (G : Gs K mg) {f0 : Addr} {fd0 : FuncData} (F : FnP K "law" 91 f0 fd0) {k : Nat} {k_is_exact k_cell k_source k_value k_changed k_is_formula k_before_primitive k_mixed k_primitive k_path k_wide : Nat} {s_is_exact s_cell s_source s_value s_changed s_is_formula s_before_primitive s_mixed s_primitive s_path s_wide : SD} (h_is_exact : DefOk P w K mg base "_law_is_exact" k_is_exact ["_law_condition", "_law_primitive_here", "_law_formula_here", "_law_value_here", "_law_held"] s_is_exact) (l_is_exact : k_is_exact ≤ k) (h_cell : DefOk P w K mg base "_law_cell" k_cell ["_law_script", "_law_k"] s_cell) (l_cell : k_cell ≤ k) (h_source : DefOk P w K mg base "_law_source" k_source ["_law_cell_here"] s_source) (l_source : k_source ≤ k) (h_value : DefOk P w K mg base "_law_value" k_value ["_law_source_here", "_law_depth"] s_value) (l_value : k_value ≤ k) (h_changed : DefOk P w K mg base "_law_changed" k_changed ["_law_source_here", "_law_value_here"] s_changed) (l_changed : k_changed ≤ k) (h_is_formula : DefOk P w K mg base "_law_is_formula" k_is_formula ["_law_formula_here", "_law_plain", "_law_depth"] s_is_formula) (l_is_formula : k_is_formula ≤ k) (h_before_primitive : DefOk P w K mg base "before_primitive" k_before_primitive ["primitive", "formula"] s_before_primitive) (l_before_primitive : k_before_primitive ≤ k) (h_mixed : DefOk P w K mg base "_law_mixed" k_mixed ["_law_source_here", "_law_about", "_law_path_here", "_law_held"] s_mixed) (l_mixed : k_mixed ≤ k) (h_primitive : DefOk P w K mg base "_law_primitive" k_primitive ["_law_primitive_here", "_law_value_here", "_law_held"] s_primitive) (l_primitive : k_primitive ≤ k) (h_path : DefOk P w K mg base "_law_path" k_path ["_law_source_here", "_law_value_here", "_law_most"] s_path) (l_path : k_path ≤ k) (h_wide : DefOk P w K mg base "_law_wide" k_wide ["_law_source_here", "_law_depth"] s_wide) (l_wide : k_wide ≤ k) {sd : SD} (len : ∀ ss Q, sd ss Q → ss.length = 1)
    (pure : ∀ ss Q, sd ss Q → T_law s_is_exact s_cell s_source s_value s_changed s_is_formula s_before_primitive s_mixed s_primitive s_path s_wide { nx := fun _ => Q (.d .non), rt := Q } (ss.map some ++ List.replicate 14 none)) {sp : Sp} (imp : ∀ vs H Q E, sp vs H Q E → spD K sd vs H Q E) : FnOk P w K mg base CX0 (k + 1) f0 fd0 ["_law_script"] sp := by
  refine ok_fn F sc_law len (fun f cdv A outer s H E hr => ⟨_, ?_, pure⟩) imp
  exact (psd_cons (psd_set 1 sc_law.nd (pd_call h_source (hr.mono l_source) (pad_cons (pd_call h_cell (hr.mono l_cell) (pad_cons (pd_var 0) (pad_cons pd_int pad_nil))) pad_nil)))
 (psd_cons (psd_set 2 sc_law.nd (pd_call h_wide (hr.mono l_wide) (pad_cons (pd_var 1) (pad_cons pd_int pad_nil))))
 (psd_cons (psd_set 3 sc_law.nd (pd_call h_value (hr.mono l_value) (pad_cons (pd_call h_source (hr.mono l_source) (pad_cons (pd_call h_cell (hr.mono l_cell) (pad_cons (pd_var 0) (pad_cons pd_int pad_nil))) pad_nil)) (pad_cons pd_int pad_nil))))
 (psd_cons (psd_set 4 sc_law.nd (pd_call h_path (hr.mono l_path) (pad_cons (pd_var 1) (pad_cons (pd_var 2) (pad_cons pd_int pad_nil)))))
 (psd_cons (psd_set 5 sc_law.nd (pd_tup (pad_cons pd_str (pad_cons (pd_var 4) pad_nil))))
 (psd_cons (psd_set 6 sc_law.nd (pd_call h_primitive (hr.mono l_primitive) (pad_cons (pd_var 5) (pad_cons (pd_var 2) (pad_cons (pd_var 3) pad_nil)))))
 (psd_cons (psd_set 7 sc_law.nd (pd_var 2))
 (psd_cons (psd_set 8 sc_law.nd (pd_var 3))
 (psd_cons (psd_if (pt_notN (pd_var 6)) (psd_cons (psd_set 7 sc_law.nd (pd_ix (pd_var 6) pd_int))
 (psd_one (psd_set 8 sc_law.nd (pd_ix (pd_var 6) pd_int)))) psd_nil)
 (psd_cons (psd_set 9 sc_law.nd (pd_call h_mixed (hr.mono l_mixed) (pad_cons (pd_call h_source (hr.mono l_source) (pad_cons (pd_call h_cell (hr.mono l_cell) (pad_cons (pd_var 0) (pad_cons pd_int pad_nil))) pad_nil)) (pad_cons (pd_var 7) (pad_cons (pd_var 4) (pad_cons (pd_var 8) pad_nil))))))
 (psd_cons (psd_set 10 sc_law.nd (pd_call h_before_primitive (hr.mono l_before_primitive) (pad_cons (pd_var 5) (pad_cons (pd_var 9) pad_nil))))
 (psd_cons (psd_if (ptd_not (pt_e (pd_call h_is_formula (hr.mono l_is_formula) (pad_cons (pd_var 10) (pad_cons pd_bl (pad_cons pd_int pad_nil)))))) (psd_one (psd_ret pd_bl)) psd_nil)
 (psd_cons (psd_set 11 sc_law.nd (pd_lst (pad_cons (pd_var 2) pad_nil)))
 (psd_cons (psd_for_fz 12 PassesOwn.never (pd_sliceFz (pd_var 0) (pod_some pd_int) (pod_some pd_int)) (pg_name (i := 12) sc_law.nd rfl (by first | exact Or.inl rfl | exact Or.inr rfl)) (psd_one (psd_if (pt_gt (pd_mod (pd_callTy call_int1 fInt_ok G.z_int (pad_cons (pd_var 12) pad_nil)) pd_int) pd_int) (psd_one (psd_app 11 (pd_call h_changed (hr.mono l_changed) (pad_cons (pd_call h_source (hr.mono l_source) (pad_cons (pd_div (pd_callTy call_int1 fInt_ok G.z_int (pad_cons (pd_var 12) pad_nil)) pd_int) pad_nil)) (pad_cons (pd_var 2) pad_nil))))) (psd_one (psd_app 11 (pd_call h_value (hr.mono l_value) (pad_cons (pd_call h_source (hr.mono l_source) (pad_cons (pd_div (pd_callTy call_int1 fInt_ok G.z_int (pad_cons (pd_var 12) pad_nil)) pd_int) pad_nil)) (pad_cons pd_int pad_nil))))))))
 (psd_cons (psd_set 13 sc_law.nd (pd_call h_value (hr.mono l_value) (pad_cons (pd_call h_source (hr.mono l_source) (pad_cons (pd_call h_cell (hr.mono l_cell) (pad_cons (pd_var 0) (pad_cons pd_int pad_nil))) pad_nil)) (pad_cons pd_int pad_nil))))
 (psd_cons (psd_for_var 14 11 PassesOwn.never (pg_name (i := 14) sc_law.nd rfl (by first | exact Or.inl rfl | exact Or.inr rfl)) (psd_cons (psd_if (ptd_not (pt_e (pd_call h_is_exact (hr.mono l_is_exact) (pad_cons (pd_var 10) (pad_cons (pd_var 5) (pad_cons (pd_var 9) (pad_cons (pd_var 14) (pad_cons (pd_var 3) pad_nil)))))))) (psd_one (psd_ret pd_bl)) psd_nil)
 (psd_one (psd_if (ptd_not (pt_e (pd_call h_is_exact (hr.mono l_is_exact) (pad_cons (pd_var 10) (pad_cons (pd_var 5) (pad_cons (pd_var 9) (pad_cons (pd_var 14) (pad_cons (pd_var 13) pad_nil)))))))) (psd_one (psd_ret pd_bl)) psd_nil))))
 (psd_one (psd_ret pd_bl))))))))))))))))))
theorem law_ok {P : Program} {w : World} {K : PySem.W.Frag} {mg : Str → Option Value} {base : Heap} (G : Gs K mg) {f0 : Addr} {fd0 : FuncData} (F : FnP K "law" 91 f0 fd0) : FnOk P w K mg base CX0 35 f0 fd0 ["_law_script"] (spLawJ K) := fn_law G F (k := 34) (ok_is_exact G) (by omega) (ok_cell G) (by omega) (ok_source G) (by omega) (ok_value G 3) (by omega) (ok_changed G) (by omega) (ok_is_formula G) (by omega) (ok_before_primitive G 7) (by omega) (ok_mixed G) (by omega) (ok_primitive G) (by omega) (ok_path G) (by omega) (ok_wide G) (by omega) (by rintro ss Q ⟨_, rfl, _⟩; rfl) pure_law fun _ _ _ _ h => sp_law h
end Pk

/-! ## J2 -/
set_option Elab.async false
set_option linter.all false
set_option maxRecDepth 100000
set_option maxHeartbeats 4000000
namespace Pk
open PySem PySem.Spec PyProof.Rows L2
theorem fn_eq : fn = fnT.map fun p => dd p.1 p.2 := rfl
theorem fa_eq : fa = (fnT.map fun p => He.Fa.glo p.1) ++ fa.drop 50 := rfl
theorem gs_of {K : PySem.W.Frag} {mg : Str → Option Value} {base : Heap} (S : Says K) (KB : K.In base) (GB : base.Ns mainGlobals mg) : Gs K mg := by
  have hex : (He.tupB K "TRUE" [.str "true"] && He.tupB K "FALSE" [.str "false"]) = true := S.ex
  obtain ⟨h1, h2⟩ := Bool.and_eq_true_iff.mp hex
  refine ⟨fun j x i h => ?_, ⟨_, He.glo_ok KB GB (S.d.fact 50 (f := .glo "TRUE") rfl), fun H => He.tupB_ok h1 H⟩, ⟨_, He.glo_ok KB GB (S.d.fact 51 (f := .glo "FALSE") rfl), fun H => He.tupB_ok h2 H⟩, He.free_ok KB GB (S.d.fact 52 (f := .free "len") rfl), He.free_ok KB GB (S.d.fact 53 (f := .free "isinstance") rfl), He.free_ok KB GB (S.d.fact 54 (f := .free "range") rfl), He.free_ok KB GB (S.d.fact 55 (f := .free "all") rfl), He.free_ok KB GB (S.d.fact 56 (f := .free "any") rfl), He.free_ok KB GB (S.d.fact 57 (f := .free "tuple") rfl), He.free_ok KB GB (S.d.fact 58 (f := .free "list") rfl), He.free_ok KB GB (S.d.fact 59 (f := .free "int") rfl), He.free_ok KB GB (S.d.fact 60 (f := .free "str") rfl), He.free_ok KB GB (S.d.fact 61 (f := .free "bool") rfl), He.free_ok KB GB (S.d.fact 62 (f := .free "min") rfl), He.free_ok KB GB (S.d.fact 63 (f := .free "max") rfl), He.free_ok KB GB (S.d.fact 64 (f := .free "ord") rfl)⟩
  have e1 : fn[j]? = some (dd x i) := by rw [fn_eq, List.getElem?_map, h]; rfl
  have e2 : fa[j]? = some (.glo x) := by
    have hl : j < fnT.length := by
      by_cases c : j < fnT.length
      · exact c
      · rw [List.getElem?_eq_none (by omega)] at h; cases h
    rw [fa_eq, List.getElem?_append_left (by rw [List.length_map]; exact hl), List.getElem?_map, h]; rfl
  obtain ⟨fd, FL⟩ := S.d.def_ j e1
  exact ⟨_, fd, He.glo_ok KB GB (S.d.fact j e2), FL⟩
end Pk
theorem PySem.Challenge.cw_patchkept_k35_before_swap_holds : PySem.Challenge.rw_patchkept_k35_before_swap.Holds := by
  exact Pk.holds_of 35 ⟨rfl, by decide, by decide⟩ fun w K mg base f fd S KB GB hm F => Pk.law_ok (Pk.gs_of S KB GB) F
