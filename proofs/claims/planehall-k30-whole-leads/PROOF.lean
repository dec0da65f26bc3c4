import PyProof.Rows.All
import Wide.All
import OpenK.AllK
import Wide.FinOn
import HandS.ForMost
import HandS.Head0
import HandS.Head1
import HandS.Head2
import HandS.Head3
import HandS.HeadHook1
import HandS.HeadHook2
import KE.KMathG
import PyProof.ReprRoads
import HandS.Star
import HandS.Style
import HandS.Gcd
import HandS.Wide
import HandS.WideBits
import HandS.IsInst
import HandS.Zip
import HandS.Defaults
import HandS.NoneIn
import HandS.Deep
import Flt.RightSqrt
import HandS.More
import HandS.SetFor
import HandS.Ends
import HandS.HeadEnd
import PySem.Challenge.RW_planehall_k30_whole_leads
section
set_option Elab.async false
set_option linter.all false
set_option maxRecDepth 100000
set_option maxHeartbeats 0
/-! H0: the head: what the text's top leaves, by names (printed by mkhead.py). -/
namespace GD
open PySem PySem.Spec PyProof.Rows L2
/-- the text by places -/
def topS (i : Nat) : Stmt := PySem.Challenge.pw_planehall_k30_whole_leads.main.body.getD i (.Pass ⟨0, 0, 0, 0⟩)
/-- a def that stands at a place -/
abbrev dfn (x : Str) (i : Nat) : He.DefD := ⟨(x, none), x, x, defArgs (topS i), defBody (topS i), defScope (topS i), [], []⟩

def hdFn0 : List He.DefD := [dfn "is_whole" 2, dfn "is_truth" 3, dfn "are_wholes" 4, dfn "is_ratio" 9, dfn "ratio" 10, dfn "plus" 11, dfn "minus" 12, dfn "times" 13, dfn "over" 14, dfn "opposite" 15, dfn "sign_of" 16, dfn "shared_under" 17, dfn "is_square" 19, dfn "is_rooted" 20, dfn "is_numbered" 21, dfn "parts_of" 22, dfn "number_from" 23, dfn "sign_one" 24, dfn "do_lie_in_one" 25, dfn "in_one" 26, dfn "is_pointed" 28, dfn "is_placed" 29, dfn "is_curved" 30, dfn "is_line" 31, dfn "sign_by" 32, dfn "is_led" 42, dfn "is_wayed" 43, dfn "sum_of" 44, dfn "scaled_by" 45, dfn "dot_of" 46]
def hdFn1 : List He.DefD := [dfn "product_of" 47, dfn "flipped_if" 48, dfn "under_one" 49, dfn "is_rigid_by" 50, dfn "led_way" 51, dfn "lead_point" 52, dfn "lead_place" 53, dfn "lead_curve" 54, dfn "lead_behind" 55, dfn "back_by" 56, dfn "move_by" 57, dfn "turn_by" 58, dfn "mirror_by" 59, dfn "check_point" 61, dfn "check_place" 62, dfn "check_curve" 63, dfn "check_lead" 65, dfn "is_lead" 67, dfn "led_place" 68, dfn "led_curve" 69, dfn "behind" 70, dfn "back" 71, dfn "is_rigid" 72, dfn "move" 73, dfn "turn" 74, dfn "mirror" 75, dfn "sign_at" 77, dfn "_law_well" 79, dfn "_law_draw" 80, dfn "_law_pick" 81]
def hdFn2 : List He.DefD := [dfn "_law_divisor" 82, dfn "_law_lean" 83, dfn "_law_sum" 84, dfn "_law_product" 85, dfn "_law_side" 86, dfn "_law_sign" 87, dfn "_law_sign_two" 88, dfn "_law_order" 89, dfn "_law_floor" 90, dfn "_law_number" 91, dfn "_law_told" 92, dfn "_law_flat" 93, dfn "_law_at" 94, dfn "_law_on_line" 95, dfn "_law_meet" 96, dfn "_law_after" 97, dfn "_law_marks" 98, dfn "_law_small" 99, dfn "_law_form" 100, dfn "_law_norm" 101, dfn "_law_line" 102, dfn "_law_ring" 103, dfn "_law_bow" 104, dfn "_law_bows" 105, dfn "_law_turned" 106, dfn "_law_led" 107, dfn "_law_undone" 108, dfn "_law_rule" 109, dfn "_law_led_spot" 110, dfn "_law_raw" 111]
def hdFn3 : List He.DefD := [dfn "_law_crossing" 112, dfn "_law_spot" 113, dfn "_law_both" 114, dfn "_law_moves" 115, dfn "_law_mirrors" 116, dfn "_law_right" 117, dfn "law" 118]
def hdFn : List He.DefD := hdFn0 ++ hdFn1 ++ hdFn2 ++ hdFn3
def hdFa0 : List He.Fa := [.glo "is_whole", .glo "is_truth", .glo "are_wholes", .glo "is_ratio", .glo "ratio", .glo "plus", .glo "minus", .glo "times", .glo "over", .glo "opposite", .glo "sign_of", .glo "shared_under", .glo "is_square", .glo "is_rooted", .glo "is_numbered", .glo "parts_of", .glo "number_from", .glo "sign_one", .glo "do_lie_in_one", .glo "in_one", .glo "is_pointed", .glo "is_placed", .glo "is_curved", .glo "is_line", .glo "sign_by", .glo "is_led", .glo "is_wayed", .glo "sum_of", .glo "scaled_by", .glo "dot_of"]
def hdFa1 : List He.Fa := [.glo "product_of", .glo "flipped_if", .glo "under_one", .glo "is_rigid_by", .glo "led_way", .glo "lead_point", .glo "lead_place", .glo "lead_curve", .glo "lead_behind", .glo "back_by", .glo "move_by", .glo "turn_by", .glo "mirror_by", .glo "check_point", .glo "check_place", .glo "check_curve", .glo "check_lead", .glo "is_lead", .glo "led_place", .glo "led_curve", .glo "behind", .glo "back", .glo "is_rigid", .glo "move", .glo "turn", .glo "mirror", .glo "sign_at", .glo "_law_well", .glo "_law_draw", .glo "_law_pick"]
def hdFa2 : List He.Fa := [.glo "_law_divisor", .glo "_law_lean", .glo "_law_sum", .glo "_law_product", .glo "_law_side", .glo "_law_sign", .glo "_law_sign_two", .glo "_law_order", .glo "_law_floor", .glo "_law_number", .glo "_law_told", .glo "_law_flat", .glo "_law_at", .glo "_law_on_line", .glo "_law_meet", .glo "_law_after", .glo "_law_marks", .glo "_law_small", .glo "_law_form", .glo "_law_norm", .glo "_law_line", .glo "_law_ring", .glo "_law_bow", .glo "_law_bows", .glo "_law_turned", .glo "_law_led", .glo "_law_undone", .glo "_law_rule", .glo "_law_led_spot", .glo "_law_raw"]
def hdFa3 : List He.Fa := [.glo "_law_crossing", .glo "_law_spot", .glo "_law_both", .glo "_law_moves", .glo "_law_mirrors", .glo "_law_right", .glo "law", .free "isinstance", .free "int", .free "bool", .free "tuple", .free "str", .free "len", .free "abs", .free "all", .free "repr", .free "range", .free "zip", .free "divmod", .free "max", .free "min"]
def hdFa : List He.Fa := hdFa0 ++ hdFa1 ++ hdFa2 ++ hdFa3
def hdLoose0 : List PySem.Str := ["is_whole", "is_truth", "are_wholes", "ZERO", "ONE", "TWO", "is_ratio", "ratio", "plus", "minus", "times", "over", "opposite", "sign_of", "shared_under", "is_square", "is_rooted", "is_numbered", "parts_of", "number_from", "sign_one", "do_lie_in_one", "in_one", "is_pointed", "is_placed", "is_curved", "is_line", "sign_by", "PlaneError", "InvalidPoint"]
def hdLoose1 : List PySem.Str := ["InvalidPlace", "InvalidWay", "InvalidCurve", "InvalidLead", "START", "is_led", "is_wayed", "sum_of", "scaled_by", "dot_of", "product_of", "flipped_if", "under_one", "is_rigid_by", "led_way", "lead_point", "lead_place", "lead_curve", "lead_behind", "back_by", "move_by", "turn_by", "mirror_by", "check_point", "check_place", "check_curve", "check_lead", "is_lead", "led_place", "led_curve"]
def hdLoose2 : List PySem.Str := ["behind", "back", "is_rigid", "move", "turn", "mirror", "sign_at", "_law_well", "_law_draw", "_law_pick", "_law_divisor", "_law_lean", "_law_sum", "_law_product", "_law_side", "_law_sign", "_law_sign_two", "_law_order", "_law_floor", "_law_number", "_law_told", "_law_flat", "_law_at", "_law_on_line", "_law_meet", "_law_after", "_law_marks", "_law_small", "_law_form", "_law_norm"]
def hdLoose3 : List PySem.Str := ["_law_line", "_law_ring", "_law_bow", "_law_bows", "_law_turned", "_law_led", "_law_undone", "_law_rule", "_law_led_spot", "_law_raw", "_law_crossing", "_law_spot", "_law_both", "_law_moves", "_law_mirrors", "_law_right"]
def hdLoose : List PySem.Str := hdLoose0 ++ hdLoose1 ++ hdLoose2 ++ hdLoose3
/-- what is asked besides: constants, two functions of another module -/
def hdEx (K : PySem.W.Frag) : Bool := (He.tupB K "ZERO" [.int 0, .int 1] && (He.tupB K "ONE" [.int 1, .int 1] && (He.tupB K "TWO" [.int 2, .int 1] && He.tupB K "START" [.glo "ZERO", .glo "ZERO"]))) &&
  ((He.Fa.glo "ZERO").ok K && ((He.Fa.glo "ONE").ok K && ((He.Fa.glo "TWO").ok K && (He.Fa.glo "START").ok K))) && (He.eqO (PySem.W.nsIn K mainGlobals "gcd") (some (some (.builtin "math.gcd"))) && He.eqO (PySem.W.nsIn K mainGlobals "isqrt") (some (some (.builtin "math.isqrt"))))
abbrev HdA : Type := He.AlD × Bool
def hdObs (g : Addr → Option Obj) : HdA := (He.obsDG 2 hdFa hdFn g, hdEx (He.frG g (He.asD g 2)))
def hdHook : PySem.W.Hook where
  α := HdA
  obs := fun s => hdObs s.heap.get?
  val := fun _ => (He.valD hdFn, true)
  says := fun _ h => ∃ K : PySem.W.Frag, K.In h ∧ He.SaysD hdFa hdFn K ∧ hdEx K = true
  of := fun _ _ e => ⟨_, He.frG_in, congrArg (fun z : HdA => z.1) e, congrArg (fun z : HdA => z.2) e⟩
  keeps := fun _ _ _ ⟨K, hK, c⟩ k => ⟨K, PySem.W.Frag.In.keeps hK k, c⟩
def hdOb (s : PySem.W.SharedT) : HdA := hdObs (HandSHeadRun.getT s)
theorem hdOb_eq (s : PySem.W.SharedT) : hdOb s = hdHook.obs s.abs := by
  have e : HandSHeadRun.getT s = s.abs.heap.get? := funext (HandSHeadRun.getT_eq s)
  show hdObs (HandSHeadRun.getT s) = hdObs s.abs.heap.get?
  rw [e]
abbrev hdR : PySem.W.OpenRow := PySem.W.OpenLaw.row PySem.Challenge.rw_planehall_k30_whole_leads
abbrev hdV : Program := PySem.W.view hdR.prog [0, 118]
/-- the run behind the top -/
noncomputable abbrev hdEnd (w : World) : Option (Shared × PySem.W.SharedT) := HandSHeadRun.wholeF (fun p => HandSHeadRun.stepQ (HandSHeadRun.denQ HandSHeadRun.tabQ) p w) HandSHeadRun.fenceQ 8000 hdR.prog
theorem map3 {α β γ δ : Type} {x : Option α} {f : α → β} {g : α → γ} {k : α → δ} {a : β} {b : γ} {c : δ} (h : x.map (fun y => (f y, g y)) = some (a, b)) (q : x.map k = some c) : x.map (fun y => (f y, g y, k y)) = some (a, b, c) := by
  cases x with
  | none => cases h
  | some y =>
    cases h
    cases q
    rfl
/-- run twice, for each half of what is asked: memory -/
theorem hd_runA (w : World) : (hdEnd w).map (fun x => (HandSHeadRun.looksF hdR.prog x.1.heap x.2.abs, HandSHeadRun.seenQ hdV hdLoose (importedModules hdR.prog.main.body) (fun s => PySem.W.xlAt hdV [] s && PySem.W.recOk hdR.toRowW.records s) x.2.abs)) = some (true, PySem.W.openGood hdV hdLoose) := by
  kernel_rfl
theorem hd_runB (w : World) : (hdEnd w).map (fun x => hdOb x.2) = some (hdHook.val w) := by
  kernel_rfl
theorem hd_run (w : World) : HandSHeadRun.RunEqI hdR hdV hdHook hdOb 8000 hdLoose w := by
  unfold HandSHeadRun.RunEqI
  exact map3 (hd_runA w) (hd_runB w)

end GD
end

section
set_option Elab.async false
set_option linter.all false
set_option maxRecDepth 100000
/-! GD: a data layer over the hand layer. Values of the heap are told as PyData; the one mutable list (the well, at wa) is told as .dict []; a reading is a predicate transformer over data. -/
namespace GD
open PySem PySem.Spec PyProof.Rows L2

abbrev En := List (Option PyData)
abbrev MD := (PyData → Prop) → Prop
abbrev ME := En → (PyData → Prop) → Prop
abbrev MT := En → (Bool → Prop) → Prop
abbrev MA := En → (List PyData → Prop) → Prop
abbrev MS := En → (En → Prop) → (PyData → Prop) → Prop

/-! ### data at a value -/
/-- where the well stands; lists that are not to be told as data -/
structure Wl where
  a : Addr
  ex : List Addr
def Wl.no (wa : Wl) (a : Addr) : Prop := a ≠ wa.a ∧ a ∉ wa.ex
mutual
inductive Rp (K : PySem.W.Frag) (wa : Wl) (H : Hp) : V → PyData → Prop
  | non : Rp K wa H .non .none
  | bl (b : Bool) : Rp K wa H (.bl b) (.bool b)
  | int (i : Int) : Rp K wa H (.int i) (.int i)
  | str (x : Str) : Rp K wa H (.str x) (.str x)
  | tup {a : Addr} {xs : List V} {ds : List PyData} : SqT K H a xs → RpA K wa H xs ds → Rp K wa H (.ref a) (.tuple ds)
  | lst {a : Addr} {xs : List V} {ds : List PyData} : wa.no a → H a = some (.lst xs) → RpA K wa H xs ds → Rp K wa H (.ref a) (.list ds)
  | well : Rp K wa H (.ref wa.a) (.dict [])
inductive RpA (K : PySem.W.Frag) (wa : Wl) (H : Hp) : List V → List PyData → Prop
  | nil : RpA K wa H [] []
  | cons {v : V} {vs : List V} {d : PyData} {ds : List PyData} : Rp K wa H v d → RpA K wa H vs ds → RpA K wa H (v :: vs) (d :: ds)
end
/-- the well stands at wa -/
def Well0 (p : Addr) (H : Hp) : Prop := ∃ a b c d : Int, H p = some (.lst [.int a, .int b, .int c, .int d])
def WellAt (wa : Wl) (H : Hp) : Prop := Well0 wa.a H ∧ ∀ e ∈ wa.ex, ∃ o, H e = some o
/-- all that was tracked stands, but the well -/
def Gr (wa : Wl) (H H' : Hp) : Prop := ∀ b o, b ≠ wa.a → H b = some o → H' b = some o
theorem Gr.refl {wa : Wl} {H : Hp} : Gr wa H H := fun _ _ _ e => e
theorem Gr.trans {wa : Wl} {H H1 H2 : Hp} (g : Gr wa H H1) (k : Gr wa H1 H2) : Gr wa H H2 := fun b o n e => k b o n (g b o n e)
theorem WellAt.ne {wa : Wl} {p : Addr} {H : Hp} (w : WellAt wa H) (h : H p = none) : p ≠ wa.a := by
  obtain ⟨⟨a, b, c, d, e⟩, _⟩ := w
  exact (ne_of_none e h).symm
theorem WellAt.fresh {wa : Wl} {p : Addr} {H : Hp} (w : WellAt wa H) (h : H p = none) : wa.no p := ⟨w.ne h, fun hm => by
  obtain ⟨o, e⟩ := w.2 p hm
  rw [h] at e
  cases e⟩
theorem WellAt.laid {wa : Wl} {p : Addr} {H : Hp} {o : HO} (w : WellAt wa H) (h : H p = none) : WellAt wa (upd H p o) := by
  have n := w.ne h
  obtain ⟨⟨a, b, c, d, e⟩, k⟩ := w
  refine ⟨⟨a, b, c, d, by rw [upd_ne n.symm]; exact e⟩, fun q hq => ?_⟩
  obtain ⟨u, hu⟩ := k q hq
  exact ⟨u, by rw [upd_ne (ne_of_none hu h)]; exact hu⟩
theorem Gr.laid {wa : Wl} {p : Addr} {H : Hp} {o : HO} (h : H p = none) : Gr wa H (upd H p o) := fun b u _ e => by
  rw [upd_ne (ne_of_none e h)]
  exact e
theorem sqT_gr0 {K : PySem.W.Frag} {wa : Wl} {H H' : Hp} (w : Well0 wa.a H) (g : Gr wa H H') {a : Addr} {xs : List V} (h : SqT K H a xs) : SqT K H' a xs := by
  obtain ⟨p, q, r, t, e⟩ := w
  rcases h with (h | ⟨o, h⟩) | h
  · refine .inl (.inl (g _ _ (fun z => ?_) h))
    rw [z, e] at h
    cases h
  · refine .inl (.inr ⟨o, g _ _ (fun z => ?_) h⟩)
    rw [z, e] at h
    cases h
  · exact .inr h
mutual
theorem Rp.mono0 {K : PySem.W.Frag} {wa : Wl} {H H' : Hp} (w : Well0 wa.a H) (g : Gr wa H H') : ∀ {v : V} {d : PyData}, Rp K wa H v d → Rp K wa H' v d
  | _, _, .non => .non
  | _, _, .bl b => .bl b
  | _, _, .int i => .int i
  | _, _, .str x => .str x
  | _, _, .tup h t => .tup (sqT_gr0 w g h) (RpA.mono0 w g t)
  | _, _, .lst n h t => .lst n (g _ _ n.1 h) (RpA.mono0 w g t)
  | _, _, .well => .well
theorem RpA.mono0 {K : PySem.W.Frag} {wa : Wl} {H H' : Hp} (w : Well0 wa.a H) (g : Gr wa H H') : ∀ {vs : List V} {ds : List PyData}, RpA K wa H vs ds → RpA K wa H' vs ds
  | _, _, .nil => .nil
  | _, _, .cons h t => .cons (Rp.mono0 w g h) (RpA.mono0 w g t)
end
theorem sqT_gr {K : PySem.W.Frag} {wa : Wl} {H H' : Hp} (w : WellAt wa H) (g : Gr wa H H') {a : Addr} {xs : List V} (h : SqT K H a xs) : SqT K H' a xs := sqT_gr0 w.1 g h
theorem Rp.mono {K : PySem.W.Frag} {wa : Wl} {H H' : Hp} (w : WellAt wa H) (g : Gr wa H H') {v : V} {d : PyData} (h : Rp K wa H v d) : Rp K wa H' v d := h.mono0 w.1 g
theorem RpA.mono {K : PySem.W.Frag} {wa : Wl} {H H' : Hp} (w : WellAt wa H) (g : Gr wa H H') {v : List V} {d : List PyData} (h : RpA K wa H v d) : RpA K wa H' v d := h.mono0 w.1 g
section
variable {K : PySem.W.Frag} {wa : Wl} {H : Hp}
theorem RpA.len : ∀ {vs : List V} {ds : List PyData}, RpA K wa H vs ds → vs.length = ds.length
  | _, _, .nil => rfl
  | _, _, .cons _ t => congrArg Nat.succ (RpA.len t)
theorem RpA.get : ∀ {vs : List V} {ds : List PyData} {i : Nat} {d : PyData}, RpA K wa H vs ds → ds[i]? = some d → ∃ v, vs[i]? = some v ∧ Rp K wa H v d
  | _, _, _, _, .nil, e => by simp at e
  | _, _, 0, _, .cons h _, e => by
    have e' := Option.some.inj e
    subst e'
    exact ⟨_, rfl, h⟩
  | _, _, i + 1, d, .cons _ t, e => by
    obtain ⟨v, h1, h2⟩ := RpA.get (i := i) (d := d) t e
    exact ⟨v, h1, h2⟩
theorem RpA.append : ∀ {vs ws : List V} {ds es : List PyData}, RpA K wa H vs ds → RpA K wa H ws es → RpA K wa H (vs ++ ws) (ds ++ es)
  | _, _, _, _, .nil, s => s
  | _, _, _, _, .cons r t, s => .cons r (RpA.append t s)
theorem RpA.take : ∀ {vs : List V} {ds : List PyData} (n : Nat), RpA K wa H vs ds → RpA K wa H (vs.take n) (ds.take n)
  | _, _, 0, _ => .nil
  | _, _, _ + 1, .nil => .nil
  | _, _, n + 1, .cons r t => .cons r (RpA.take n t)
theorem RpA.drop : ∀ {vs : List V} {ds : List PyData} (n : Nat), RpA K wa H vs ds → RpA K wa H (vs.drop n) (ds.drop n)
  | _, _, 0, r => r
  | _, _, _ + 1, .nil => .nil
  | _, _, n + 1, .cons _ t => RpA.drop n t
mutual
/-- what bears no well: for ==, repr -/
def noWell : PyData → Bool
  | .dict _ => false
  | .list xs => noWells xs
  | .tuple xs => noWells xs
  | _ => true
def noWells : List PyData → Bool
  | [] => true
  | x :: r => noWell x && noWells r
end
mutual
theorem Rp.dp : ∀ {v : V} {d : PyData}, Rp K wa H v d → noWell d = true → Dp K H v d
  | _, _, .non, _ => .non
  | _, _, .bl b, _ => .bl b
  | _, _, .int i, _ => .int i
  | _, _, .str x, _ => .str x
  | _, _, .tup h t, e => .tup h (RpA.dp t (by unfold noWell at e; exact e))
  | _, _, .lst _ h t, e => .lst (.inl (.inl h)) (RpA.dp t (by unfold noWell at e; exact e))
  | _, _, .well, e => by unfold noWell at e; cases e
theorem RpA.dp : ∀ {vs : List V} {ds : List PyData}, RpA K wa H vs ds → noWells ds = true → DpAll K H vs ds
  | _, _, .nil, _ => .nil
  | _, _, .cons h t, e => by
    unfold noWells at e
    have e2 := Bool.and_eq_true_iff.mp e
    exact .cons (Rp.dp h e2.1) (RpA.dp t e2.2)
end
/-- values from written ones -/
theorem Rp.inv_int {v : V} {i : Int} (r : Rp K wa H v (.int i)) : v = .int i := by cases r; rfl
theorem Rp.inv_bl {v : V} {b : Bool} (r : Rp K wa H v (.bool b)) : v = .bl b := by cases r; rfl
theorem Rp.inv_str {v : V} {x : Str} (r : Rp K wa H v (.str x)) : v = .str x := by cases r; rfl
theorem Rp.inv_tup {v : V} {ds : List PyData} (r : Rp K wa H v (.tuple ds)) : ∃ a xs, v = .ref a ∧ SqT K H a xs ∧ RpA K wa H xs ds := by
  cases r with
  | tup h t => exact ⟨_, _, rfl, h, t⟩
theorem Rp.inv_lst {v : V} {ds : List PyData} (r : Rp K wa H v (.list ds)) : ∃ a xs, v = .ref a ∧ wa.no a ∧ H a = some (.lst xs) ∧ RpA K wa H xs ds := by
  cases r with
  | lst n h t => exact ⟨_, _, rfl, n, h, t⟩
theorem Rp.inv_well {v : V} (r : Rp K wa H v (.dict [])) : v = .ref wa.a := by cases r; rfl
end

/-! ### slots -/
structure RpS (K : PySem.W.Frag) (wa : Wl) (H : Hp) (σ : L2.St) (en : En) : Prop where
  len : σ.length = en.length
  at_ : ∀ (i : Nat) (d : PyData), en[i]? = some (some d) → ∃ v, σ[i]? = some (some v) ∧ Rp K wa H v d
theorem RpS.mono {K : PySem.W.Frag} {wa : Wl} {H H' : Hp} {σ : L2.St} {en : En} (r : RpS K wa H σ en) (w : WellAt wa H) (g : Gr wa H H') : RpS K wa H' σ en :=
  ⟨r.len, fun i d e => let ⟨v, h, p⟩ := r.at_ i d e; ⟨v, h, p.mono w g⟩⟩
theorem RpS.set {K : PySem.W.Frag} {wa : Wl} {H : Hp} {σ : L2.St} {en : En} {v : V} {d : PyData} (r : RpS K wa H σ en) (i : Nat) (p : Rp K wa H v d) : RpS K wa H (σ.set i (some v)) (en.set i (some d)) := by
  refine ⟨by rw [List.length_set, List.length_set]; exact r.len, fun j e h => ?_⟩
  by_cases hj : i = j
  · subst hj
    by_cases hl : i < en.length
    · rw [List.getElem?_set_self hl] at h
      cases h
      exact ⟨v, List.getElem?_set_self (by rw [r.len]; exact hl), p⟩
    · rw [List.getElem?_eq_none (by rw [List.length_set]; omega)] at h
      cases h
  · rw [List.getElem?_set_ne hj] at h
    obtain ⟨u, h1, h2⟩ := r.at_ j e h
    exact ⟨u, by rw [List.getElem?_set_ne hj]; exact h1, h2⟩
theorem RpS.clear {K : PySem.W.Frag} {wa : Wl} {H : Hp} {σ : L2.St} {en : En} (r : RpS K wa H σ en) (i : Nat) : RpS K wa H (σ.set i none) (en.set i none) := by
  refine ⟨by rw [List.length_set, List.length_set]; exact r.len, fun j e h => ?_⟩
  by_cases hj : i = j
  · subst hj
    by_cases hl : i < en.length
    · rw [List.getElem?_set_self hl] at h
      cases h
    · rw [List.getElem?_eq_none (by rw [List.length_set]; omega)] at h
      cases h
  · rw [List.getElem?_set_ne hj] at h
    obtain ⟨u, h1, h2⟩ := r.at_ j e h
    exact ⟨u, by rw [List.getElem?_set_ne hj]; exact h1, h2⟩

end GD
namespace L2
open PySem PySem.Spec PyProof.Rows
/-! weakening of readings -/
section
variable {X : Cx}
theorem PE.wk {e : Expr} {t t' : TE} (h : PE X e t) (k : ∀ σ H Q, t' σ H Q → t σ H Q) : PE X e t' := ⟨fun pins s σ H Q I q => h.run pins s σ H Q I (k σ H Q q)⟩
theorem PT.wk {e : Expr} {t t' : TT} (h : PT X e t) (k : ∀ σ H Q, t' σ H Q → t σ H Q) : PT X e t' := ⟨fun pins s σ H Q I q => h.run pins s σ H Q I (k σ H Q q)⟩
theorem PW.wk {e : Expr} {t t' : TT} (h : PW X e t) (k : ∀ σ H Q, t' σ H Q → t σ H Q) : PW X e t' := ⟨fun wh pins s σ H Q I q => h.run wh pins s σ H Q I (k σ H Q q)⟩
theorem PA.wk {es : List Expr} {t t' : TA} (h : PA X es t) (k : ∀ σ H Q, t' σ H Q → t σ H Q) : PA X es t' := ⟨fun pos pins s σ H Q I q => h.run pos pins s σ H Q I (k σ H Q q)⟩
theorem PS.wk {st : Stmt} {t t' : TS} (h : PS X st t) (k : ∀ D σ H, t' D σ H → t D σ H) : PS X st t' := ⟨fun pins s σ H D I q => h.run pins s σ H D I (k D σ H q)⟩
theorem PSs.wk {st : List Stmt} {t t' : TS} (h : PSs X st t) (k : ∀ D σ H, t' D σ H → t D σ H) : PSs X st t' := ⟨fun pins s σ H D I q => h.run pins s σ H D I (k D σ H q)⟩
end
end L2
namespace GD
open PySem PySem.Spec PyProof.Rows L2
/-! ### judgements -/
/-- what is wanted of the value behind -/
def Af (K : PySem.W.Frag) (wa : Wl) (H : Hp) (Q : VK) (d : PyData) : Prop := ∀ v H', Gr wa H H' → WellAt wa H' → Rp K wa H' v d → Q v H'
theorem Af.up {K : PySem.W.Frag} {wa : Wl} {H H1 : Hp} {Q : VK} {d : PyData} (g : Gr wa H H1) (h : Af K wa H Q d) : Af K wa H1 Q d := fun v H' g' w r => h v H' (g.trans g') w r
theorem Af.now {K : PySem.W.Frag} {wa : Wl} {H : Hp} {Q : VK} {d : PyData} {v : V} (h : Af K wa H Q d) (w : WellAt wa H) (r : Rp K wa H v d) : Q v H := h v H Gr.refl w r
def tD (K : PySem.W.Frag) (m : ME) : TE := fun σ H Q => ∃ wa en, WellAt wa H ∧ RpS K wa H σ en ∧ m en (Af K wa H Q)
def tDT (K : PySem.W.Frag) (m : MT) : TT := fun σ H Q => ∃ wa en, WellAt wa H ∧ RpS K wa H σ en ∧ m en fun b => ∀ H', Gr wa H H' → WellAt wa H' → Q b H'
def tDA (K : PySem.W.Frag) (m : MA) : TA := fun σ H Q => ∃ wa en, WellAt wa H ∧ RpS K wa H σ en ∧ m en fun ds => ∀ vs H', Gr wa H H' → WellAt wa H' → RpA K wa H' vs ds → Q vs H'
def tDS (K : PySem.W.Frag) (m : MS) : TS := fun D σ H => ∃ wa en, WellAt wa H ∧ RpS K wa H σ en ∧ m en (fun en' => ∀ σ' H', Gr wa H H' → WellAt wa H' → RpS K wa H' σ' en' → D.nx σ' H') (Af K wa H D.rt)
structure DE (X : Cx) (e : Expr) (m : ME) : Prop where
  pe : PE X e (tD X.K m)
  mono : ∀ en P P', (∀ d, P d → P' d) → m en P → m en P'
structure DT (X : Cx) (e : Expr) (m : MT) : Prop where
  pt : PT X e (tDT X.K m)
  mono : ∀ en P P', (∀ d, P d → P' d) → m en P → m en P'
structure DW (X : Cx) (e : Expr) (m : MT) : Prop where
  pw : PW X e (tDT X.K m)
  mono : ∀ en P P', (∀ d, P d → P' d) → m en P → m en P'
structure DA (X : Cx) (es : List Expr) (m : MA) : Prop where
  pa : PA X es (tDA X.K m)
  mono : ∀ en P P', (∀ d, P d → P' d) → m en P → m en P'
structure DS (X : Cx) (st : Stmt) (m : MS) : Prop where
  ps : PS X st (tDS X.K m)
  mono : ∀ en N N' R R', (∀ d, N d → N' d) → (∀ d, R d → R' d) → m en N R → m en N' R'
structure DSs (X : Cx) (st : List Stmt) (m : MS) : Prop where
  ps : PSs X st (tDS X.K m)
  mono : ∀ en N N' R R', (∀ d, N d → N' d) → (∀ d, R d → R' d) → m en N R → m en N' R'
/-- a part is run, then what follows -/
theorem runE {K : PySem.W.Frag} {m : ME} {wa : Wl} {H : Hp} {σ : L2.St} {en : En} {P : PyData → Prop} {R : VK} (mono : ∀ en P P', (∀ d, P d → P' d) → m en P → m en P') (w : WellAt wa H) (s : RpS K wa H σ en) (h : m en P)
    (k : ∀ d v H1, P d → Gr wa H H1 → WellAt wa H1 → Rp K wa H1 v d → R v H1) : tD K m σ H R :=
  ⟨wa, en, w, s, mono _ _ _ (fun d hd v H1 g w1 r => k d v H1 hd g w1 r) h⟩
theorem runT {K : PySem.W.Frag} {m : MT} {wa : Wl} {H : Hp} {σ : L2.St} {en : En} {P : Bool → Prop} {R : Bool → Hp → Prop} (mono : ∀ en P P', (∀ d, P d → P' d) → m en P → m en P') (w : WellAt wa H) (s : RpS K wa H σ en) (h : m en P)
    (k : ∀ b H1, P b → Gr wa H H1 → WellAt wa H1 → R b H1) : tDT K m σ H R :=
  ⟨wa, en, w, s, mono _ _ _ (fun b hd H1 g w1 => k b H1 hd g w1) h⟩
theorem runA {K : PySem.W.Frag} {m : MA} {wa : Wl} {H : Hp} {σ : L2.St} {en : En} {P : List PyData → Prop} {R : List V → Hp → Prop} (mono : ∀ en P P', (∀ d, P d → P' d) → m en P → m en P') (w : WellAt wa H) (s : RpS K wa H σ en) (h : m en P)
    (k : ∀ ds vs H1, P ds → Gr wa H H1 → WellAt wa H1 → RpA K wa H1 vs ds → R vs H1) : tDA K m σ H R :=
  ⟨wa, en, w, s, mono _ _ _ (fun d hd v H1 g w1 r => k d v H1 hd g w1 r) h⟩
theorem runS {K : PySem.W.Frag} {m : MS} {wa : Wl} {H : Hp} {σ : L2.St} {en : En} {N : En → Prop} {P : PyData → Prop} {D : Ends} (mono : ∀ en N N' R R', (∀ d, N d → N' d) → (∀ d, R d → R' d) → m en N R → m en N' R') (w : WellAt wa H) (s : RpS K wa H σ en) (h : m en N P)
    (kn : ∀ en' σ' H1, N en' → Gr wa H H1 → WellAt wa H1 → RpS K wa H1 σ' en' → D.nx σ' H1) (kr : ∀ d v H1, P d → Gr wa H H1 → WellAt wa H1 → Rp K wa H1 v d → D.rt v H1) : tDS K m D σ H :=
  ⟨wa, en, w, s, mono _ _ _ _ _ (fun e he σ' H1 g w1 r => kn e σ' H1 he g w1 r) (fun d hd v H1 g w1 r => kr d v H1 hd g w1 r) h⟩
end GD
end

section
set_option Elab.async false
set_option linter.all false
set_option maxRecDepth 100000
/-! GE: the data layer's rules for expressions. -/
namespace GD
open PySem PySem.Spec PyProof.Rows L2

/-! ### names, constants -/
def vget : En → Nat → MD
  | [], _, _ => False
  | o :: _, 0, P => match o with
    | some d => P d
    | none => False
  | _ :: r, i + 1, P => vget r i P
theorem vget_some : ∀ {en : En} {i : Nat} {P : PyData → Prop}, vget en i P → ∃ d, en[i]? = some (some d) ∧ P d
  | some d :: _, 0, _, h => ⟨d, rfl, h⟩
  | none :: _, 0, _, h => False.elim h
  | _ :: r, i + 1, P, h => by
    obtain ⟨d, e, p⟩ := vget_some (en := r) (i := i) h
    exact ⟨d, e, p⟩
theorem vget_mono {P P' : PyData → Prop} (k : ∀ d, P d → P' d) : ∀ {en : En} {i : Nat}, vget en i P → vget en i P'
  | some d :: _, 0, h => k d h
  | none :: _, 0, h => False.elim h
  | _ :: r, i + 1, h => vget_mono k (en := r) (i := i) h
def dVar (i : Nat) : ME := fun en P => vget en i P
def dC (d : PyData) : ME := fun _ P => P d
section
variable {X : Cx} {pos : Pos}
theorem de_var {i : Nat} {x : Str} (h : PE X (.Name x pos) (tVar i)) : DE X (.Name x pos) (dVar i) := by
  refine ⟨h.wk fun σ H Q ⟨wa, en, w, s, m⟩ => ?_, fun en P P' k m => vget_mono k m⟩
  obtain ⟨d, e, p⟩ := vget_some m
  obtain ⟨v, e2, r⟩ := s.at_ i d e
  exact ⟨v, e2, p.now w r⟩
theorem de_c {e : Expr} {v : V} {d : PyData} (h : PE X e (tC v)) (r : ∀ wa H, Rp X.K wa H v d) : DE X e (dC d) :=
  ⟨h.wk fun σ H Q ⟨wa, en, w, s, m⟩ => Af.now m w (r wa H), fun en P P' k m => k _ m⟩
theorem de_int {i : Int} {j} : DE X (.Constant (.int i) j pos) (dC (.int i)) := de_c pe_int fun _ _ => .int i
theorem de_bl {b : Bool} {j} : DE X (.Constant (.bool b) j pos) (dC (.bool b)) := de_c pe_bl fun _ _ => .bl b
theorem de_str {x : Str} {j} : DE X (.Constant (.str x) j pos) (dC (.str x)) := de_c pe_str fun _ _ => .str x
/-- a constant of the module -/
structure GVal (K : PySem.W.Frag) (mg : Str → Option Value) (x : Str) (d : PyData) : Prop where
  ex : ∃ u v, mg x = some u ∧ RelV v u ∧ ∀ wa H, Rp K wa H v d
theorem de_glob {x : Str} {d : PyData} (G : GVal X.K X.mg x d) (hg : Gl X x := by rfl) (hd : (x == ("__debug__" : Str)) = false := by decide) : DE X (.Name x pos) (dC d) := by
  obtain ⟨u, v, hm, r, rp⟩ := G.ex
  exact de_c (pe_glob hg hm r hd) rp
end

/-! ### operators by values -/
def rD (K : PySem.W.Frag) (k : PyData → PyData → MD) : R2 := fun x y H Q => ∃ wa d1 d2, WellAt wa H ∧ Rp K wa H x d1 ∧ Rp K wa H y d2 ∧ k d1 d2 (Af K wa H Q)
structure OpD (X : Cx) (f : Value → Value → Sem Value) (k : PyData → PyData → MD) : Prop where
  run : OpR X f (rD X.K k)
  mono : ∀ d1 d2 P P', (∀ d, P d → P' d) → k d1 d2 P → k d1 d2 P'
def dBin (k : PyData → PyData → MD) (ma mb : ME) : ME := fun en P => ma en fun d1 => mb en fun d2 => k d1 d2 P
section
variable {X : Cx} {pos : Pos} {a b : Expr} {ma mb : ME}
theorem bin_run {k : PyData → PyData → MD} {f : Value → Value → Sem Value} (ho : OpD X f k) (ha : DE X a ma) (hb : DE X b mb) : ∀ σ H Q, tD X.K (dBin k ma mb) σ H Q → tOp (rD X.K k) (tD X.K ma) (tD X.K mb) σ H Q := by
  rintro σ H Q ⟨wa, en, w, s, m⟩
  refine runE ha.mono w s m fun d1 x H1 m1 g1 w1 r1 => ?_
  refine runE hb.mono w1 (s.mono w g1) m1 fun d2 y H2 m2 g2 w2 r2 => ?_
  exact ⟨wa, d1, d2, w2, r1.mono w1 g2, r2, ho.mono _ _ _ _ (fun d h => (h.up g1).up g2) m2⟩
theorem bin_mono {k : PyData → PyData → MD} (hk : ∀ d1 d2 P P', (∀ d, P d → P' d) → k d1 d2 P → k d1 d2 P') (ha : DE X a ma) (hb : DE X b mb) : ∀ en P P', (∀ d, P d → P' d) → dBin k ma mb en P → dBin k ma mb en P' :=
  fun en P P' h => ha.mono _ _ _ fun d1 => hb.mono _ _ _ fun d2 => hk d1 d2 _ _ h
theorem de_bin {op : Operator} {k : PyData → PyData → MD} (ho : OpD X (binaryOp op) k) (ha : DE X a ma) (hb : DE X b mb) : DE X (.BinOp a op b pos) (dBin k ma mb) :=
  ⟨(pe_op ho.run ha.pe hb.pe).wk (bin_run ho ha hb), bin_mono ho.mono ha hb⟩
theorem de_cmp {op : CmpOp} {k : PyData → PyData → MD} (ho : OpD X (compareOp op) k) (ha : DE X a ma) (hb : DE X b mb) (hm : behindInMarks op b = false := by exact nomark _) : DE X (.Compare a [op] [b] pos) (dBin k ma mb) :=
  ⟨(pe_cmpR ho.run ha.pe hb.pe hm).wk (bin_run ho ha hb), bin_mono ho.mono ha hb⟩
end
/-- two ints -/
def kII (C : Int → Int → Prop) (g : Int → Int → PyData) : PyData → PyData → MD := fun d1 d2 P => match d1, d2 with
  | .int i, .int j => C i j ∧ P (g i j)
  | _, _ => False
def kI0 (g : Int → Int → PyData) : PyData → PyData → MD := fun d1 d2 P => match d1, d2 with
  | .int i, .int j => P (g i j)
  | _, _ => False
theorem kII_int {C : Int → Int → Prop} {g : Int → Int → PyData} : ∀ {d1 d2 : PyData} {P : PyData → Prop}, kII C g d1 d2 P → ∃ i j, d1 = .int i ∧ d2 = .int j ∧ C i j ∧ P (g i j)
  | .int i, .int j, _, h => ⟨i, j, rfl, rfl, h⟩
theorem kI0_int {g : Int → Int → PyData} : ∀ {d1 d2 : PyData} {P : PyData → Prop}, kI0 g d1 d2 P → ∃ i j, d1 = .int i ∧ d2 = .int j ∧ P (g i j)
  | .int i, .int j, _, h => ⟨i, j, rfl, rfl, h⟩
theorem kII_mono {C : Int → Int → Prop} {g : Int → Int → PyData} (d1 d2 : PyData) (P P' : PyData → Prop) (k : ∀ d, P d → P' d) (h : kII C g d1 d2 P) : kII C g d1 d2 P' := by
  obtain ⟨i, j, rfl, rfl, c, p⟩ := kII_int h
  exact ⟨c, k _ p⟩
theorem kI0_mono {g : Int → Int → PyData} (d1 d2 : PyData) (P P' : PyData → Prop) (k : ∀ d, P d → P' d) (h : kI0 g d1 d2 P) : kI0 g d1 d2 P' := by
  obtain ⟨i, j, rfl, rfl, p⟩ := kI0_int h
  exact k _ p
section
variable {X : Cx} {f : Value → Value → Sem Value}
theorem opII {C C' : Int → Int → Prop} {g : Int → Int → Int} (h : OpR X f (rI C' fun i j => .int (g i j))) (hc : ∀ i j, C i j → C' i j) : OpD X f (kII C fun i j => .int (g i j)) := by
  refine ⟨fun pins s σ H x y v u Q I rx ry q => ?_, kII_mono⟩
  obtain ⟨wa, d1, d2, w, r1, r2, m⟩ := q
  obtain ⟨i, j, rfl, rfl, c, p⟩ := kII_int m
  exact h pins s σ H x y v u Q I rx ry ⟨i, j, r1.inv_int, r2.inv_int, hc i j c, p.now w (.int _)⟩
theorem opI0D {g : Int → Int → Int} (h : OpR X f (rI0 fun i j => .int (g i j))) : OpD X f (kI0 fun i j => .int (g i j)) := by
  refine ⟨fun pins s σ H x y v u Q I rx ry q => ?_, kI0_mono⟩
  obtain ⟨wa, d1, d2, w, r1, r2, m⟩ := q
  obtain ⟨i, j, rfl, rfl, p⟩ := kI0_int m
  exact h pins s σ H x y v u Q I rx ry ⟨i, j, r1.inv_int, r2.inv_int, p.now w (.int _)⟩
theorem opB0D {g : Int → Int → Bool} (h : OpR X f (rI0 fun i j => .bl (g i j))) : OpD X f (kI0 fun i j => .bool (g i j)) := by
  refine ⟨fun pins s σ H x y v u Q I rx ry q => ?_, kI0_mono⟩
  obtain ⟨wa, d1, d2, w, r1, r2, m⟩ := q
  obtain ⟨i, j, rfl, rfl, p⟩ := kI0_int m
  exact h pins s σ H x y v u Q I rx ry ⟨i, j, r1.inv_int, r2.inv_int, p.now w (.bl _)⟩
end
/-- a size that products, powers allow -/
def Sm (i : Int) : Prop := i.natAbs < 2 ^ 400000
/-- a divisor -/
def Dv (j : Int) : Prop := j ≠ 0 ∧ j.natAbs < 2 ^ 9000
abbrev kAdd := kI0 fun i j => .int (i + j)
abbrev kSub := kI0 fun i j => .int (i - j)
abbrev kMul := kII (fun i j => Sm i ∧ Sm j) fun i j => .int (i * j)
abbrev kFdiv := kII (fun _ j => Dv j) fun i j => .int (i.fdiv j)
abbrev kMod := kII (fun _ j => j ≠ 0) fun i j => .int (i.fmod j)
abbrev kPow := kII (fun i j => j = 2 ∧ Sm i) fun i j => .int (i ^ j.toNat)
abbrev kLt := kI0 fun i j => .bool (decide (i < j))
abbrev kLe := kI0 fun i j => .bool (decide (i ≤ j))
abbrev kGt := kI0 fun i j => .bool (decide (j < i))
abbrev kGe := kI0 fun i j => .bool (decide (j ≤ i))
section
variable {X : Cx}
theorem od_add : OpD X (binaryOp .Add) kAdd := opI0D op_add
theorem od_sub : OpD X (binaryOp .Sub) kSub := opI0D op_sub
theorem od_mul : OpD X (binaryOp .Mult) kMul := opII op_mulW fun i j h => wide_mul h.1 h.2 (by decide) (by decide) (by decide)
theorem od_fdiv : OpD X (binaryOp .FloorDiv) kFdiv := opII (C' := fun _ j => Dv j) (opI fun i j _ _ _ _ _ hc q => floordiv_int hc.1 q (.inl (PyProof.noPylong_of_log2 (PySem.Flt.log2_lt_of (by decide) hc.2)))) fun _ _ h => h
theorem od_mod : OpD X (binaryOp .Mod) kMod := opII op_modN fun _ _ h => h
theorem od_pow : OpD X (binaryOp .Pow) kPow := opII (C' := fun i j => j = 2 ∧ Sm i) (opI fun i j _ _ _ _ _ hc q => pow_int (by rw [hc.1]; decide) (by
    have h := PyProof.Rows.intBits_le hc.2
    rw [hc.1]
    have e : (2 : Int) ^ 27 = 134217728 := by decide
    omega) q) fun _ _ h => h
theorem od_lt : OpD X (compareOp .Lt) kLt := opB0D op_lt
theorem od_le : OpD X (compareOp .LtE) kLe := opB0D op_le
theorem od_gt : OpD X (compareOp .Gt) kGt := opB0D op_gt
theorem od_ge : OpD X (compareOp .GtE) kGe := opB0D op_ge
end
/-! bool - bool -/
def kSubB : PyData → PyData → MD := fun d1 d2 P => match d1, d2 with
  | .bool p, .bool q => P (.int (b2i p - b2i q))
  | _, _ => False
theorem kSubB_b : ∀ {d1 d2 : PyData} {P : PyData → Prop}, kSubB d1 d2 P → ∃ i j, d1 = .bool i ∧ d2 = .bool j ∧ P (.int (b2i i - b2i j))
  | .bool i, .bool j, _, h => ⟨i, j, rfl, rfl, h⟩
theorem od_subB {X : Cx} : OpD X (binaryOp .Sub) kSubB := by
  refine ⟨fun pins s σ H x y v u Q I rx ry q => ?_, fun d1 d2 P P' k h => ?_⟩
  · obtain ⟨wa, d1, d2, w, r1, r2, m⟩ := q
    obtain ⟨i, j, rfl, rfl, p⟩ := kSubB_b m
    cases r1.inv_bl
    cases r2.inv_bl
    cases rx
    cases ry
    exact sub_bool ⟨.int _, H, I.tok _, ⟨_, rfl⟩, p.now w (.int _)⟩
  · obtain ⟨i, j, rfl, rfl, p⟩ := kSubB_b h
    exact k _ p
/-! == and != of data -/
mutual
theorem noWell_of : ∀ {d : PyData}, d.canLay0 = true → noWell d = true
  | .none, _ => by unfold noWell; rfl
  | .bool _, _ => by unfold noWell; rfl
  | .int _, _ => by unfold noWell; rfl
  | .str _, _ => by unfold noWell; rfl
  | .list xs, h => by
    unfold noWell
    exact noWells_of (by simpa [PyData.canLay0] using h)
  | .tuple xs, h => by
    unfold noWell
    exact noWells_of (by simpa [PyData.canLay0] using h)
  | .dict _, h => by simp [PyData.canLay0] at h
theorem noWells_of : ∀ {ds : List PyData}, PyData.canLayAll0 ds = true → noWells ds = true
  | [], _ => by unfold noWells; rfl
  | x :: r, h => by
    unfold noWells
    simp only [PyData.canLayAll0, Bool.and_eq_true] at h
    rw [noWell_of h.1, noWells_of h.2]
    rfl
end
abbrev kEq := fun (d1 d2 : PyData) (P : PyData → Prop) => (SeqAt.shaped d1 = true ∧ SeqAt.shaped d2 = true) ∧ P (.bool (PyData.eqv d1 d2))
abbrev kNe := fun (d1 d2 : PyData) (P : PyData → Prop) => (SeqAt.shaped d1 = true ∧ SeqAt.shaped d2 = true) ∧ P (.bool (!PyData.eqv d1 d2))
section
variable {X : Cx} {k : Nat}
theorem od_eq (hr : Room k X.A) : OpD X (compareOp .Eq) kEq := by
  refine ⟨fun pins s σ H x y v u Q I rx ry q => ?_, fun d1 d2 P P' h m => ⟨m.1, h _ m.2⟩⟩
  obtain ⟨wa, d1, d2, w, r1, r2, ⟨s1, s2⟩, p⟩ := q
  exact op_eqD hr.units pins s σ H x y v u Q I rx ry ⟨d1, d2, r1.dp (noWell_of (SeqAt.canLay_of_shaped s1)), r2.dp (noWell_of (SeqAt.canLay_of_shaped s2)), s1, s2, p.now w (.bl _)⟩
theorem od_ne (hr : Room k X.A) : OpD X (compareOp .NotEq) kNe := by
  refine ⟨fun pins s σ H x y v u Q I rx ry q => ?_, fun d1 d2 P P' h m => ⟨m.1, h _ m.2⟩⟩
  obtain ⟨wa, d1, d2, w, r1, r2, ⟨s1, s2⟩, p⟩ := q
  exact op_neD hr.units pins s σ H x y v u Q I rx ry ⟨d1, d2, r1.dp (noWell_of (SeqAt.canLay_of_shaped s1)), r2.dp (noWell_of (SeqAt.canLay_of_shaped s2)), s1, s2, p.now w (.bl _)⟩
end
abbrev kEqI := kI0 fun i j => .bool (decide (i = j))
abbrev kNeI := kI0 fun i j => .bool (!decide (i = j))
theorem dec_intV (i j : Int) : decide (V.int i = V.int j) = decide (i = j) := by
  rw [Bool.eq_iff_iff]
  simp
theorem od_eqI {X : Cx} : OpD X (compareOp .Eq) kEqI := by
  refine opB0D (g := fun i j => decide (i = j)) fun pins s σ H x y v u Q I rx ry q => ?_
  obtain ⟨i, j, rfl, rfl, q⟩ := q
  exact op_eq pins s σ H _ _ v u Q I rx ry ⟨rfl, by rw [dec_intV]; exact q⟩
theorem od_neI {X : Cx} : OpD X (compareOp .NotEq) kNeI := by
  refine opB0D (g := fun i j => !decide (i = j)) fun pins s σ H x y v u Q I rx ry q => ?_
  obtain ⟨i, j, rfl, rfl, q⟩ := q
  exact op_ne pins s σ H _ _ v u Q I rx ry ⟨rfl, by rw [dec_intV]; exact q⟩
/-! tuple + tuple, list + list -/
def kCatT : PyData → PyData → MD := fun d1 d2 P => match d1, d2 with
  | .tuple xs, .tuple ys => (xs.length ≠ 0 ∧ xs.length ≤ 1000 ∧ ys.length ≤ 1000) ∧ P (.tuple (xs ++ ys))
  | _, _ => False
def kCatL : PyData → PyData → MD := fun d1 d2 P => match d1, d2 with
  | .list xs, .list ys => (xs.length ≤ 1000 ∧ ys.length ≤ 1000) ∧ P (.list (xs ++ ys))
  | _, _ => False
theorem kCatT_i : ∀ {d1 d2 : PyData} {P : PyData → Prop}, kCatT d1 d2 P → ∃ i j, d1 = .tuple i ∧ d2 = .tuple j ∧ (i.length ≠ 0 ∧ i.length ≤ 1000 ∧ j.length ≤ 1000) ∧ P (.tuple (i ++ j))
  | .tuple i, .tuple j, _, h => ⟨i, j, rfl, rfl, h⟩
theorem kCatL_i : ∀ {d1 d2 : PyData} {P : PyData → Prop}, kCatL d1 d2 P → ∃ i j, d1 = .list i ∧ d2 = .list j ∧ (i.length ≤ 1000 ∧ j.length ≤ 1000) ∧ P (.list (i ++ j))
  | .list i, .list j, _, h => ⟨i, j, rfl, rfl, h⟩
theorem od_catT {X : Cx} : OpD X (binaryOp .Add) kCatT := by
  refine ⟨fun pins s σ H x y v u Q I rx ry q => ?_, fun d1 d2 P P' k h => ?_⟩
  · obtain ⟨wa, d1, d2, w, r1, r2, m⟩ := q
    obtain ⟨i, j, rfl, rfl, ⟨c1, c2, c3⟩, p⟩ := kCatT_i m
    obtain ⟨a, xs, rfl, ha, ra⟩ := r1.inv_tup
    obtain ⟨b, ys, rfl, hb, rb⟩ := r2.inv_tup
    have la := ra.len
    have lb := rb.len
    have hsz : xs.length + ys.length ≤ sizeLine := by rw [sizeLine_eq]; omega
    refine op_catT pins s σ H _ _ v u Q I rx ry ⟨a, b, xs, ys, rfl, rfl, ha, hb, fun z => c1 (by rw [← la, z]; rfl), hsz, ?_⟩
    first
      | refine ⟨fun z => ?_, fun _ c nc => ?_⟩
      | skip
    · have z2 : j = [] := by
        cases j with
        | nil => rfl
        | cons _ _ => rw [z] at lb; cases lb
      subst z2
      rw [List.append_nil] at p
      exact p.now w (.tup ha ra)
    · exact p _ _ (Gr.laid nc) (w.laid nc) (.tup (.inl (.inl upd_same)) ((ra.append rb).mono w (Gr.laid nc)))
  · obtain ⟨i, j, rfl, rfl, c, p⟩ := kCatT_i h
    exact ⟨c, k _ p⟩
theorem od_catL {X : Cx} : OpD X (binaryOp .Add) kCatL := by
  refine ⟨fun pins s σ H x y v u Q I rx ry q => ?_, fun d1 d2 P P' k h => ?_⟩
  · obtain ⟨wa, d1, d2, w, r1, r2, m⟩ := q
    obtain ⟨i, j, rfl, rfl, ⟨c2, c3⟩, p⟩ := kCatL_i m
    obtain ⟨a, xs, rfl, _, ha, ra⟩ := r1.inv_lst
    obtain ⟨b, ys, rfl, _, hb, rb⟩ := r2.inv_lst
    have la := ra.len
    have lb := rb.len
    have hsz : xs.length + ys.length ≤ sizeLine := by rw [sizeLine_eq]; omega
    exact op_cat pins s σ H _ _ v u Q I rx ry ⟨a, b, xs, ys, rfl, rfl, ha, hb, hsz, fun c nc => p _ _ (Gr.laid nc) (w.laid nc) (.lst (w.fresh nc) upd_same ((ra.append rb).mono w (Gr.laid nc)))⟩
  · obtain ⟨i, j, rfl, rfl, c, p⟩ := kCatL_i h
    exact ⟨c, k _ p⟩
end GD
end

section
set_option Elab.async false
set_option linter.all false
set_option maxRecDepth 100000
/-! GF: tests, displays, subscripts, calls of built-ins and defs. -/
namespace GD
open PySem PySem.Spec PyProof.Rows L2

/-! ### tests -/
/-- one of two ways -/
def cho (c : Bool) (A B : Prop) : Prop := match c with
  | true => A
  | false => B
theorem cho_t {c : Bool} {A B : Prop} (e : c = true) (h : A) : cho c A B := by
  subst e
  exact h
theorem cho_f {c : Bool} {A B : Prop} (e : c = false) (h : B) : cho c A B := by
  subst e
  exact h
theorem cho_2 {c : Bool} {A B : Prop} (h1 : c = true → A) (h2 : c = false → B) : cho c A B := by
  cases c with
  | true => exact h1 rfl
  | false => exact h2 rfl
theorem cho_mono {c : Bool} {A B A' B' : Prop} (h1 : A → A') (h2 : B → B') (h : cho c A B) : cho c A' B' := by
  cases c with
  | true => exact h1 h
  | false => exact h2 h
def dAnd (ma mb : ME) : ME := fun en P => ma en fun d => match d with
  | .bool c => cho c (mb en P) (P (.bool false))
  | _ => False
def dOr (ma mb : ME) : ME := fun en P => ma en fun d => match d with
  | .bool c => cho c (P (.bool true)) (mb en P)
  | _ => False
def dNot (ma : ME) : ME := fun en P => ma en fun d => match d with
  | .bool c => P (.bool (!c))
  | _ => False
def dIf (t : MT) (ma mb : ME) : ME := fun en P => t en fun c => cho c (ma en P) (mb en P)
def dtVal (m : ME) : MT := fun en P => m en fun d => match d with
  | .bool c => P c
  | _ => False
def dtAnd (t u : MT) : MT := fun en P => t en fun c => cho c (u en P) (P false)
def dtOr (t u : MT) : MT := fun en P => t en fun c => cho c (P true) (u en P)
def dtNot (t : MT) : MT := fun en P => t en fun c => P (!c)
/-- what is wanted of a bool -/
def kB (k : Bool → Prop) (d : PyData) : Prop := match d with
  | .bool c => k c
  | _ => False
theorem kB_i {k : Bool → Prop} : ∀ {d : PyData}, kB k d → ∃ c, d = .bool c ∧ k c
  | .bool c, h => ⟨c, rfl, h⟩
theorem kB_mono {k k' : Bool → Prop} (h : ∀ c, k c → k' c) (d : PyData) (m : kB k d) : kB k' d := by
  obtain ⟨c, rfl, p⟩ := kB_i m
  exact h c p
section
variable {X : Cx} {pos : Pos} {a b c : Expr} {rest : List Expr} {ma mb : ME} {t u : MT}
theorem de_one {op} (h : DE X a ma) : DE X (.BoolOp op [a] pos) ma := ⟨pe_one h.pe, h.mono⟩
theorem de_and (ha : DE X a ma) (hb : DE X (.BoolOp .And (b :: rest) pos) mb) : DE X (.BoolOp .And (a :: b :: rest) pos) (dAnd ma mb) := by
  have mono : ∀ en P P', (∀ d, P d → P' d) → dAnd ma mb en P → dAnd ma mb en P' := fun en P P' k => ha.mono en _ _ (kB_mono (k := fun c => cho c (mb en P) (P (.bool false))) (k' := fun c => cho c (mb en P') (P' (.bool false))) fun c => cho_mono (hb.mono en _ _ k) (k _))
  refine ⟨(pe_and ha.pe hb.pe).wk fun σ H Q ⟨wa, en, w, s, m⟩ => runE ha.mono w s m fun d v H1 h g w1 r => ?_, mono⟩
  obtain ⟨c, rfl, q⟩ := kB_i (k := fun c => cho c _ _) h
  cases r.inv_bl
  cases c with
  | true => exact ⟨true, rfl, by rw [if_pos rfl]; exact ⟨wa, en, w1, s.mono w g, hb.mono _ _ _ (fun d h => h.up g) q⟩⟩
  | false => exact ⟨false, rfl, by rw [if_neg Bool.false_ne_true]; exact Af.now (Af.up g q) w1 (.bl _)⟩
theorem de_or (ha : DE X a ma) (hb : DE X (.BoolOp .Or (b :: rest) pos) mb) : DE X (.BoolOp .Or (a :: b :: rest) pos) (dOr ma mb) := by
  have mono : ∀ en P P', (∀ d, P d → P' d) → dOr ma mb en P → dOr ma mb en P' := fun en P P' k => ha.mono en _ _ (kB_mono (k := fun c => cho c (P (.bool true)) (mb en P)) (k' := fun c => cho c (P' (.bool true)) (mb en P')) fun c => cho_mono (k _) (hb.mono en _ _ k))
  refine ⟨(pe_or ha.pe hb.pe).wk fun σ H Q ⟨wa, en, w, s, m⟩ => runE ha.mono w s m fun d v H1 h g w1 r => ?_, mono⟩
  obtain ⟨c, rfl, q⟩ := kB_i (k := fun c => cho c _ _) h
  cases r.inv_bl
  cases c with
  | true => exact ⟨true, rfl, by rw [if_pos rfl]; exact Af.now (Af.up g q) w1 (.bl _)⟩
  | false => exact ⟨false, rfl, by rw [if_neg Bool.false_ne_true]; exact ⟨wa, en, w1, s.mono w g, hb.mono _ _ _ (fun d h => h.up g) q⟩⟩
theorem de_not (ha : DE X a ma) : DE X (.UnaryOp .Not a pos) (dNot ma) := by
  refine ⟨(pe_not ha.pe).wk fun σ H Q ⟨wa, en, w, s, m⟩ => runE ha.mono w s m fun d v H1 h g w1 r => ?_, fun en P P' k => ha.mono en _ _ (kB_mono (k := fun c => P (.bool (!c))) (k' := fun c => P' (.bool (!c))) fun c => k _)⟩
  obtain ⟨c, rfl, q⟩ := kB_i (k := fun c => Af X.K wa H Q (.bool (!c))) h
  cases r.inv_bl
  exact ⟨c, rfl, Af.now (Af.up g q) w1 (.bl _)⟩
theorem dtVal_mono (ha : DE X a ma) : ∀ en P P', (∀ d, P d → P' d) → dtVal ma en P → dtVal ma en P' := fun en P P' k => ha.mono en _ _ (kB_mono (k := P) (k' := P') k)
theorem dt_run (ha : DE X a ma) : ∀ σ H Q, tDT X.K (dtVal ma) σ H Q → tD X.K ma σ H fun x H1 => ∃ c, x = .bl c ∧ Q c H1 := by
  rintro σ H Q ⟨wa, en, w, s, m⟩
  refine runE ha.mono w s m fun d v H1 h g w1 r => ?_
  obtain ⟨c, rfl, q⟩ := kB_i (k := fun c => ∀ H', Gr wa H H' → WellAt wa H' → Q c H') h
  cases r.inv_bl
  exact ⟨c, rfl, q H1 g w1⟩
theorem dt_val (ha : DE X a ma) (he : ∀ whole, isTrue a X.env whole = (do let v ← whole; standAt a.pos; holding [v] (truthy v)) := by intro _; rfl) : DT X a (dtVal ma) :=
  ⟨(pt_val ha.pe he).wk (dt_run ha), dtVal_mono ha⟩
theorem dt_cmp {op : CmpOp} {k : PyData → PyData → MD} (ho : OpD X (compareOp op) k) (ha : DE X a ma) (hb : DE X b mb) (hm : behindInMarks op b = false := by exact nomark _) : DT X (.Compare a [op] [b] pos) (dtVal (dBin k ma mb)) := by
  have hd : DE X (.Compare a [op] [b] pos) (dBin k ma mb) := de_cmp ho ha hb hm
  refine ⟨(pt_cmpR ho.run ha.pe hb.pe hm).wk fun σ H Q h => bin_run ho ha hb σ H (fun x H1 => ∃ c, x = .bl c ∧ Q c H1) ?_, dtVal_mono hd⟩
  obtain ⟨wa, en, w, s, m⟩ := h
  refine ⟨wa, en, w, s, hd.mono _ _ _ (fun d h v H1 g w1 r => ?_) m⟩
  obtain ⟨c, rfl, q⟩ := kB_i (k := fun c => ∀ H', Gr wa H H' → WellAt wa H' → Q c H') h
  cases r.inv_bl
  exact ⟨c, rfl, q H1 g w1⟩
theorem DW.dt (h : DW X a t) : DT X a t := ⟨h.pw.pt, h.mono⟩
theorem dtAnd_mono (ht : ∀ en P P', (∀ d, P d → P' d) → t en P → t en P') (hu : ∀ en P P', (∀ d, P d → P' d) → u en P → u en P') : ∀ en P P', (∀ d, P d → P' d) → dtAnd t u en P → dtAnd t u en P' :=
  fun en P P' k => ht en _ _ fun c => cho_mono (hu en _ _ k) (k _)
theorem dtOr_mono (ht : ∀ en P P', (∀ d, P d → P' d) → t en P → t en P') (hu : ∀ en P P', (∀ d, P d → P' d) → u en P → u en P') : ∀ en P P', (∀ d, P d → P' d) → dtOr t u en P → dtOr t u en P' :=
  fun en P P' k => ht en _ _ fun c => cho_mono (k _) (hu en _ _ k)
theorem dw_and1 (ha : DT X a t) : DW X (.BoolOp .And [a] pos) t := ⟨pw_and1 ha.pt, ha.mono⟩
theorem dw_or1 (ha : DT X a t) : DW X (.BoolOp .Or [a] pos) t := ⟨pw_or1 ha.pt, ha.mono⟩
theorem dw_and (ha : DT X a t) (hb : DW X (.BoolOp .And (b :: rest) pos) u) : DW X (.BoolOp .And (a :: b :: rest) pos) (dtAnd t u) := by
  refine ⟨(pw_and ha.pt hb.pw).wk fun σ H Q ⟨wa, en, w, s, m⟩ => runT ha.mono w s m fun c H1 h g w1 => ?_, dtAnd_mono ha.mono hb.mono⟩
  cases c with
  | true => rw [if_pos rfl]; exact ⟨wa, en, w1, s.mono w g, hb.mono _ _ _ (fun c q H' g' w' => q H' (g.trans g') w') h⟩
  | false => rw [if_neg Bool.false_ne_true]; exact (show ∀ H', Gr wa H H' → WellAt wa H' → Q false H' from h) H1 g w1
theorem dw_or (ha : DT X a t) (hb : DW X (.BoolOp .Or (b :: rest) pos) u) : DW X (.BoolOp .Or (a :: b :: rest) pos) (dtOr t u) := by
  refine ⟨(pw_or ha.pt hb.pw).wk fun σ H Q ⟨wa, en, w, s, m⟩ => runT ha.mono w s m fun c H1 h g w1 => ?_, dtOr_mono ha.mono hb.mono⟩
  cases c with
  | true => rw [if_pos rfl]; exact (show ∀ H', Gr wa H H' → WellAt wa H' → Q true H' from h) H1 g w1
  | false => rw [if_neg Bool.false_ne_true]; exact ⟨wa, en, w1, s.mono w g, hb.mono _ _ _ (fun c q H' g' w' => q H' (g.trans g') w') h⟩
theorem dt_not (ha : DT X a t) : DT X (.UnaryOp .Not a pos) (dtNot t) :=
  ⟨(pt_not ha.pt).wk fun σ H Q ⟨wa, en, w, s, m⟩ => runT ha.mono w s m fun c H1 h g w1 => h H1 g w1, fun en P P' k => ha.mono en _ _ fun c => k _⟩
theorem de_if (hc : DT X c t) (ha : DE X a ma) (hb : DE X b mb) : DE X (.IfExp c a b pos) (dIf t ma mb) := by
  refine ⟨(pe_ifExp hc.pt ha.pe hb.pe).wk fun σ H Q ⟨wa, en, w, s, m⟩ => runT hc.mono w s m fun c H1 h g w1 => ?_, fun en P P' k => hc.mono en _ _ fun c => cho_mono (ha.mono en _ _ k) (hb.mono en _ _ k)⟩
  cases c with
  | true => rw [if_pos rfl]; exact ⟨wa, en, w1, s.mono w g, ha.mono _ _ _ (fun d h => h.up g) h⟩
  | false => rw [if_neg Bool.false_ne_true]; exact ⟨wa, en, w1, s.mono w g, hb.mono _ _ _ (fun d h => h.up g) h⟩
end
/-! -i -/
def dNeg (ma : ME) : ME := fun en P => ma en fun d => match d with
  | .int i => P (.int (-i))
  | _ => False
def kN (k : Int → Prop) (d : PyData) : Prop := match d with
  | .int c => k c
  | _ => False
theorem kN_i {k : Int → Prop} : ∀ {d : PyData}, kN k d → ∃ c, d = .int c ∧ k c
  | .int c, h => ⟨c, rfl, h⟩
theorem kN_mono {k k' : Int → Prop} (h : ∀ c, k c → k' c) (d : PyData) (m : kN k d) : kN k' d := by
  obtain ⟨c, rfl, p⟩ := kN_i m
  exact h c p
section
variable {X : Cx} {pos : Pos} {a b c : Expr} {ma mb : ME}
theorem de_neg (ha : DE X a ma) : DE X (.UnaryOp .USub a pos) (dNeg ma) := by
  refine ⟨(pe_un un_neg ha.pe).wk fun σ H Q ⟨wa, en, w, s, m⟩ => runE ha.mono w s m fun d v H1 h g w1 r => ?_, fun en P P' k => ha.mono en _ _ (kN_mono (k := fun c => P (.int (-c))) (k' := fun c => P' (.int (-c))) fun c => k _)⟩
  obtain ⟨c, rfl, q⟩ := kN_i (k := fun c => Af X.K wa H Q (.int (-c))) h
  cases r.inv_int
  exact ⟨c, rfl, Af.now (Af.up g q) w1 (.int _)⟩
/-- x.bit_length() -/
def dBits (ma : ME) : ME := fun en P => ma en fun d => match d with
  | .int i => P (.int (Builtin.Int.intBits i : Nat))
  | _ => False
theorem de_bits {apos : Pos} (ha : DE X a ma) (hbase : attributeBase a "bit_length" X.env (eval a X.env) = eval a X.env := by rfl) (hline : (apos.endLine == pos.line) = true := by rfl) : DE X (.Call (.Attribute a "bit_length" apos) [] [] pos) (dBits ma) := by
  refine ⟨(pe_bits ha.pe hbase hline).wk fun σ H Q ⟨wa, en, w, s, m⟩ => runE ha.mono w s m fun d v H1 h g w1 r => ?_, fun en P P' k => ha.mono en _ _ (kN_mono (k := fun c => P (.int (Builtin.Int.intBits c : Nat))) (k' := fun c => P' (.int (Builtin.Int.intBits c : Nat))) fun c => k _)⟩
  obtain ⟨c, rfl, q⟩ := kN_i (k := fun c => Af X.K wa H Q (.int (Builtin.Int.intBits c : Nat))) h
  cases r.inv_int
  exact ⟨c, rfl, Af.now (Af.up g q) w1 (.int _)⟩
end

/-! ### argument lists, displays -/
def dNil : MA := fun _ P => P []
def dCons (ma : ME) (mr : MA) : MA := fun en P => ma en fun d => mr en fun ds => P (d :: ds)
/-- the items of a tuple or a list -/
def kItems (k : List PyData → Prop) (d : PyData) : Prop := match d with
  | .tuple xs => k xs
  | .list xs => k xs
  | _ => False
theorem kItems_i {k : List PyData → Prop} : ∀ {d : PyData}, kItems k d → ∃ xs, (d = .tuple xs ∨ d = .list xs) ∧ k xs
  | .tuple xs, h => ⟨xs, .inl rfl, h⟩
  | .list xs, h => ⟨xs, .inr rfl, h⟩
theorem kItems_mono {k k' : List PyData → Prop} (h : ∀ c, k c → k' c) (d : PyData) (m : kItems k d) : kItems k' d := by
  obtain ⟨xs, e | e, p⟩ := kItems_i m
  · subst e; exact h _ p
  · subst e; exact h _ p
def dStar (ma : ME) (mr : MA) : MA := fun en P => ma en (kItems fun xs => mr en fun ds => P (xs ++ ds))
def dTup (mr : MA) : ME := fun en P => mr en fun ds => ds.length ≤ 1000 ∧ P (.tuple ds)
def dLst (mr : MA) : ME := fun en P => mr en fun ds => ds.length ≤ 1000 ∧ P (.list ds)
section
variable {X : Cx} {pos p : Pos} {e : Expr} {es : List Expr} {ma : ME} {mr : MA}
theorem da_nil : DA X [] dNil := ⟨pa_nil.wk fun σ H Q ⟨wa, en, w, s, m⟩ => m [] H Gr.refl w .nil, fun en P P' k => k _⟩
theorem da_cons (ha : DE X e ma) (hr : DA X es mr) (hs : starEach (e :: es) X.env = (false, eval e X.env) :: starEach es X.env := by rfl) : DA X (e :: es) (dCons ma mr) := by
  refine ⟨(pa_cons ha.pe hr.pa hs).wk fun σ H Q ⟨wa, en, w, s, m⟩ => runE ha.mono w s m fun d v H1 h g w1 r => runA hr.mono w1 (s.mono w g) h fun ds vs H2 h2 g2 w2 r2 => ?_, fun en P P' k => ha.mono en _ _ fun d => hr.mono en _ _ fun ds => k _⟩
  exact h2 _ H2 (g.trans g2) w2 (.cons (r.mono w1 g2) r2)
theorem da_star (ha : DE X e ma) (hr : DA X es mr) (hs : starEach (.Starred e p :: es) X.env = (true, eval e X.env) :: starEach es X.env := by rfl) : DA X (.Starred e p :: es) (dStar ma mr) := by
  refine ⟨(StX.pa_star ha.pe hr.pa hs).wk fun σ H Q ⟨wa, en, w, s, m⟩ => runE ha.mono w s m fun d v H1 h g w1 r => ?_, fun en P P' k => ha.mono en _ _ (kItems_mono fun xs => hr.mono en _ _ fun ds => k _)⟩
  obtain ⟨xs, hd, q⟩ := kItems_i h
  have hx : ∃ a vs, v = .ref a ∧ (SqT X.K H1 a vs ∨ SqL X.K H1 a vs) ∧ RpA X.K wa H1 vs xs := by
    rcases hd with e | e
    · subst e
      obtain ⟨a, vs, e1, e2, e3⟩ := r.inv_tup
      exact ⟨a, vs, e1, .inl e2, e3⟩
    · subst e
      obtain ⟨a, vs, e1, _, e2, e3⟩ := r.inv_lst
      exact ⟨a, vs, e1, .inr (.inl (.inl e2)), e3⟩
  obtain ⟨a, vs, rfl, hq, ra⟩ := hx
  refine ⟨a, vs, rfl, hq, runA hr.mono w1 (s.mono w g) q fun ds ws H2 h2 g2 w2 r2 => ?_⟩
  exact h2 _ H2 (g.trans g2) w2 ((ra.mono w1 g2).append r2)
theorem sz1000 {n : Nat} (h : n ≤ 1000) : n ≤ sizeLine := by rw [sizeLine_eq]; omega
theorem de_tup {x1} (h : DA X es mr) : DE X (.Tuple es x1 pos) (dTup mr) := by
  refine ⟨(pe_tup h.pa).wk fun σ H Q ⟨wa, en, w, s, m⟩ => runA h.mono w s m fun ds vs H1 h1 g w1 r => ⟨sz1000 (by rw [r.len]; exact h1.1), fun p np => ?_⟩, fun en P P' k => h.mono en _ _ fun ds q => ⟨q.1, k _ q.2⟩⟩
  exact h1.2 _ _ (g.trans (Gr.laid np)) (w1.laid np) (.tup (.inl (.inl upd_same)) (r.mono w1 (Gr.laid np)))
theorem de_lst (h : DA X es mr) : DE X (.List es pos) (dLst mr) := by
  refine ⟨(pe_lst h.pa).wk fun σ H Q ⟨wa, en, w, s, m⟩ => runA h.mono w s m fun ds vs H1 h1 g w1 r => ⟨sz1000 (by rw [r.len]; exact h1.1), fun p np => ?_⟩, fun en P P' k => h.mono en _ _ fun ds q => ⟨q.1, k _ q.2⟩⟩
  exact h1.2 _ _ (g.trans (Gr.laid np)) (w1.laid np) (.lst (w1.fresh np) upd_same (r.mono w1 (Gr.laid np)))
end

/-! ### items, slices -/
def lget : List PyData → Nat → MD
  | [], _, _ => False
  | d :: _, 0, P => P d
  | _ :: r, i + 1, P => lget r i P
theorem lget_some : ∀ {xs : List PyData} {i : Nat} {P : PyData → Prop}, lget xs i P → ∃ d, xs[i]? = some d ∧ P d
  | d :: _, 0, _, h => ⟨d, rfl, h⟩
  | _ :: r, i + 1, _, h => lget_some (xs := r) (i := i) h
theorem lget_of : ∀ {xs : List PyData} {i : Nat} {P : PyData → Prop} {d : PyData}, xs[i]? = some d → P d → lget xs i P
  | d :: _, 0, _, _, e, h => by
    cases e
    exact h
  | _ :: r, i + 1, _, _, e, h => lget_of (xs := r) (i := i) e h
theorem lget_mono {P P' : PyData → Prop} (k : ∀ d, P d → P' d) : ∀ {xs : List PyData} {i : Nat}, lget xs i P → lget xs i P'
  | d :: _, 0, h => k d h
  | _ :: r, i + 1, h => lget_mono k (xs := r) (i := i) h
def kIx : PyData → PyData → MD := fun d1 d2 P => match d1, d2 with
  | .tuple xs, .int (.ofNat i) => lget xs i P
  | .list xs, .int (.ofNat i) => lget xs i P
  | _, _ => False
theorem kIx_i : ∀ {d1 d2 : PyData} {P : PyData → Prop}, kIx d1 d2 P → ∃ xs i, (d1 = .tuple xs ∨ d1 = .list xs) ∧ d2 = .int (Int.ofNat i) ∧ lget xs i P
  | .tuple xs, .int (.ofNat i), _, h => ⟨xs, i, .inl rfl, rfl, h⟩
  | .list xs, .int (.ofNat i), _, h => ⟨xs, i, .inr rfl, rfl, h⟩
theorem kIx_mono (d1 d2 : PyData) (P P' : PyData → Prop) (k : ∀ d, P d → P' d) (h : kIx d1 d2 P) : kIx d1 d2 P' := by
  obtain ⟨xs, i, e | e, rfl, q⟩ := kIx_i h
  · subst e
    exact lget_mono k q
  · subst e
    exact lget_mono k q
section
variable {X : Cx} {pos : Pos} {a b : Expr} {ma mb : ME}
theorem de_ix (ha : DE X a ma) (hb : DE X b mb) (hs : PlainIx b := by exact fun _ _ => rfl) : DE X (.Subscript a b pos) (dBin kIx ma mb) := by
  refine ⟨(pe_ix ix_seq ha.pe hb.pe hs).wk ?_, bin_mono kIx_mono ha hb⟩
  rintro σ H Q ⟨wa, en, w, s, m⟩
  refine runE ha.mono w s m fun d1 x H1 m1 g1 w1 r1 => ?_
  refine runE hb.mono w1 (s.mono w g1) m1 fun d2 y H2 m2 g2 w2 r2 => ?_
  have r1' := r1.mono w1 g2
  obtain ⟨xs, i, e, rfl, q⟩ := kIx_i m2
  obtain ⟨d, hd, p⟩ := lget_some q
  cases r2.inv_int
  rcases e with e | e
  · subst e
    obtain ⟨a, vs, rfl, hq, ra⟩ := r1'.inv_tup
    obtain ⟨v, hv, rv⟩ := ra.get hd
    exact .inr (.inl ⟨a, vs, _, v, rfl, rfl, hq, atI_nat hv, Af.now ((p.up g1).up g2) w2 rv⟩)
  · subst e
    obtain ⟨a, vs, rfl, _, hq, ra⟩ := r1'.inv_lst
    obtain ⟨v, hv, rv⟩ := ra.get hd
    exact .inl ⟨a, vs, _, v, rfl, rfl, .inl (.inl hq), atI_nat hv, Af.now ((p.up g1).up g2) w2 rv⟩
end
/-- t[i:j], a tuple's part that is not all of it; a list's part -/
def cutD (lo hi : Option Nat) (xs : List PyData) : List PyData := (xs.drop (min (lo.getD 0) xs.length)).take (min (hi.getD xs.length) xs.length - min (lo.getD 0) xs.length)
def dCut (lo hi : Option Nat) (ma : ME) : ME := fun en P => ma en fun d => match d with
  | .tuple xs => (min (lo.getD 0) xs.length ≠ 0 ∨ min (hi.getD xs.length) xs.length ≠ xs.length) ∧ P (.tuple (cutD lo hi xs))
  | .list xs => P (.list (cutD lo hi xs))
  | _ => False
def kT (k : List PyData → Prop) (d : PyData) : Prop := match d with
  | .tuple c => k c
  | _ => False
theorem kT_i {k : List PyData → Prop} : ∀ {d : PyData}, kT k d → ∃ c, d = .tuple c ∧ k c
  | .tuple c, h => ⟨c, rfl, h⟩
theorem kT_mono {k k' : List PyData → Prop} (h : ∀ c, k c → k' c) (d : PyData) (m : kT k d) : kT k' d := by
  obtain ⟨c, rfl, p⟩ := kT_i m
  exact h c p
def kTL (k k' : List PyData → Prop) (d : PyData) : Prop := match d with
  | .tuple c => k c
  | .list c => k' c
  | _ => False
theorem kTL_i {k k' : List PyData → Prop} : ∀ {d : PyData}, kTL k k' d → (∃ c, d = .tuple c ∧ k c) ∨ ∃ c, d = .list c ∧ k' c
  | .tuple c, h => .inl ⟨c, rfl, h⟩
  | .list c, h => .inr ⟨c, rfl, h⟩
theorem kTL_mono {k k' l l' : List PyData → Prop} (h : ∀ c, k c → l c) (h' : ∀ c, k' c → l' c) (d : PyData) (m : kTL k k' d) : kTL l l' d := by
  rcases kTL_i m with ⟨c, rfl, p⟩ | ⟨c, rfl, p⟩
  · exact h c p
  · exact h' c p
/-- a written end of a slice -/
structure EndOf (X : Cx) (o : Option Expr) (n : Option Nat) : Prop where
  po : ∃ t, PO X o t ∧ ∀ σ H Q, Q (n.map Int.ofNat) H → t σ H Q
theorem end_none {X : Cx} : EndOf X none none := ⟨_, po_none, fun _ _ _ q => q⟩
theorem end_some {X : Cx} {i : Nat} {j pos} : EndOf X (some (.Constant (.int (Int.ofNat i)) j pos)) (some i) := ⟨_, po_some pe_int, fun _ _ _ q => ⟨_, rfl, q⟩⟩
theorem sIx_end (n d : Nat) (hd : d = n ∨ d = 0) (o : Option Nat) : HT.sIx n d (o.map Int.ofNat) = min (o.getD d) n := by
  cases o with
  | none =>
    show d = min d n
    omega
  | some k => exact HT.sIx_nat n d k
theorem de_cut {X : Cx} {e : Expr} {ma : ME} {lo hi : Option Expr} {l h : Option Nat} {p2 pos : Pos} (ha : DE X e ma) (hl : EndOf X lo l) (hh : EndOf X hi h) : DE X (.Subscript e (.Slice lo hi none p2) pos) (dCut l h ma) := by
  obtain ⟨tl, pl, ql⟩ := hl.po
  obtain ⟨th, ph, qh⟩ := hh.po
  have mono : ∀ en P P', (∀ d, P d → P' d) → dCut l h ma en P → dCut l h ma en P' := fun en P P' k => ha.mono en _ _ (kTL_mono (k := fun xs => (min (l.getD 0) xs.length ≠ 0 ∨ min (h.getD xs.length) xs.length ≠ xs.length) ∧ P (.tuple (cutD l h xs)))
    (l := fun xs => (min (l.getD 0) xs.length ≠ 0 ∨ min (h.getD xs.length) xs.length ≠ xs.length) ∧ P' (.tuple (cutD l h xs))) (k' := fun xs => P (.list (cutD l h xs))) (l' := fun xs => P' (.list (cutD l h xs))) (fun c q => ⟨q.1, k _ q.2⟩) (fun c q => k _ q))
  refine ⟨(pe_slice (sl_tup.or sl_list) ha.pe pl ph).wk fun σ H Q ⟨wa, en, w, s, m⟩ => runE ha.mono w s m fun d v H1 hm g w1 r => ?_, mono⟩
  have ec : ∀ (vs : List V) (xs : List PyData), vs.length = xs.length → cutV vs (l.map Int.ofNat) (h.map Int.ofNat) = (vs.drop (min (l.getD 0) xs.length)).take (min (h.getD xs.length) xs.length - min (l.getD 0) xs.length) := fun vs xs le => by
    unfold cutV
    rw [sIx_end _ _ (.inr rfl), sIx_end _ _ (.inl rfl), le]
  rcases kTL_i (k := fun xs => (min (l.getD 0) xs.length ≠ 0 ∨ min (h.getD xs.length) xs.length ≠ xs.length) ∧ Af X.K wa H Q (.tuple (cutD l h xs))) (k' := fun xs => Af X.K wa H Q (.list (cutD l h xs))) hm with ⟨xs, rfl, q1, q2⟩ | ⟨xs, rfl, q2⟩
  · obtain ⟨a, vs, rfl, hq, ra⟩ := r.inv_tup
    have le := ra.len
    refine ql _ _ _ (qh _ _ _ (.inl ⟨a, vs, rfl, hq, ?_, fun p np => ?_⟩))
    · rw [sIx_end _ _ (.inr rfl), sIx_end _ _ (.inl rfl), le]
      rintro ⟨z1, z2⟩
      rcases q1 with q1 | q1
      · exact q1 z1
      · exact q1 z2
    · rw [ec vs xs le]
      exact q2 _ _ (g.trans (Gr.laid np)) (w1.laid np) (.tup (.inl (.inl upd_same)) ((RpA.take _ (RpA.drop _ ra)).mono w1 (Gr.laid np)))
  · obtain ⟨a, vs, rfl, _, hq, ra⟩ := r.inv_lst
    have le := ra.len
    refine ql _ _ _ (qh _ _ _ (.inr ⟨a, vs, rfl, .inl (.inl hq), fun p np => ?_⟩))
    rw [ec vs xs le]
    exact q2 _ _ (g.trans (Gr.laid np)) (w1.laid np) (.lst (w1.fresh np) upd_same ((RpA.take _ (RpA.drop _ ra)).mono w1 (Gr.laid np)))
end GD
end

section
set_option Elab.async false
set_option linter.all false
set_option maxRecDepth 100000
/-! GG: built-ins, defs, calls. -/
namespace GD
open PySem PySem.Spec PyProof.Rows L2

/-! ### built-ins by values -/
def rDC (K : PySem.W.Frag) (k : List PyData → MD) : List V → Hp → VK → Prop := fun vs H Q => ∃ wa ds, WellAt wa H ∧ RpA K wa H vs ds ∧ k ds (Af K wa H Q)
structure CallD (X : Cx) (f : Value) (k : List PyData → MD) : Prop where
  run : CallR X f (rDC X.K k)
  mono : ∀ ds P P', (∀ d, P d → P' d) → k ds P → k ds P'
def dCall (k : List PyData → MD) (ma : MA) : ME := fun en P => ma en fun ds => k ds P
section
variable {X : Cx} {x : Str} {p pos : Pos} {e : Expr} {es : List Expr} {ma : MA} {id T : String} {k : List PyData → MD}
theorem call_mono (hk : ∀ ds P P', (∀ d, P d → P' d) → k ds P → k ds P') (ha : DA X es ma) : ∀ en P P', (∀ d, P d → P' d) → dCall k ma en P → dCall k ma en P' := fun en P P' h => ha.mono en _ _ fun ds => hk ds _ _ h
theorem call_run (hk : ∀ ds P P', (∀ d, P d → P' d) → k ds P → k ds P') (ha : DA X es ma) : ∀ σ H Q, tD X.K (dCall k ma) σ H Q → tCB (rDC X.K k) (tDA X.K ma) σ H Q := by
  rintro σ H Q ⟨wa, en, w, s, m⟩
  refine runA ha.mono w s m fun ds vs H1 h1 g w1 r => ⟨wa, ds, w1, r, hk _ _ _ (fun d h => h.up g) h1⟩
theorem de_callB (hc : CallD X (.builtin id) k) (hm : X.mg x = none) (hv : bootBuiltins x = some (.builtin id)) (ha : DA X (e :: es) ma) (hg : Gl X x := by rfl) (hn : x ≠ "__name__" := by decide) (hdb : (x == ("__debug__" : Str)) = false := by decide)
    (he : starEach (e :: es) X.env = (false, eval e X.env) :: starEach es X.env := by rfl) (hpl : (backTo pos (starEach es X.env)).any (·.1) = false := by rfl) : DE X (.Call (.Name x p) (e :: es) [] pos) (dCall k ma) :=
  ⟨(pe_callB hc.run hg hm hv ha.pa hn hdb he hpl).wk (call_run hc.mono ha), call_mono hc.mono ha⟩
theorem de_callTy (hc : CallD X (.type T) k) (hm : X.mg x = none) (hv : bootBuiltins x = some (.type T)) (ha : DA X (e :: es) ma) (hg : Gl X x := by rfl) (hn : x ≠ "__name__" := by decide) (hdb : (x == ("__debug__" : Str)) = false := by decide)
    (he : starEach (e :: es) X.env = (false, eval e X.env) :: starEach es X.env := by rfl) (hpl : (backTo pos (starEach es X.env)).any (·.1) = false := by rfl) : DE X (.Call (.Name x p) (e :: es) [] pos) (dCall k ma) :=
  ⟨(pe_callTy hc.run hg hm hv ha.pa hn hdb he hpl).wk (call_run hc.mono ha), call_mono hc.mono ha⟩
theorem de_callF (hc : CallD X (.builtin id) k) (hm : X.mg x = some (.builtin id)) (ha : DA X (e :: es) ma) (hg : Gl X x := by rfl) (hdb : (x == ("__debug__" : Str)) = false := by decide)
    (he : starEach (e :: es) X.env = (false, eval e X.env) :: starEach es X.env := by rfl) (hpl : (backTo pos (starEach es X.env)).any (·.1) = false := by rfl) : DE X (.Call (.Name x p) (e :: es) [] pos) (dCall k ma) :=
  ⟨(pe_callBfun hc.run hg hm ha.pa hdb he hpl).wk (call_run hc.mono ha), call_mono hc.mono ha⟩
end
/-- one int, two ints -/
def k1I (C : Int → Prop) (g : Int → PyData) : List PyData → MD := fun ds P => match ds with
  | [.int i] => C i ∧ P (g i)
  | _ => False
def k2I (g : Int → Int → PyData) : List PyData → MD := fun ds P => match ds with
  | [.int i, .int j] => P (g i j)
  | _ => False
theorem k1I_i {C : Int → Prop} {g : Int → PyData} : ∀ {ds : List PyData} {P : PyData → Prop}, k1I C g ds P → ∃ i, ds = [.int i] ∧ C i ∧ P (g i)
  | [.int i], _, h => ⟨i, rfl, h⟩
theorem k2I_i {g : Int → Int → PyData} : ∀ {ds : List PyData} {P : PyData → Prop}, k2I g ds P → ∃ i j, ds = [.int i, .int j] ∧ P (g i j)
  | [.int i, .int j], _, h => ⟨i, j, rfl, h⟩
theorem RpA.one {K : PySem.W.Frag} {wa : Wl} {H : Hp} {vs : List V} {d : PyData} (r : RpA K wa H vs [d]) : ∃ v, vs = [v] ∧ Rp K wa H v d := by
  cases r with
  | cons h t =>
    cases t
    exact ⟨_, rfl, h⟩
theorem RpA.two {K : PySem.W.Frag} {wa : Wl} {H : Hp} {vs : List V} {d e : PyData} (r : RpA K wa H vs [d, e]) : ∃ v u, vs = [v, u] ∧ Rp K wa H v d ∧ Rp K wa H u e := by
  cases r with
  | cons h t =>
    obtain ⟨u, rfl, q⟩ := t.one
    exact ⟨_, _, rfl, h, q⟩
abbrev kAbs := k1I (fun _ => True) fun i => .int (i.natAbs : Nat)
abbrev kIsqrt := k1I (fun i => 0 ≤ i ∧ i.natAbs < 2 ^ 13000) fun i => .int (Float64.isqrt i.toNat : Nat)
abbrev kGcd := k2I fun i j => .int ((Nat.gcd i.natAbs j.natAbs : Nat) : Int)
/-- int(x) -/
def kInt : List PyData → MD := fun ds P => match ds with
  | [.int i] => P (.int i)
  | [.bool b] => P (.int (if b then 1 else 0))
  | _ => False
theorem kInt_i : ∀ {ds : List PyData} {P : PyData → Prop}, kInt ds P → (∃ i, ds = [.int i] ∧ P (.int i)) ∨ ∃ b, ds = [.bool b] ∧ P (.int (if b then 1 else 0))
  | [.int i], _, h => .inl ⟨i, rfl, h⟩
  | [.bool b], _, h => .inr ⟨b, rfl, h⟩
/-- len -/
def kLen : List PyData → MD := fun ds P => match ds with
  | [.tuple xs] => P (.int xs.length)
  | [.list xs] => P (.int xs.length)
  | _ => False
theorem kLen_i : ∀ {ds : List PyData} {P : PyData → Prop}, kLen ds P → ∃ xs, (ds = [.tuple xs] ∨ ds = [.list xs]) ∧ P (.int xs.length)
  | [.tuple xs], _, h => ⟨xs, .inl rfl, h⟩
  | [.list xs], _, h => ⟨xs, .inr rfl, h⟩
/-- tuple(xs) -/
def kTuple : List PyData → MD := fun ds P => match ds with
  | [.tuple xs] => P (.tuple xs)
  | [.list xs] => P (.tuple xs)
  | _ => False
theorem kTuple_i : ∀ {ds : List PyData} {P : PyData → Prop}, kTuple ds P → ∃ xs, (ds = [.tuple xs] ∨ ds = [.list xs]) ∧ P (.tuple xs)
  | [.tuple xs], _, h => ⟨xs, .inl rfl, h⟩
  | [.list xs], _, h => ⟨xs, .inr rfl, h⟩
/-- all([..]) of bools -/
def bls : List PyData → Option (List Bool)
  | [] => some []
  | .bool b :: r => (bls r).map (b :: ·)
  | _ :: _ => none
theorem bls_map : ∀ {xs : List PyData} {bs : List Bool}, bls xs = some bs → xs = bs.map .bool
  | [], bs, h => by
    cases (show some [] = some bs from h)
    rfl
  | .bool b :: r, bs, h => by
    have h2 : (bls r).map (b :: ·) = some bs := h
    cases e : bls r with
    | none =>
      rw [e] at h2
      cases h2
    | some cs =>
      rw [e] at h2
      cases h2
      rw [List.map_cons, bls_map e]
def kAll : List PyData → MD := fun ds P => match ds with
  | [.list xs] => match bls xs with
    | some bs => P (.bool (bs.all id))
    | none => False
  | _ => False
theorem kAll_i : ∀ {ds : List PyData} {P : PyData → Prop}, kAll ds P → ∃ bs : List Bool, ds = [.list (bs.map .bool)] ∧ P (.bool (bs.all id))
  | [.list xs], P, h => by
    have h2 : (match bls xs with
      | some bs => P (.bool (bs.all id))
      | none => False) := h
    cases e : bls xs with
    | none =>
      rw [e] at h2
      exact h2.elim
    | some bs =>
      rw [e] at h2
      exact ⟨bs, by rw [bls_map e], h2⟩
theorem RpA.bools {K : PySem.W.Frag} {wa : Wl} {H : Hp} : ∀ {vs : List V} {bs : List Bool}, RpA K wa H vs (bs.map .bool) → vs = bs.map V.bl
  | _, [], .nil => rfl
  | _, b :: bs, .cons h t => by rw [h.inv_bl, RpA.bools t]; rfl
/-- repr: what may be shown -/
def ShowOk (d : PyData) : Prop := PyData.showable d = true ∧ PyData.hasDict d = false ∧ d.depth ≤ 60 ∧ d.shown.length ≤ sizeLine ∧ noWell d = true
def kRepr : List PyData → MD := fun ds P => match ds with
  | [.tuple xs] => ShowOk (.tuple xs) ∧ P (.str (PyData.tuple xs).shown)
  | [.int i] => ShowOk (.int i) ∧ P (.str (PyData.int i).shown)
  | [.bool b] => P (.str (PyData.bool b).shown)
  | _ => False
theorem kRepr_i : ∀ {ds : List PyData} {P : PyData → Prop}, kRepr ds P → (∃ xs, ds = [.tuple xs] ∧ ShowOk (.tuple xs) ∧ P (.str (PyData.tuple xs).shown)) ∨ (∃ i, ds = [.int i] ∧ ShowOk (.int i) ∧ P (.str (PyData.int i).shown)) ∨ ∃ b, ds = [.bool b] ∧ P (.str (PyData.bool b).shown)
  | [.tuple xs], _, h => .inl ⟨xs, rfl, h⟩
  | [.int i], _, h => .inr (.inl ⟨i, rfl, h⟩)
  | [.bool b], _, h => .inr (.inr ⟨b, rfl, h⟩)
section
variable {X : Cx}
theorem cd_abs : CallD X (.builtin "abs") kAbs := by
  refine ⟨fun pins s σ H vs us Q I r q => ?_, fun ds P P' k h => ?_⟩
  · obtain ⟨wa, ds, w, ra, m⟩ := q
    obtain ⟨i, rfl, _, p⟩ := k1I_i m
    obtain ⟨v, rfl, rv⟩ := ra.one
    cases rv.inv_int
    refine call_abs pins s σ H _ us Q I r ⟨i, rfl, ?_⟩
    have e : (if i < 0 then -i else i) = ((i.natAbs : Nat) : Int) := by split <;> omega
    rw [e]
    exact p.now w (.int _)
  · obtain ⟨i, rfl, c, p⟩ := k1I_i h
    exact ⟨c, k _ p⟩
theorem cd_isqrt : CallD X (.builtin "math.isqrt") kIsqrt := by
  refine ⟨fun pins s σ H vs us Q I r q => ?_, fun ds P P' k h => ?_⟩
  · obtain ⟨wa, ds, w, ra, m⟩ := q
    obtain ⟨i, rfl, ⟨c1, c2⟩, p⟩ := k1I_i m
    obtain ⟨v, rfl, rv⟩ := ra.one
    cases rv.inv_int
    obtain ⟨u, rfl, t, rfl⟩ := vals1 r
    have hl : i.natAbs.log2 < 13000 := PySem.Flt.log2_lt_of (by decide) c2
    have e : i.toNat = i.natAbs := by omega
    rw [e] at p
    have z := PySem.W.mg_run_isqrt i t (by omega) (by rw [e]; omega) (by rw [e]; omega)
    rw [e] at z
    exact call_function_meets PySem.W.MGF.kind_isqrt PySem.W.MGF.plain_isqrt PySem.W.MGF.entry_isqrt (PySem.W.MGF.args_isqrt _) z.meets ⟨.int _, H, I.tok _, ⟨_, rfl⟩, p.now w (.int _)⟩
  · obtain ⟨i, rfl, c, p⟩ := k1I_i h
    exact ⟨c, k _ p⟩
theorem cd_gcd : CallD X (.builtin "math.gcd") kGcd := by
  refine ⟨fun pins s σ H vs us Q I r q => ?_, fun ds P P' k h => ?_⟩
  · obtain ⟨wa, ds, w, ra, m⟩ := q
    obtain ⟨i, j, rfl, p⟩ := k2I_i m
    obtain ⟨v, u, rfl, rv, ru⟩ := ra.two
    cases rv.inv_int
    cases ru.inv_int
    exact cr_gcd pins s σ H _ us Q I r ⟨i, j, rfl, p.now w (.int _)⟩
  · obtain ⟨i, j, rfl, p⟩ := k2I_i h
    exact k _ p
theorem cd_int : CallD X (.type "int") kInt := by
  refine ⟨fun pins s σ H vs us Q I r q => ?_, fun ds P P' k h => ?_⟩
  · obtain ⟨wa, ds, w, ra, m⟩ := q
    rcases kInt_i m with ⟨i, rfl, p⟩ | ⟨b, rfl, p⟩
    · obtain ⟨v, rfl, rv⟩ := ra.one
      cases rv.inv_int
      exact call_int1 pins s σ H _ us Q I r (.inl ⟨i, rfl, p.now w (.int _)⟩)
    · obtain ⟨v, rfl, rv⟩ := ra.one
      cases rv.inv_bl
      exact call_int1 pins s σ H _ us Q I r (.inr ⟨b, rfl, p.now w (.int _)⟩)
  · rcases kInt_i h with ⟨i, rfl, p⟩ | ⟨b, rfl, p⟩
    · exact k _ p
    · exact k _ p
theorem cd_len : CallD X (.builtin "len") kLen := by
  refine ⟨fun pins s σ H vs us Q I r q => ?_, fun ds P P' k h => ?_⟩
  · obtain ⟨wa, ds, w, ra, m⟩ := q
    obtain ⟨xs, e | e, p⟩ := kLen_i m
    · subst e
      obtain ⟨v, rfl, rv⟩ := ra.one
      obtain ⟨a, ys, rfl, hq, rr⟩ := rv.inv_tup
      refine call_len_seq pins s σ H _ us Q I r ⟨a, ys, rfl, .inr hq, ?_⟩
      rw [rr.len]
      exact p.now w (.int _)
    · subst e
      obtain ⟨v, rfl, rv⟩ := ra.one
      obtain ⟨a, ys, rfl, _, hq, rr⟩ := rv.inv_lst
      refine call_len_seq pins s σ H _ us Q I r ⟨a, ys, rfl, .inl (.inl (.inl hq)), ?_⟩
      rw [rr.len]
      exact p.now w (.int _)
  · obtain ⟨xs, e | e, p⟩ := kLen_i h
    · subst e
      exact k _ p
    · subst e
      exact k _ p
theorem cd_tuple : CallD X (.type "tuple") kTuple := by
  refine ⟨fun pins s σ H vs us Q I r q => ?_, fun ds P P' k h => ?_⟩
  · obtain ⟨wa, ds, w, ra, m⟩ := q
    obtain ⟨xs, e | e, p⟩ := kTuple_i m
    · subst e
      obtain ⟨v, rfl, rv⟩ := ra.one
      obtain ⟨a, ys, rfl, hq, rr⟩ := rv.inv_tup
      exact call_tuple_of pins s σ H _ us Q I r ⟨a, ys, rfl, .inr ⟨hq, p.now w (.tup hq rr)⟩⟩
    · subst e
      obtain ⟨v, rfl, rv⟩ := ra.one
      obtain ⟨a, ys, rfl, _, hq, rr⟩ := rv.inv_lst
      refine call_tuple_of pins s σ H _ us Q I r ⟨a, ys, rfl, .inl ⟨.inl (.inl hq), fun l nl => ?_⟩⟩
      exact p _ _ (Gr.laid nl) (w.laid nl) (.tup (.inl (.inl upd_same)) (rr.mono w (Gr.laid nl)))
  · obtain ⟨xs, e | e, p⟩ := kTuple_i h
    · subst e
      exact k _ p
    · subst e
      exact k _ p
theorem cd_all (hc : X.calm = true) : CallD X (.builtin "all") kAll := by
  refine ⟨fun pins s σ H vs us Q I r q => ?_, fun ds P P' k h => ?_⟩
  · obtain ⟨wa, ds, w, ra, m⟩ := q
    obtain ⟨bs, rfl, p⟩ := kAll_i m
    obtain ⟨v, rfl, rv⟩ := ra.one
    obtain ⟨a, ys, rfl, _, hq, rr⟩ := rv.inv_lst
    cases rr.bools
    exact cr_all hc pins s σ H _ us Q I r ⟨a, bs, rfl, .inl (.inl hq), p.now w (.bl _)⟩
  · obtain ⟨bs, rfl, p⟩ := kAll_i h
    have e : bls (bs.map .bool) = some bs := by
      clear p h
      induction bs with
      | nil => rfl
      | cons b bs ih =>
        show (bls (bs.map .bool)).map (b :: ·) = _
        rw [ih]
        rfl
    show (match bls (bs.map .bool) with
      | some bs => P' (.bool (bs.all id))
      | none => False)
    rw [e]
    exact k _ p
theorem cd_repr {n : Nat} (hr : Room n X.A) (hg : X.A.guards = some []) : CallD X (.builtin "repr") kRepr := by
  refine ⟨fun pins s σ H vs us Q I r q => ?_, fun ds P P' k h => ?_⟩
  · obtain ⟨wa, ds, w, ra, m⟩ := q
    have hu := hr.units
    rcases kRepr_i m with ⟨xs, rfl, ⟨h1, h2, h3, h4, h5⟩, p⟩ | ⟨i, rfl, ⟨h1, _⟩, p⟩ | ⟨b, rfl, p⟩
    · obtain ⟨v, rfl, rv⟩ := ra.one
      obtain ⟨u, rfl, ru⟩ := vals1 r
      obtain ⟨as, rd⟩ := Dp.reads I _ _ _ (rv.dp h5) ru
      obtain ⟨a, ys, rfl, hq, rr⟩ := rv.inv_tup
      cases ru
      exact PySem.repr_of_reads' rd h1 (PyData.noDict_hsm h2) hg (by omega) (fun _ _ e => e) (fun h' u tk hk => ⟨.str _, H, I.kept (t' := tk) hk, ⟨_, rfl⟩, p.now w (.str _)⟩) h4
    · obtain ⟨v, rfl, rv⟩ := ra.one
      cases rv.inv_int
      obtain ⟨u, rfl, t, rfl⟩ := vals1 r
      exact PySem.P.repr_of_int (by simpa [PyData.showable] using h1) ⟨.str _, H, I.tok _, ⟨_, by simp only [PyData.shown]; rfl⟩, p.now w (.str _)⟩
    · obtain ⟨v, rfl, rv⟩ := ra.one
      cases rv.inv_bl
      obtain ⟨u, rfl, ru⟩ := vals1 r
      cases ru
      exact PySem.P.repr_of_bool ⟨.str _, H, I.tok _, ⟨_, by simp only [PyData.shown]; rfl⟩, p.now w (.str _)⟩
  · rcases kRepr_i h with ⟨xs, rfl, h1, p⟩ | ⟨i, rfl, h1, p⟩ | ⟨b, rfl, p⟩
    · exact ⟨h1, k _ p⟩
    · exact ⟨h1, k _ p⟩
    · exact k _ p
end
/-! texts that are shown, compared -/
def kEqS (neg : Bool) : PyData → PyData → MD := fun d1 d2 P => match d1, d2 with
  | .str a, .str b => P (.bool (if neg then !decide (a = b) else decide (a = b)))
  | _, _ => False
theorem kEqS_i {neg : Bool} : ∀ {d1 d2 : PyData} {P : PyData → Prop}, kEqS neg d1 d2 P → ∃ a b, d1 = .str a ∧ d2 = .str b ∧ P (.bool (if neg then !decide (a = b) else decide (a = b)))
  | .str a, .str b, _, h => ⟨a, b, rfl, rfl, h⟩
end GD
end

section
set_option Elab.async false
set_option linter.all false
set_option maxRecDepth 100000
/-! GH: defs, their calls, isinstance, comprehensions, statements. -/
namespace GD
open PySem PySem.Spec PyProof.Rows L2

theorem scal_str (a b : Str) : scal (.str a) (.str b) = true := by rfl
theorem dec_strV (a b : Str) : decide (V.str a = V.str b) = decide (a = b) := by
  rw [Bool.eq_iff_iff]
  simp
theorem od_eqS {X : Cx} : OpD X (compareOp .Eq) (kEqS false) := by
  refine ⟨fun pins s σ H x y v u Q I rx ry q => ?_, fun d1 d2 P P' k h => ?_⟩
  · obtain ⟨wa, d1, d2, w, r1, r2, m⟩ := q
    obtain ⟨i, j, rfl, rfl, p⟩ := kEqS_i m
    cases r1.inv_str
    cases r2.inv_str
    exact op_eq pins s σ H _ _ v u Q I rx ry ⟨scal_str i j, by rw [dec_strV]; exact p.now w (.bl _)⟩
  · obtain ⟨i, j, rfl, rfl, p⟩ := kEqS_i h
    exact k _ p
theorem od_neS {X : Cx} : OpD X (compareOp .NotEq) (kEqS true) := by
  refine ⟨fun pins s σ H x y v u Q I rx ry q => ?_, fun d1 d2 P P' k h => ?_⟩
  · obtain ⟨wa, d1, d2, w, r1, r2, m⟩ := q
    obtain ⟨i, j, rfl, rfl, p⟩ := kEqS_i m
    cases r1.inv_str
    cases r2.inv_str
    exact op_ne pins s σ H _ _ v u Q I rx ry ⟨scal_str i j, by rw [dec_strV]; exact p.now w (.bl _)⟩
  · obtain ⟨i, j, rfl, rfl, p⟩ := kEqS_i h
    exact k _ p

/-! ### isinstance of a value and a built-in class -/
def tyName : PyData → String
  | .none => "NoneType"
  | .bool _ => "bool"
  | .int _ => "int"
  | .str _ => "str"
  | .list _ => "list"
  | .tuple _ => "tuple"
  | .dict _ => "dict"
def isTy (T : String) (d : PyData) : Bool := match d, T with
  | .bool _, "int" => true
  | .bool _, "bool" => true
  | .int _, "int" => true
  | .str _, "str" => true
  | .list _, "list" => true
  | .tuple _, "tuple" => true
  | _, _ => false
def dIsi (T : String) (ma : ME) : ME := fun en P => ma en fun d => match d with
  | .dict _ => False
  | d => P (.bool (isTy T d))
def kIsi (T : String) (P : PyData → Prop) (d : PyData) : Prop := match d with
  | .dict _ => False
  | d => P (.bool (isTy T d))
theorem kIsi_mono {T : String} {P P' : PyData → Prop} (h : ∀ d, P d → P' d) (d : PyData) (m : kIsi T P d) : kIsi T P' d := by
  cases d with
  | dict _ => exact m.elim
  | _ => exact h _ m
theorem kit_int {T : String} (hT : T ∈ ["int", "bool", "tuple", "str"]) (t : String) (ht : t ∈ ["NoneType", "bool", "int", "str", "list", "tuple"]) (K : PySem.W.Frag) :
    PySem.W.kitOne K (.type t) (.type T) = some (if t = T then true else decide (t = "bool" ∧ T = "int")) := by
  refine kit_ty ?_
  simp only [List.mem_cons, List.mem_nil_iff, or_false] at hT ht
  rcases hT with rfl | rfl | rfl | rfl <;> rcases ht with rfl | rfl | rfl | rfl | rfl | rfl <;> decide +kernel
theorem sqT_ty {K : PySem.W.Frag} {H : Hp} {a : Addr} {xs : List V} (h : SqT K H a xs) : TyX K H (.ref a) (.type "tuple") := by
  rcases h with (h | ⟨o, h⟩) | ⟨o, its, n, h, c, _⟩
  · exact .base (.tup h)
  · exact .fTuple h
  · exact .kTuple h c
theorem Rp.ty {K : PySem.W.Frag} {wa : Wl} {H : Hp} {v : V} {d : PyData} (r : Rp K wa H v d) (h : noWell d = true ∨ ∀ k, d ≠ .dict k) : TyX K H v (.type (tyName d)) := by
  cases r with
  | non => exact .base .non
  | bl b => exact .base (.bl b)
  | int i => exact .base (.int i)
  | str x => exact .base (.str x)
  | tup h1 _ => exact sqT_ty h1
  | lst _ h1 _ => exact .base (.lst h1)
  | well =>
    rcases h with h | h
    · unfold noWell at h
      cases h
    · exact absurd rfl (h [])
theorem de_isi {X : Cx} {x t : Str} {T : String} {p p2 pos : Pos} {a : Expr} {ma : ME} (ha : DE X a ma) (hT : T ∈ ["int", "bool", "tuple", "str"]) (hx : x = "isinstance") (hm : X.mg "isinstance" = none) (hmt : X.mg t = none) (hvt : bootBuiltins t = some (.type T)) (hg : Gl X x := by rfl) (hgt : Gl X t := by rfl) (hnt : t ≠ "__name__" := by decide) (hdt : (t == ("__debug__" : Str)) = false := by decide)
    (he : starEach [a, .Name t p2] X.env = (false, eval a X.env) :: starEach [.Name t p2] X.env := by rfl) (he2 : starEach [.Name t p2] X.env = (false, eval (.Name t p2) X.env) :: starEach [] X.env := by rfl)
    (hpl : (backTo pos (starEach [.Name t p2] X.env)).any (·.1) = false := by rfl) : DE X (.Call (.Name x p) [a, .Name t p2] [] pos) (dIsi T ma) := by
  subst hx
  refine ⟨(pe_callB call_isi hg hm PyProof.Rows.boot_isinstance (pa_cons ha.pe (pa_cons (pe_bltn (v := .ty T) hgt hmt hvt rfl hnt hdt) pa_nil he2) he) (by decide) (by decide) he hpl).wk fun σ H Q ⟨wa, en, w, s, m⟩ => runE ha.mono w s m fun d v H1 h g w1 r => ?_, fun en P P' k => ha.mono en _ _ (kIsi_mono k)⟩
  have hd : (∀ k, d ≠ .dict k) ∧ Af X.K wa H Q (.bool (isTy T d)) := by
    cases d with
    | dict _ => exact (show False from h).elim
    | _ => exact ⟨(fun _ z => nomatch z), h⟩
  refine ⟨v, .ty T, .type (tyName d), .type T, isTy T d, rfl, .ty T, r.ty (.inr hd.1), ?_, Af.now (Af.up g hd.2) w1 (.bl _)⟩
  have hn : tyName d ∈ ["NoneType", "bool", "int", "str", "list", "tuple"] := by
    cases d with
    | dict k => exact absurd rfl (hd.1 k)
    | _ => simp [tyName]
  rw [kit_int hT _ hn]
  simp only [List.mem_cons, List.mem_nil_iff, or_false] at hT
  rcases hT with rfl | rfl | rfl | rfl <;> cases d <;> first | rfl | decide +kernel | exact absurd rfl (hd.1 _)

/-! ### defs -/
/-- what a def promises, by data -/
def spD (K : PySem.W.Frag) (S : List PyData → MD) : Sp := fun vs H Q _ => ∃ wa ds, WellAt wa H ∧ RpA K wa H vs ds ∧ S ds (Af K wa H Q)
structure FnG (P : Program) (w : World) (K : PySem.W.Frag) (mg : Str → Option Value) (base : Heap) (k : Nat) (f : Addr) (fd : FuncData) (ps : List Str) (S : List PyData → MD) : Prop where
  len : ∀ ds P, S ds P → ds.length = ps.length
  mono : ∀ ds P P', (∀ d, P d → P' d) → S ds P → S ds P'
  run : ∀ (A : Around) (outer : List Env) (s : Shared) (H : Hp) (args : Args) (us : List Value) (vs : List V) (Q : VK), Room k A → A.guards = some [] → Env0 P w K mg base A outer s H → BindsTo s fd args (ps.zip us) → Vals vs us → spD K S vs H Q E0 →
    codeAny (model P w) A (.call (.ref f) args) (CR CX0 outer P w H s Q E0) s
theorem FnG.up {P : Program} {w : World} {K : PySem.W.Frag} {mg : Str → Option Value} {base : Heap} {j k : Nat} {f : Addr} {fd : FuncData} {ps : List Str} {S : List PyData → MD} (F : FnG P w K mg base j f fd ps S) (h : j ≤ k) : FnG P w K mg base k f fd ps S :=
  ⟨F.len, F.mono, fun A outer s H args us vs Q hr => F.run A outer s H args us vs Q (hr.mono h)⟩
/-- a def of the module that is called by its name -/
structure Kn (P : Program) (w : World) (K : PySem.W.Frag) (mg : Str → Option Value) (base : Heap) (x : Str) (n k : Nat) (S : List PyData → MD) : Prop where
  ex : ∃ (f : Addr) (fd : FuncData) (ps : List Str), mg x = some (.ref f) ∧ PySem.W.keepIn K (.ref f) = true ∧ Binds K fd ps [] ∧ ps.length = n ∧ FnG P w K mg base k f fd ps S
theorem Kn.up {P : Program} {w : World} {K : PySem.W.Frag} {mg : Str → Option Value} {base : Heap} {x : Str} {n j k : Nat} {S : List PyData → MD} (h : Kn P w K mg base x n j S) (hj : j ≤ k) : Kn P w K mg base x n k S := by
  obtain ⟨f, fd, ps, a, b, c, l, F⟩ := h.ex
  exact ⟨f, fd, ps, a, b, c, l, F.up hj⟩
theorem Kn.mono {P : Program} {w : World} {K : PySem.W.Frag} {mg : Str → Option Value} {base : Heap} {x : Str} {n k : Nat} {S : List PyData → MD} (h : Kn P w K mg base x n k S) : ∀ ds P P', (∀ d, P d → P' d) → S ds P → S ds P' := by
  obtain ⟨f, fd, ps, a, b, c, l, F⟩ := h.ex
  exact F.mono
section
variable {X : Cx} {x : Str} {p pos : Pos} {e : Expr} {es : List Expr} {ma : MA} {S : List PyData → MD} {n k : Nat}
theorem de_call (G : Kn X.prog X.w X.K X.mg X.base x n k S) (hr : Room k X.A) (hgd : X.A.guards = some []) (ha : DA X (e :: es) ma) (hg : Gl X x := by rfl) (hdb : (x == ("__debug__" : Str)) = false := by decide)
    (he : starEach (e :: es) X.env = (false, eval e X.env) :: starEach es X.env := by rfl) (hpl : (backTo pos (starEach es X.env)).any (·.1) = false := by rfl) : DE X (.Call (.Name x p) (e :: es) [] pos) (dCall S ma) := by
  have mono := G.mono
  obtain ⟨f, fd, ps, hm, hk, hb, hl0, F⟩ := G.ex
  refine ⟨⟨fun pins s σ H Q I h => ?_⟩, call_mono mono ha⟩
  refine wpAny_Call_Name_kw (ld_glob I hg hm ?_ hdb)
  have h2 := call_run mono ha σ H Q h
  refine PySem.W.callWith_K (h₀ := X.base) I.ok.mod.kin hk (thn (ha.pa.run pos pins s σ H _ I h2) fun us s1 ⟨vs, H1, I1, r, wa, ds, w1, ra, q⟩ => ⟨I1.kIn, ?_⟩) he hpl
  have hl : (us ++ ([] : List Value)).length = ps.length := by
    rw [List.append_nil, ← r.length, ra.len]
    exact F.len _ _ q
  have hbt := hb s1 us I1.kIn hl
  rw [List.append_nil] at hbt
  refine wpAny_call (codeAny_mono (F.run X.A X.stack s1 H1 ⟨us, []⟩ us vs Q hr hgd I1.env0 hbt r ⟨wa, ds, w1, ra, q⟩) fun res s' hq => ?_)
  cases res with
  | error er => exact (show False from hq).elim
  | ok fl =>
    cases fl with
    | ret u => exact I1.after hq
    | next => exact False.elim hq
    | brk => exact False.elim hq
    | cont => exact False.elim hq
end
/-- the slots at the entry -/
def startD (N : List Str) (ds : List PyData) : En := ds.map some ++ List.replicate (N.length - ds.length) none
theorem start_rp {K : PySem.W.Frag} {wa : Wl} {H : Hp} {N : List Str} {vs : List V} {ds : List PyData} (r : RpA K wa H vs ds) : RpS K wa H (L2.start N vs) (startD N ds) := by
  have hl := r.len
  refine ⟨?_, fun i d e => ?_⟩
  · unfold L2.start startD
    simp only [List.length_append, List.length_map, List.length_replicate, hl]
  · unfold startD at e
    by_cases hi : i < ds.length
    · rw [List.getElem?_append_left (by rw [List.length_map]; exact hi), List.getElem?_map] at e
      cases q : ds[i]? with
      | none =>
        rw [q] at e
        cases e
      | some d' =>
        rw [q] at e
        have ed : d' = d := Option.some.inj (Option.some.inj e)
        subst ed
        obtain ⟨v, hv, rv⟩ := r.get q
        refine ⟨v, ?_, rv⟩
        unfold L2.start
        rw [List.getElem?_append_left (by rw [List.length_map, hl]; exact hi), List.getElem?_map, hv]
        rfl
    · rw [List.getElem?_append_right (by rw [List.length_map]; omega), List.getElem?_replicate] at e
      split at e <;> cases e
section
variable {P : Program} {w : World} {K : PySem.W.Frag} {mg : Str → Option Value} {base : Heap} {x qual : Str} {params : Arguments} {body : List Stmt} {scope : Scope} {f : Addr} {fd : FuncData} {N ps : List Str} {k : Nat} {S : List PyData → MD} {m : MS}
/-- a def keeps its promise by its body's reading -/
theorem fn_okG (F : FunD K x qual params body scope [] [] f fd) (sc : FnScope N ps scope) (len : ∀ ds P, S ds P → ds.length = ps.length) (mono : ∀ ds P P', (∀ d, P d → P' d) → S ds P → S ds P')
    (hb : ∀ (cdv : Value) (A : Around) (outer : List Env) (s : Shared) (H : Hp), Room k (A.deeper (envOfC qual scope s.heap.objs.size f cdv)) → (A.deeper (envOfC qual scope s.heap.objs.size f cdv)).guards = some [] →
      DSs (cxOf CX0 P w K mg base N qual scope f cdv A outer s H E0).nox body m)
    (sem : ∀ ds P, S ds P → m (startD N ds) (fun _ => P .none) P) : FnG P w K mg base (k + 1) f fd ps S := by
  obtain ⟨oc, od, dV, kV, doc, pm, an, cdv, ct, osl, rfl, lk, hcd, _, _⟩ := F.ex
  refine ⟨len, mono, fun A outer s H args us vs Q hr hgd e0 hbt r hsp => ?_⟩
  obtain ⟨wa, ds, wl, ra, hS⟩ := hsp
  have hl : vs.length = ps.length := ra.len.trans (len _ _ hS)
  have keepB : ∀ b o, base.get? b = some o → s.heap.get? b = some o := fun b o e => (e0.bs b o e).1
  have KX : K.In s.heap := e0.mod.kin.keeps keepB
  refine codeAny_call_function hr.depth (KX _ _ lk) rfl sc.co sc.gen rfl (PySem.W.codeRec_of KX hcd) (hbt _ _ _ _ ?_)
  refine wpAny_newFunctionEnv_cells sc.kind ?_ fun env he s1 z => ?_
  · rintro ⟨n, v⟩ hy
    rcases sc.par n (List.of_mem_zip hy).1 with q | q
    · exact .inl q
    · exact .inr ⟨q, PySem.W.cellsFrom_some _ _ _ (.inl q)⟩
  · subst he
    refine ⟨(e0.mod.nolimit.keeps keepB).keeps z.toInCall.keep, codeAny_func ?_⟩
    have I : Inv (cxOf CX0 P w K mg base N qual scope f cdv A outer s H E0) [] (L2.start N vs) H s1 := inv_start sc hr.hd e0 hl r z
    have D := hb cdv A outer s H (hr.deeper _) hgd
    refine wpAny_mono ((PSs.nox D.ps).run [] s1 (L2.start N vs) H { nx := fun _ H' => Q .non H', rt := Q } I ⟨wa, _, wl, start_rp ra, D.mono _ _ _ _ _ (fun _ h σ' H' g w' _ => h .non H' g w' .non) (fun _ h => h) (sem ds _ hS)⟩) (fun fl s' hs => ?_) fun e s' hs => hs
    have fin : ∀ {σ' : L2.St} {H' : Hp} {v : V} {u : Value}, Inv (cxOf CX0 P w K mg base N qual scope f cdv A outer s H E0) [] σ' H' s' → RelV v u → Q v H' → CE outer P w H s Q u s' :=
      fun {σ' H' v u} J rv q => ⟨v, H', J.os, J.bare, J.base, J.hok, rv, q⟩
    cases fl with
    | ret u =>
      obtain ⟨v, σ', H', J, rv, q⟩ := hs
      exact fin J rv q
    | next =>
      obtain ⟨σ', H', J, q⟩ := hs
      exact fin (v := V.non) (u := Value.none) J rfl q
    | brk =>
      obtain ⟨_, _, _, q⟩ := hs
      exact False.elim q
    | cont =>
      obtain ⟨_, _, _, q⟩ := hs
      exact False.elim q
end
end GD
end

section
set_option Elab.async false
set_option linter.all false
set_option maxRecDepth 100000
/-! GI: statements, loops, comprehensions. -/
namespace GD
open PySem PySem.Spec PyProof.Rows L2

/-! ### a list that is set apart -/
def Wl.hid (wa : Wl) (D : Addr) : Wl := ⟨wa.a, D :: wa.ex⟩
mutual
theorem Rp.hide {K : PySem.W.Frag} {wa : Wl} {H : Hp} {D : Addr} (n : H D = none) : ∀ {v : V} {d : PyData}, Rp K wa H v d → Rp K (wa.hid D) H v d
  | _, _, .non => .non
  | _, _, .bl b => .bl b
  | _, _, .int i => .int i
  | _, _, .str x => .str x
  | _, _, .tup h t => .tup h (RpA.hide n t)
  | _, _, .lst q h t => .lst ⟨q.1, fun hm => (List.mem_cons.mp hm).elim (fun z => ne_of_none h n z) q.2⟩ h (RpA.hide n t)
  | _, _, .well => .well
theorem RpA.hide {K : PySem.W.Frag} {wa : Wl} {H : Hp} {D : Addr} (n : H D = none) : ∀ {vs : List V} {ds : List PyData}, RpA K wa H vs ds → RpA K (wa.hid D) H vs ds
  | _, _, .nil => .nil
  | _, _, .cons h t => .cons (Rp.hide n h) (RpA.hide n t)
end
mutual
theorem Rp.unhide {K : PySem.W.Frag} {wa : Wl} {H : Hp} {D : Addr} : ∀ {v : V} {d : PyData}, Rp K (wa.hid D) H v d → Rp K wa H v d
  | _, _, .non => .non
  | _, _, .bl b => .bl b
  | _, _, .int i => .int i
  | _, _, .str x => .str x
  | _, _, .tup h t => .tup h (RpA.unhide t)
  | _, _, .lst q h t => .lst ⟨q.1, fun hm => q.2 (List.mem_cons_of_mem _ hm)⟩ h (RpA.unhide t)
  | _, _, .well => .well
theorem RpA.unhide {K : PySem.W.Frag} {wa : Wl} {H : Hp} {D : Addr} : ∀ {vs : List V} {ds : List PyData}, RpA K (wa.hid D) H vs ds → RpA K wa H vs ds
  | _, _, .nil => .nil
  | _, _, .cons h t => .cons (Rp.unhide h) (RpA.unhide t)
end
theorem sqT_set {K : PySem.W.Frag} {H : Hp} {D a : Addr} {ys : List V} {o : HO} {xs : List V} (hD : H D = some (.lst ys)) (h : SqT K H a xs) : SqT K (upd H D o) a xs := by
  rcases h with (h | ⟨u, h⟩) | h
  · exact .inl (.inl (by rw [upd_ne (ne_of h hD (by intro z; cases z))]; exact h))
  · exact .inl (.inr ⟨u, by rw [upd_ne (ne_of h hD (by intro z; cases z))]; exact h⟩)
  · exact .inr h
mutual
theorem Rp.set {K : PySem.W.Frag} {wa : Wl} {H : Hp} {D : Addr} {ys : List V} {o : HO} (hD : H D = some (.lst ys)) : ∀ {v : V} {d : PyData}, Rp K (wa.hid D) H v d → Rp K (wa.hid D) (upd H D o) v d
  | _, _, .non => .non
  | _, _, .bl b => .bl b
  | _, _, .int i => .int i
  | _, _, .str x => .str x
  | _, _, .tup h t => .tup (sqT_set hD h) (RpA.set hD t)
  | _, _, .lst q h t => .lst q (by rw [upd_ne fun z => q.2 (by rw [z]; exact List.mem_cons_self)]; exact h) (RpA.set hD t)
  | _, _, .well => .well
theorem RpA.set {K : PySem.W.Frag} {wa : Wl} {H : Hp} {D : Addr} {ys : List V} {o : HO} (hD : H D = some (.lst ys)) : ∀ {vs : List V} {ds : List PyData}, RpA K (wa.hid D) H vs ds → RpA K (wa.hid D) (upd H D o) vs ds
  | _, _, .nil => .nil
  | _, _, .cons h t => .cons (Rp.set hD h) (RpA.set hD t)
end
section
variable {K : PySem.W.Frag} {wa : Wl} {H : Hp} {D : Addr} {σ : L2.St} {en : En}
theorem RpS.hide (n : H D = none) (r : RpS K wa H σ en) : RpS K (wa.hid D) H σ en := ⟨r.len, fun i d e => let ⟨v, h, p⟩ := r.at_ i d e; ⟨v, h, p.hide n⟩⟩
theorem RpS.set_ {ys : List V} {o : HO} (hD : H D = some (.lst ys)) (r : RpS K (wa.hid D) H σ en) : RpS K (wa.hid D) (upd H D o) σ en := ⟨r.len, fun i d e => let ⟨v, h, p⟩ := r.at_ i d e; ⟨v, h, p.set hD⟩⟩
theorem WellAt.hide {o : HO} (w : WellAt wa H) (n : H D = none) : WellAt (wa.hid D) (upd H D o) := by
  have w2 := w.laid (o := o) n
  refine ⟨w2.1, fun e he => ?_⟩
  rcases List.mem_cons.mp he with z | z
  · subst z
    exact ⟨_, upd_same⟩
  · exact w2.2 e z
theorem WellAt.unhide (w : WellAt (wa.hid D) H) : WellAt wa H := ⟨w.1, fun e he => w.2 e (List.mem_cons_of_mem _ he)⟩
theorem WellAt.set_ {ys : List V} {o : HO} (w : WellAt (wa.hid D) H) (ne : D ≠ wa.a) (hD : H D = some (.lst ys)) : WellAt (wa.hid D) (upd H D o) := by
  obtain ⟨⟨a, b, c, d, e⟩, k⟩ := w
  refine ⟨⟨a, b, c, d, Eq.trans (upd_ne (Ne.symm ne)) e⟩, fun q hq => ?_⟩
  obtain ⟨u, hu⟩ := k q hq
  by_cases z : q = D
  · subst z
    exact ⟨_, upd_same⟩
  · exact ⟨u, by rw [upd_ne z]; exact hu⟩
end

/-! ### blocks -/
def dNext : MS := fun en N _ => N en
def dSeq (a b : MS) : MS := fun en N R => a en (fun en' => b en' N R) R
def dRet (m : ME) : MS := fun en _ R => m en R
def dDrop (m : ME) : MS := fun en N _ => m en fun _ => N en
def dIfS (t : MT) (a b : MS) : MS := fun en N R => t en fun c => cho c (a en N R) (b en N R)
def dNever : MS := fun _ _ _ => False
section
variable {X : Cx} {st : Stmt} {rest : List Stmt} {a b : MS} {e : Expr} {m : ME} {t : MT} {pos : Pos}
theorem seq_mono (ha : ∀ en N N' R R', (∀ d, N d → N' d) → (∀ d, R d → R' d) → a en N R → a en N' R') (hb : ∀ en N N' R R', (∀ d, N d → N' d) → (∀ d, R d → R' d) → b en N R → b en N' R') :
    ∀ en N N' R R', (∀ d, N d → N' d) → (∀ d, R d → R' d) → dSeq a b en N R → dSeq a b en N' R' := fun en N N' R R' hn hr => ha _ _ _ _ _ (fun e => hb _ _ _ _ _ hn hr) hr
theorem dss_nil : DSs X [] dNext := ⟨pss_nil.wk fun D σ H ⟨wa, en, w, s, h⟩ => h σ H Gr.refl w s, fun en N N' R R' hn hr => hn _⟩
theorem dss_one (h : DS X st a) : DSs X [st] a := ⟨pss_one h.ps, h.mono⟩
theorem dss_cons (h1 : DS X st a) (h2 : DSs X rest b) : DSs X (st :: rest) (dSeq a b) := by
  refine ⟨(pss_cons h1.ps h2.ps).wk fun D σ H ⟨wa, en, w, s, h⟩ => runS h1.mono w s h (fun en' σ' H1 h g w1 s1 => ?_) fun d v H1 h g w1 r => h v H1 g w1 r, seq_mono h1.mono h2.mono⟩
  exact ⟨wa, en', w1, s1, h2.mono _ _ _ _ _ (fun e k σ2 H2 g2 => k σ2 H2 (g.trans g2)) (fun d k => k.up g) h⟩
theorem ds_ret (h : DE X e m) : DS X (.Return (some e) pos) (dRet m) := ⟨(ps_ret h.pe).wk fun D σ H ⟨wa, en, w, s, q⟩ => ⟨wa, en, w, s, q⟩, fun en N N' R R' hn hr => h.mono _ _ _ hr⟩
theorem ds_expr (h : DE X e m) (hs : swapsWith e none pos.line X.env = pure false := by rfl) : DS X (.Expr e pos) (dDrop m) :=
  ⟨(ps_expr h.pe hs).wk fun D σ H ⟨wa, en, w, s, q⟩ => runE h.mono w s q fun d v H1 k g w1 r => k σ H1 g w1 (s.mono w g), fun en N N' R R' hn hr => h.mono _ _ _ fun _ => hn _⟩
theorem ds_if {c : Expr} {A B : List Stmt} (hc : DT X c t) (ha : DSs X A a) (hb : DSs X B b) : DS X (.If c A B pos) (dIfS t a b) := by
  refine ⟨(ps_if hc.pt ha.ps hb.ps).wk fun D σ H ⟨wa, en, w, s, h⟩ => runT hc.mono w s h fun c H1 h g w1 => ?_, fun en N N' R R' hn hr => hc.mono _ _ _ fun c => cho_mono (ha.mono _ _ _ _ _ hn hr) (hb.mono _ _ _ _ _ hn hr)⟩
  cases c with
  | true => rw [if_pos rfl]; exact ⟨wa, en, w1, s.mono w g, ha.mono _ _ _ _ _ (fun e k σ2 H2 g2 => k σ2 H2 (g.trans g2)) (fun d k => k.up g) h⟩
  | false => rw [if_neg Bool.false_ne_true]; exact ⟨wa, en, w1, s.mono w g, hb.mono _ _ _ _ _ (fun e k σ2 H2 g2 => k σ2 H2 (g.trans g2)) (fun d k => k.up g) h⟩
theorem ds_never : DS X st dNever := ⟨ps_never.wk fun D σ H ⟨wa, en, w, s, h⟩ => h, fun _ _ _ _ _ _ _ h => h⟩
end

/-! ### targets -/
abbrev MG := PyData → En → (En → Prop) → Prop
abbrev MGs := List PyData → En → (En → Prop) → Prop
def tDG (K : PySem.W.Frag) (g : MG) : TG := fun v σ H Q => ∃ wa d en, WellAt wa H ∧ RpS K wa H σ en ∧ Rp K wa H v d ∧ g d en fun en' => ∀ σ', RpS K wa H σ' en' → Q σ' H
def tDGs (K : PySem.W.Frag) (g : MGs) : TGs := fun vs σ H Q => ∃ wa ds en, WellAt wa H ∧ RpS K wa H σ en ∧ RpA K wa H vs ds ∧ g ds en fun en' => ∀ σ', RpS K wa H σ' en' → Q σ' H
structure DG (X : Cx) (tg : Expr) (g : MG) : Prop where
  pg : PG X tg (tDG X.K g)
  mono : ∀ d en P P', (∀ d, P d → P' d) → g d en P → g d en P'
structure DGs (X : Cx) (tgs : List Expr) (g : MGs) : Prop where
  pg : PGs X tgs (tDGs X.K g)
  mono : ∀ d en P P', (∀ d, P d → P' d) → g d en P → g d en P'
def gdName (i : Nat) : MG := fun d en P => P (en.set i (some d))
def gdNil : MGs := fun ds en P => match ds with
  | [] => P en
  | _ => False
def gdCons (g : MG) (gs : MGs) : MGs := fun ds en P => match ds with
  | d :: r => g d en fun en' => gs r en' P
  | _ => False
def gdTup (n : Nat) (gs : MGs) : MG := fun d en P => match d with
  | .tuple xs => xs.length = n ∧ gs xs en P
  | .list xs => xs.length = n ∧ gs xs en P
  | _ => False
section
variable {X : Cx} {pos : Pos}
theorem PG.wk {e : Expr} {t t' : TG} (h : PG X e t) (k : ∀ v σ H Q, t' v σ H Q → t v σ H Q) : PG X e t' := ⟨fun pins s σ H v u Q I r q => h.run pins s σ H v u Q I r (k v σ H Q q)⟩
theorem PGs.wk {e : List Expr} {t t' : TGs} (h : PGs X e t) (k : ∀ v σ H Q, t' v σ H Q → t v σ H Q) : PGs X e t' := ⟨fun pins s σ H v u Q I r q => h.run pins s σ H v u Q I r (k v σ H Q q)⟩
theorem dg_name {i : Nat} {x : Str} (h : PG X (.Name x pos) (gName i)) : DG X (.Name x pos) (gdName i) :=
  ⟨PG.wk h fun v σ H Q ⟨wa, d, en, w, s, r, q⟩ => q _ (s.set i r), fun d en P P' k => k _⟩
theorem dgs_nil : DGs X [] gdNil := by
  refine ⟨PGs.wk pgs_nil fun vs σ H Q ⟨wa, ds, en, w, s, r, q⟩ => ?_, fun ds en P P' k h => ?_⟩
  · cases ds with
    | nil =>
      cases r
      exact ⟨rfl, q σ s⟩
    | cons _ _ => exact q.elim
  · cases ds with
    | nil => exact k _ h
    | cons _ _ => exact h.elim
theorem dgs_cons {e : Expr} {es : List Expr} {g : MG} {gs : MGs} (h1 : DG X e g) (h2 : DGs X es gs) (hs : (assignEach (e :: es) X.env).map (·.2) = assign e X.env :: (assignEach es X.env).map (·.2) := by rfl) : DGs X (e :: es) (gdCons g gs) := by
  refine ⟨PGs.wk (pgs_cons h1.pg h2.pg hs) fun vs σ H Q ⟨wa, ds, en, w, s, r, q⟩ => ?_, fun ds en P P' k h => ?_⟩
  · cases ds with
    | nil => exact q.elim
    | cons d ds =>
      cases r with
      | cons r1 r2 => exact ⟨_, _, rfl, wa, d, en, w, s, r1, h1.mono _ _ _ _ (fun en' k σ' s' => ⟨wa, ds, en', w, s', r2, k⟩) q⟩
  · cases ds with
    | nil => exact h.elim
    | cons d ds => exact h1.mono _ _ _ _ (fun en' => h2.mono _ _ _ _ k) h
theorem pg_2 {e : Expr} {t t' : TG} (h : PG X e t) (k : PG X e t') : PG X e (fun v σ H Q => t v σ H Q ∨ t' v σ H Q) := ⟨fun pins s σ H v u Q I r q => by
  rcases q with q | q
  · exact h.run pins s σ H v u Q I r q
  · exact k.run pins s σ H v u Q I r q⟩
theorem dg_tup {es : List Expr} {k n : Nat} {gs : MGs} (hc : X.calm = true) (h : DGs X es gs) (hn : (assignEach es X.env).length = n := by rfl) (hst : (assignEach es X.env).findIdx? (·.1) = none := by rfl) : DG X (.Tuple es k pos) (gdTup n gs) := by
  refine ⟨PG.wk (pg_2 (pg_tup hc h.pg hn hst) (pg_unl hc h.pg hn hst)) fun v σ H Q ⟨wa, d, en, w, s, r, q⟩ => ?_, fun d en P P' k h2 => ?_⟩
  · cases d with
    | tuple xs =>
      obtain ⟨a, vs, rfl, hq, ra⟩ := r.inv_tup
      exact .inl ⟨a, vs, rfl, hq, ra.len.trans q.1, wa, xs, en, w, s, ra, q.2⟩
    | list xs =>
      obtain ⟨a, vs, rfl, _, hq, ra⟩ := r.inv_lst
      exact .inr ⟨a, vs, rfl, .inl (.inl hq), ra.len.trans q.1, wa, xs, en, w, s, ra, q.2⟩
    | _ => exact (show False from q).elim
  · cases d with
    | tuple xs => exact ⟨h2.1, h.mono _ _ _ _ k h2.2⟩
    | list xs => exact ⟨h2.1, h.mono _ _ _ _ k h2.2⟩
    | _ => exact (show False from h2).elim
end
def dAsg (m : ME) (g : MG) : MS := fun en N _ => m en fun d => g d en N
def dPar (i j : Nat) (ma : MA) : MS := fun en N _ => ma en fun ds => match ds with
  | [a, b] => N ((en.set i (some a)).set j (some b))
  | _ => False
def dPar3 (i j l : Nat) (ma : MA) : MS := fun en N _ => ma en fun ds => match ds with
  | [a, b, c] => N (((en.set i (some a)).set j (some b)).set l (some c))
  | _ => False
section
variable {X : Cx} {pos : Pos} {e tg : Expr} {m : ME} {g : MG} {ma : MA}
theorem asg_run (he : DE X e m) (hg : ∀ d en P P', (∀ d, P d → P' d) → g d en P → g d en P') : ∀ D σ H, tDS X.K (dAsg m g) D σ H → tD X.K m σ H fun x H1 => tDG X.K g x σ H1 D.nx := by
  rintro D σ H ⟨wa, en, w, s, h⟩
  refine runE he.mono w s h fun d v H1 k gr w1 r => ⟨wa, d, en, w1, s.mono w gr, r, hg _ _ _ _ (fun en' q σ' s' => q σ' H1 gr w1 s') k⟩
theorem asg_mono (he : DE X e m) (hg : ∀ d en P P', (∀ d, P d → P' d) → g d en P → g d en P') : ∀ en N N' R R', (∀ d, N d → N' d) → (∀ d, R d → R' d) → dAsg m g en N R → dAsg m g en N' R' := fun en N N' R R' hn hr => he.mono _ _ _ fun d => hg _ _ _ _ hn
theorem ds_asg (he : DE X e m) (hg : DG X tg g) (hs : swapsWithSole [tg] e pos.line X.env = pure false := by rfl) (hw : swappedStores [tg] e X.env = pure none := by rfl) (h1 : (assignEach [tg] X.env).map (·.2) = [assign tg X.env] := by rfl) : DS X (.Assign [tg] e pos) (dAsg m g) :=
  ⟨(ps_asg he.pe hg.pg hs hw h1).wk (asg_run he hg.mono), asg_mono he hg.mono⟩
theorem ds_set {i : Nat} {x : Str} {pos' : Pos} (hN : X.N.Nodup) (hi : X.N[i]? = some x) (hx : Loc X.env.scope x) (he : DE X e m) (hs : swapsWith e (some (.Name x pos')) pos.line X.env = pure false := by rfl) (hf : X.fn x = true ∨ X.env.scope.names.lookup x = some .local := by first | exact .inl rfl | exact .inr rfl | assumption) :
    DS X (.Assign [.Name x pos'] e pos) (dAsg m (gdName i)) := by
  have hg : ∀ d en (P P' : En → Prop), (∀ d, P d → P' d) → gdName i d en P → gdName i d en P' := fun d en P P' k => k _
  refine ⟨(ps_set hN hi hx he.pe hs hf).wk fun D σ H ⟨wa, en, w, s, h⟩ => runE he.mono w s h fun d v H1 k gr w1 r => ?_, asg_mono he hg⟩
  exact (show ∀ σ' H', Gr wa H H' → WellAt wa H' → RpS X.K wa H' σ' (en.set i (some d)) → D.nx σ' H' from k) _ H1 gr w1 ((s.mono w gr).set i r)
theorem ds_par {i j : Nat} {x y : Str} {a b : Expr} {px py pt : Pos} {kt k2 pt2} (hc : X.calm = true) (hN : X.N.Nodup) (hi : X.N[i]? = some x) (hj : X.N[j]? = some y) (hij : i ≠ j)
    (hx : X.env.scope.names.lookup x = some .local) (hy : X.env.scope.names.lookup y = some .local) (ha : DA X [a, b] ma)
    (hw : swappedStores [.Tuple [.Name x px, .Name y py] kt pt] (.Tuple [a, b] k2 pt2) X.env = pure (some [x, y]) := by rfl)
    (hs : swapsWithSole [.Tuple [.Name x px, .Name y py] kt pt] (.Tuple [a, b] k2 pt2) pos.line X.env = pure false := by rfl) :
    DS X (.Assign [.Tuple [.Name x px, .Name y py] kt pt] (.Tuple [a, b] k2 pt2) pos) (dPar i j ma) := by
  refine ⟨(ps_par hc hN hi hj hij hx hy ha.pa hw hs).wk fun D σ H ⟨wa, en, w, s, h⟩ => runA ha.mono w s h fun ds vs H1 k gr w1 r => ?_, fun en N N' R R' hn hr => ha.mono _ _ _ fun ds k => ?_⟩
  · match ds, r, k with
    | [a, b], .cons r1 (.cons r2 .nil), k => exact ⟨_, _, rfl, k _ H1 gr w1 (((s.mono w gr).set i r1).set j r2)⟩
  · match ds, k with
    | [a, b], k => exact hn _ k
theorem ds_par3 {i j l : Nat} {x y z : Str} {a b c : Expr} {px py pz pt : Pos} {kt k2 pt2} (hc : X.calm = true) (hN : X.N.Nodup) (hi : X.N[i]? = some x) (hj : X.N[j]? = some y) (hl : X.N[l]? = some z) (hij : i ≠ j) (hil : i ≠ l) (hjl : j ≠ l)
    (hx : X.env.scope.names.lookup x = some .local) (hy : X.env.scope.names.lookup y = some .local) (hz : X.env.scope.names.lookup z = some .local) (ha : DA X [a, b, c] ma)
    (hw : swappedStores [.Tuple [.Name x px, .Name y py, .Name z pz] kt pt] (.Tuple [a, b, c] k2 pt2) X.env = pure (some [x, y, z]) := by rfl)
    (hs : swapsWithSole [.Tuple [.Name x px, .Name y py, .Name z pz] kt pt] (.Tuple [a, b, c] k2 pt2) pos.line X.env = pure false := by rfl) :
    DS X (.Assign [.Tuple [.Name x px, .Name y py, .Name z pz] kt pt] (.Tuple [a, b, c] k2 pt2) pos) (dPar3 i j l ma) := by
  refine ⟨(ps_par3 hc hN hi hj hl hij hil hjl hx hy hz ha.pa hw hs).wk fun D σ H ⟨wa, en, w, s, h⟩ => runA ha.mono w s h fun ds vs H1 k gr w1 r => ?_, fun en N N' R R' hn hr => ha.mono _ _ _ fun ds k => ?_⟩
  · match ds, r, k with
    | [a, b, c], .cons r1 (.cons r2 (.cons r3 .nil)), k => exact ⟨_, _, _, rfl, k _ H1 gr w1 ((((s.mono w gr).set i r1).set j r2).set l r3)⟩
  · match ds, k with
    | [a, b, c], k => exact hn _ k
end

/-! ### for -/
def loopD (i : Nat) (body : MS) : List PyData → MS
  | [] => fun en N _ => N en
  | x :: xs => fun en N R => body (en.set i (some x)) (fun en' => loopD i body xs en' N R) R
theorem loopD_mono {i : Nat} {body : MS} (hb : ∀ en N N' R R', (∀ d, N d → N' d) → (∀ d, R d → R' d) → body en N R → body en N' R') : ∀ (xs : List PyData) en N N' R R', (∀ d, N d → N' d) → (∀ d, R d → R' d) → loopD i body xs en N R → loopD i body xs en N' R'
  | [], _, _, _, _, _, hn, _, h => hn _ h
  | _ :: xs, _, _, _, _, _, hn, hr, h => hb _ _ _ _ _ (fun _ k => loopD_mono hb xs _ _ _ _ _ hn hr k) hr h
def rangeD (n : Int) : List PyData := (List.range n.toNat).map fun i => .int (Int.ofNat i)
/-- for x in range(n) -/
def dForR (i : Nat) (ma : MA) (body : MS) : MS := fun en N R => ma en fun ds => match ds with
  | [.int n] => (-(2 ^ 62) ≤ n ∧ n < 2 ^ 62) ∧ loopD i body (rangeD n) en N R
  | _ => False
/-- for x in a tuple -/
def dForT (i : Nat) (m : ME) (body : MS) : MS := fun en N R => m en fun d => match d with
  | .tuple xs => loopD i body xs en N R
  | _ => False
section
variable {X : Cx} {pos : Pos} {a : Expr} {ma : MA} {me : ME} {body : List Stmt} {mb : MS} {i : Nat} {x : Str}
/-- the state of such a loop at its j-th turn -/
def LoopAt (K : PySem.W.Frag) (wa : Wl) (H0 : Hp) (D : Ends) (i : Nat) (mb : MS) (xs : List PyData) (j : Nat) (σ : L2.St) (H : Hp) : Prop :=
  ∃ en, Gr wa H0 H ∧ WellAt wa H ∧ RpS K wa H σ en ∧ loopD i mb (xs.drop j) en (fun en' => ∀ σ' H', Gr wa H H' → WellAt wa H' → RpS K wa H' σ' en' → D.nx σ' H') (Af K wa H D.rt)
theorem loop_turn {wa : Wl} {H0 : Hp} {D : Ends} {xs : List PyData} {j : Nat} {σ : L2.St} {H : Hp} {v : V} {d : PyData} (hb : DSs X body mb) (hx : xs[j]? = some d) (rv : Rp X.K wa H v d) (h : LoopAt X.K wa H0 D i mb xs j σ H) :
    tDS X.K mb { D with nx := LoopAt X.K wa H0 D i mb xs (j + 1), ct := LoopAt X.K wa H0 D i mb xs (j + 1), bk := D.nx } (σ.set i (some v)) H := by
  obtain ⟨en, g, w, s, q⟩ := h
  have e : xs.drop j = d :: xs.drop (j + 1) := by
    obtain ⟨hl, hd⟩ := List.getElem?_eq_some_iff.mp hx
    rw [List.drop_eq_getElem_cons hl, hd]
  rw [e] at q
  refine runS hb.mono w (s.set i rv) q (fun en' σ' H1 k g1 w1 s1 => ?_) fun d v H1 k g1 w1 r => k v H1 g1 w1 r
  exact ⟨en', g.trans g1, w1, s1, loopD_mono hb.mono _ _ _ _ _ _ (fun e k σ2 H2 g2 => k σ2 H2 (g1.trans g2)) (fun d k => k.up g1) k⟩
theorem loop_end {wa : Wl} {H0 : Hp} {D : Ends} {xs : List PyData} {σ : L2.St} {H : Hp} (h : LoopAt X.K wa H0 D i mb xs xs.length σ H) : D.nx σ H := by
  obtain ⟨en, g, w, s, q⟩ := h
  rw [List.drop_length] at q
  exact q σ H Gr.refl w s
theorem ds_forR {p tp : Pos} (hp : PassesOwn (model X.prog X.w) X.A X.env X.xe) (hc : X.calm = true) (hm : X.mg "range" = none) (ha : DA X [a] ma) (hg : PG X (.Name x tp) (gName i)) (hb : DSs X body mb) (hgl : Gl X "range" := by rfl)
    (hs : starEach [a] X.env = [(false, eval a X.env)] := by rfl) (hf : ∀ z, foldedSetIterable (.Call (.Name "range" p) [a] [] pos) X.env z = pure z := by intro _; rfl) : DS X (.For (.Name x tp) (.Call (.Name "range" p) [a] [] pos) body [] pos') (dForR i ma mb) := by
  refine ⟨(ps_for hp hc (pi_range1 hgl hm ha.pa hs) hg hb.ps hf).wk fun D σ H ⟨wa, en, w, s, h⟩ => runA ha.mono w s h fun ds vs H1 k g w1 r => ?_, fun en N N' R R' hn hr => ha.mono _ _ _ fun ds k => ?_⟩
  · match ds, r, k with
    | [.int n], .cons r1 .nil, ⟨hn, k⟩ =>
      cases r1.inv_int
      refine ⟨n, rfl, hn.1, hn.2, for_range (n := n.toNat) (LoopAt X.K wa H1 D i mb (rangeD n)) ⟨en, Gr.refl, w1, s.mono w g, loopD_mono hb.mono _ _ _ _ _ _ (fun e k σ2 H2 g2 => k σ2 H2 (g.trans g2)) (fun d k => k.up g) k⟩ (fun j σ2 H2 hj hL => ?_) fun σ2 H2 hL => ?_⟩
      · have ex : (rangeD n)[j]? = some (.int (Int.ofNat j)) := by
          unfold rangeD
          rw [List.getElem?_map, List.getElem?_range hj]
          rfl
        have e : (0 : Int) + (j : Int) = Int.ofNat j := by simp
        rw [e]
        exact loop_turn hb ex (.int _) hL
      · refine loop_end (X := X) (wa := wa) (H0 := H1) (i := i) (mb := mb) (xs := rangeD n) ?_
        have e : (rangeD n).length = n.toNat := by
          unfold rangeD
          rw [List.length_map, List.length_range]
        rw [e]
        exact hL
  · match ds, k with
    | [.int n], ⟨h1, k⟩ => exact ⟨h1, loopD_mono hb.mono _ _ _ _ _ _ hn hr k⟩
theorem ds_forT {tp pos' : Pos} (hp : PassesOwn (model X.prog X.w) X.A X.env X.xe) (hc : X.calm = true) (ha : DE X a me) (hg : PG X (.Name x tp) (gName i)) (hb : DSs X body mb) (hf : ∀ z, foldedSetIterable a X.env z = pure z := by intro _; rfl) : DS X (.For (.Name x tp) a body [] pos') (dForT i me mb) := by
  have mono : ∀ en N N' R R', (∀ d, N d → N' d) → (∀ d, R d → R' d) → dForT i me mb en N R → dForT i me mb en N' R' := fun en N N' R R' hn hr =>
    ha.mono _ _ _ (kT_mono (k := fun xs => loopD i mb xs en N R) (k' := fun xs => loopD i mb xs en N' R') fun xs k => loopD_mono hb.mono _ _ _ _ _ _ hn hr k)
  refine ⟨(ps_for hp hc (pi_tup ha.pe) hg hb.ps hf).wk fun D σ H ⟨wa, en, w, s, h⟩ => runE ha.mono w s h fun d v H1 k g w1 r => ?_, mono⟩
  obtain ⟨xs, rfl, k⟩ := kT_i (k := fun xs => loopD i mb xs en _ _) k
  obtain ⟨t, vs, rfl, hq, ra⟩ := r.inv_tup
  refine ⟨t, rfl, ⟨vs, hq⟩, for_tup (K := X.K) (a := t) (xs := vs) (LoopAt X.K wa H1 D i mb xs) ⟨en, Gr.refl, w1, s.mono w g, loopD_mono hb.mono _ _ _ _ _ _ (fun e k σ2 H2 g2 => k σ2 H2 (g.trans g2)) (fun d k => k.up g) k⟩ (fun j σ2 H2 _ ⟨_, g2, w2, _, _⟩ => sqT_gr w1 g2 hq) (fun j y σ2 H2 hy hL => ?_) fun σ2 H2 hL => ?_⟩
  · have hl : j < xs.length := by
      have := (List.getElem?_eq_some_iff.mp hy).1
      rw [ra.len] at this
      exact this
    obtain ⟨_, g2, _, _, _⟩ := id hL
    obtain ⟨y', hy', ry⟩ := ra.get (List.getElem?_eq_getElem hl)
    rw [hy] at hy'
    cases hy'
    exact loop_turn hb (List.getElem?_eq_getElem hl) (ry.mono w1 g2) hL
  · refine loop_end (X := X) (wa := wa) (H0 := H1) (i := i) (mb := mb) (xs := xs) ?_
    rw [← ra.len]
    exact hL
end
end GD
end

section
set_option Elab.async false
set_option linter.all false
set_option maxRecDepth 100000
/-! GJ: list comprehensions over tuples, lists, two tuples zipped. -/
namespace GD
open PySem PySem.Spec PyProof.Rows L2

mutual
theorem Rp.newHid {K : PySem.W.Frag} {wa : Wl} {H : Hp} {D : Addr} {o : HO} (w : WellAt wa H) (n : H D = none) : ∀ {v : V} {d : PyData}, Rp K wa H v d → Rp K (wa.hid D) (upd H D o) v d
  | _, _, .non => .non
  | _, _, .bl b => .bl b
  | _, _, .int i => .int i
  | _, _, .str x => .str x
  | _, _, .tup h t => .tup (sqT_gr w (Gr.laid n) h) (RpA.newHid w n t)
  | _, _, .lst q h t => .lst ⟨q.1, fun hm => (List.mem_cons.mp hm).elim (fun z => ne_of_none h n z) q.2⟩ (by rw [upd_ne (ne_of_none h n)]; exact h) (RpA.newHid w n t)
  | _, _, .well => .well
theorem RpA.newHid {K : PySem.W.Frag} {wa : Wl} {H : Hp} {D : Addr} {o : HO} (w : WellAt wa H) (n : H D = none) : ∀ {vs : List V} {ds : List PyData}, RpA K wa H vs ds → RpA K (wa.hid D) (upd H D o) vs ds
  | _, _, .nil => .nil
  | _, _, .cons h t => .cons (Rp.newHid w n h) (RpA.newHid w n t)
end
structure DTs (X : Cx) (ifs : List Expr) (m : MT) : Prop where
  pts : PTs X ifs (tDT X.K m)
  mono : ∀ en P P', (∀ d, P d → P' d) → m en P → m en P'
def dtYes : MT := fun _ P => P true
theorem PTs.wk_ {X : Cx} {e : List Expr} {t t' : TT} (h : PTs X e t) (k : ∀ σ H Q, t' σ H Q → t σ H Q) : PTs X e t' := ⟨fun pins s σ H Q I q => h.run pins s σ H Q I (k σ H Q q)⟩
theorem dts_nil {X : Cx} : DTs X [] dtYes := ⟨PTs.wk_ pts_nil fun σ H Q ⟨wa, en, w, s, h⟩ => h H Gr.refl w, fun en P P' k => k _⟩
theorem dts_one {X : Cx} {c : Expr} {t : MT} (h : DT X c t) : DTs X [c] t := ⟨pts_one h.pt, h.mono⟩

def mapD (i : Nat) (tt : MT) (te : ME) : List PyData → En → (List PyData → Prop) → Prop
  | [], _, P => P []
  | x :: xs, en, P => tt (en.set i (some x)) fun b => cho b (te (en.set i (some x)) fun y => mapD i tt te xs en fun ys => P (y :: ys)) (mapD i tt te xs en P)
theorem mapD_mono {i : Nat} {tt : MT} {te : ME} (ht : ∀ en P P', (∀ d, P d → P' d) → tt en P → tt en P') (he : ∀ en P P', (∀ d, P d → P' d) → te en P → te en P') : ∀ (xs : List PyData) (en : En) (P P' : List PyData → Prop), (∀ d, P d → P' d) → mapD i tt te xs en P → mapD i tt te xs en P'
  | [], _, _, _, k, h => k _ h
  | _ :: xs, en, P, P', k, h => ht _ _ _ (fun b => cho_mono (he _ _ _ fun y => mapD_mono ht he xs en _ _ fun ys => k _) (mapD_mono ht he xs en _ _ k)) h
/-- the state of such a loop at its j-th turn: the new list stands at D -/
structure LcAt (K : PySem.W.Frag) (wa : Wl) (H1 : Hp) (D : Addr) (σ0 : L2.St) (en0 : En) (i : Nat) (tt : MT) (te : ME) (xs : List PyData) (Q : VK) (j : Nat) (H : Hp) : Prop where
  g : Gr wa H1 H
  w : WellAt (wa.hid D) H
  s : RpS K (wa.hid D) H σ0 en0
  ex : ∃ acc ds, H D = some (.lst acc) ∧ RpA K (wa.hid D) H acc ds ∧ acc.length ≤ j ∧ mapD i tt te (xs.drop j) en0 fun ys => xs.length ≤ 1000 ∧ Af K wa H1 Q (.list (ds ++ ys))
section
variable {X Y : Cx} {K : PySem.W.Frag} {wa : Wl} {H1 H : Hp} {D : Addr} {σ0 : L2.St} {en0 : En} {i j : Nat} {tt : MT} {te : ME} {xs : List PyData} {Q : VK} {d : PyData} {v : V} {elt : Expr} {ifs : List Expr}
theorem lc_start (n : H1 D = none) (w : WellAt wa H1) (s : RpS K wa H1 σ0 en0) (m : mapD i tt te xs en0 fun ys => xs.length ≤ 1000 ∧ Af K wa H1 Q (.list ys)) : LcAt K wa H1 D σ0 en0 i tt te xs Q 0 (upd H1 D (.lst [])) :=
  ⟨Gr.laid n, w.hide n, ⟨s.len, fun i d e => let ⟨v, h, p⟩ := s.at_ i d e; ⟨v, h, p.newHid w n⟩⟩, [], [], upd_same, .nil, Nat.le_refl _, m⟩
theorem lc_turn (w0 : WellAt wa H1) (n : H1 D = none) (ht : ∀ en P P', (∀ d, P d → P' d) → tt en P → tt en P') (he : ∀ en P P', (∀ d, P d → P' d) → te en P → te en P') (hx : xs[j]? = some d) (rv : Rp K (wa.hid D) H v d) (hj : j < 1000000) (h : LcAt K wa H1 D σ0 en0 i tt te xs Q j H) :
    tDT K tt (σ0.set i (some v)) H fun b H3 => if b = true then tD K te (σ0.set i (some v)) H3 fun y H4 => ∃ acc, H4 D = some (.lst acc) ∧ acc.length < sizeLine ∧ LcAt K wa H1 D σ0 en0 i tt te xs Q (j + 1) (upd H4 D (.lst (acc ++ [y]))) else LcAt K wa H1 D σ0 en0 i tt te xs Q (j + 1) H3 := by
  obtain ⟨g, w, s, acc, ds, hD, ra, hl, m⟩ := h
  have e : xs.drop j = d :: xs.drop (j + 1) := by
    obtain ⟨hl, hd⟩ := List.getElem?_eq_some_iff.mp hx
    rw [List.drop_eq_getElem_cons hl, hd]
  rw [e] at m
  have neW : D ≠ (wa.hid D).a := w0.ne n
  refine runT ht w (s.set i rv) m fun b H3 hb g3 w3 => ?_
  have hD3 := g3 _ _ neW hD
  cases b with
  | true =>
    rw [if_pos rfl]
    refine runE he w3 ((s.set i rv).mono w g3) hb fun y u H4 h4 g4 w4 r4 => ?_
    have hD4 := g4 _ _ neW hD3
    refine ⟨acc, hD4, by rw [sizeLine_eq]; omega, fun b o hb eo => ?_, w4.set_ neW hD4, ((s.mono w g3).mono w3 g4).set_ hD4, acc ++ [u], ds ++ [y], upd_same, ?_, ?_, ?_⟩
    · rw [upd_ne (ne_of_none eo n)]
      exact g4 _ _ hb (g3 _ _ hb (g _ _ hb eo))
    · exact ((((ra.mono w g3).mono w3 g4)).append (.cons r4 .nil)).set hD4
    · rw [List.length_append]
      exact Nat.succ_le_succ hl
    · refine mapD_mono ht he _ _ _ _ (fun ys k => ?_) h4
      rw [List.append_assoc]
      exact k
  | false =>
    rw [if_neg Bool.false_ne_true]
    exact ⟨g.trans g3, w3, s.mono w g3, acc, ds, hD3, ra.mono w g3, Nat.le_succ_of_le hl, hb⟩
theorem lc_done (w0 : WellAt wa H1) (n : H1 D = none) (h : LcAt K wa H1 D σ0 en0 i tt te xs Q xs.length H) : Q (.ref D) H := by
  obtain ⟨g, w, s, acc, ds, hD, ra, hl, m⟩ := h
  rw [List.drop_length] at m
  have m2 : xs.length ≤ 1000 ∧ Af K wa H1 Q (.list (ds ++ [])) := m
  rw [List.append_nil] at m2
  exact m2.2 _ H g w.unhide (.lst (w0.fresh n) hD ra.unhide)
end
/-- what is walked is a tuple, a list -/
def dLcT (i : Nat) (ma : ME) (tt : MT) (te : ME) : ME := fun en P => ma en fun d => match d with
  | .tuple xs => xs.length ≤ 1000 ∧ mapD i tt te xs (en.set i none) fun ys => xs.length ≤ 1000 ∧ P (.list ys)
  | _ => False
def dLcL (i : Nat) (ma : ME) (tt : MT) (te : ME) : ME := fun en P => ma en fun d => match d with
  | .list xs => xs.length ≤ 1000 ∧ mapD i tt te xs (en.set i none) fun ys => xs.length ≤ 1000 ∧ P (.list ys)
  | _ => False
def kL (k : List PyData → Prop) (d : PyData) : Prop := match d with
  | .list c => k c
  | _ => False
theorem kL_i {k : List PyData → Prop} : ∀ {d : PyData}, kL k d → ∃ c, d = .list c ∧ k c
  | .list c, h => ⟨c, rfl, h⟩
theorem kL_mono {k k' : List PyData → Prop} (h : ∀ c, k c → k' c) (d : PyData) (m : kL k d) : kL k' d := by
  obtain ⟨c, rfl, p⟩ := kL_i m
  exact h c p
section
variable {X : Cx} {elt iter : Expr} {ifs : List Expr} {scope : Scope} {pos tp : Pos} {x : Str} {i : Nat} {ma te : ME} {tt : MT}
abbrev kLc (i : Nat) (tt : MT) (te : ME) (en : En) (P : PyData → Prop) : List PyData → Prop := fun xs => xs.length ≤ 1000 ∧ mapD i tt te xs (en.set i none) fun ys => xs.length ≤ 1000 ∧ P (.list ys)
theorem kLc_mono (ht : ∀ en P P', (∀ d, P d → P' d) → tt en P → tt en P') (he : ∀ en P P', (∀ d, P d → P' d) → te en P → te en P') {en : En} {P P' : PyData → Prop} (k : ∀ d, P d → P' d) (xs : List PyData) (m : kLc i tt te en P xs) : kLc i tt te en P' xs :=
  ⟨m.1, mapD_mono ht he _ _ _ _ (fun ys q => ⟨q.1, k _ q.2⟩) m.2⟩
theorem wipe_one (σ : L2.St) (i : Nat) : wipe σ [i] = σ.set i none := rfl
theorem wipe_set (σ : L2.St) (i : Nat) (v : V) : wipe ((wipe σ [i]).set i (some v)) [i] = wipe σ [i] := by
  show ((σ.set i none).set i (some v)).set i none = σ.set i none
  rw [List.set_set, List.set_set]
theorem lcT_run (ha : DE X iter ma) (htm : ∀ en P P', (∀ d, P d → P' d) → tt en P → tt en P') (hem : ∀ en P P', (∀ d, P d → P' d) → te en P → te en P') : ∀ σ H Q, tD X.K (dLcT i ma tt te) σ H Q → tLc (iTup X.K (tD X.K ma)) (gName i) (tDT X.K tt) (tD X.K te) [i] σ H Q := by
  rintro σ H Q ⟨wa, en, w, s, m⟩
  refine runE ha.mono w s m fun d v H1 k g w1 r => ?_
  obtain ⟨xs, rfl, hlen, k⟩ := kT_i (k := kLc i tt te en (Af X.K wa H Q)) k
  obtain ⟨t, vs, rfl, hq, ra⟩ := r.inv_tup
  refine ⟨t, rfl, ⟨vs, hq⟩, fun D nD => lc_tup (K := X.K) (a := t) (xs := vs) (fun j H => LcAt X.K wa H1 D (wipe σ [i]) (en.set i none) i tt te xs Q j H) (lc_start nD w1 ((s.mono w g).clear i) (mapD_mono htm hem _ _ _ _ (fun ys q => ⟨q.1, q.2.up g⟩) k)) (fun j H2 _ hL => sqT_gr w1 hL.g hq) (fun j y H2 hy hL => ?_) fun H2 hL => ?_⟩
  · have hl : j < xs.length := by
      have := (List.getElem?_eq_some_iff.mp hy).1
      rw [ra.len] at this
      exact this
    obtain ⟨y', hy', ry⟩ := ra.get (List.getElem?_eq_getElem hl)
    rw [hy] at hy'
    cases hy'
    exact ⟨wipe_set σ i y, lc_turn w1 nD htm hem (List.getElem?_eq_getElem hl) (Rp.mono0 (wa := wa.hid D) w1.1 hL.g (ry.hide nD)) (by omega) hL⟩
  · rw [ra.len] at hL
    exact lc_done w1 nD hL
theorem de_lcT (hc : X.calm = true) (hN : X.N.Nodup) (ha : DE X iter ma) (ok : BlkOk X.N X.env.scope scope [(x, i)])
    (hg : ∀ (s : Shared) (H : Hp) (C : Addr) (cl : List (Str × Addr)) (fp : List Addr), PG (X.blk s H scope (compEnvC scope cl C X.env) fp) (.Name x tp) (gName i))
    (ht : ∀ (s : Shared) (H : Hp) (C : Addr) (cl : List (Str × Addr)) (fp : List Addr), DTs (X.blk s H scope (compEnvC scope cl C X.env) fp) ifs tt)
    (he : ∀ (s : Shared) (H : Hp) (C : Addr) (cl : List (Str × Addr)) (fp : List Addr), DE (X.blk s H scope (compEnvC scope cl C X.env) fp) elt te) (s0 : Shared)
    (hs : ∀ z, foldedSetIterable iter X.env z = pure z := by intro _; rfl) : DE X (.ListComp elt [⟨.Name x tp, iter, ifs, 0⟩] scope pos) (dLcT i ma tt te) := by
  have htm := (ht s0 (fun _ => none) 0 [] []).mono
  have hem := (he s0 (fun _ => none) 0 [] []).mono
  refine ⟨(pe_lc (tt := tDT X.K tt) (te := tD X.K te) hc hN (pi_tup ha.pe) ok hg (fun s H C cl fp => (ht s H C cl fp).pts) (fun s H C cl fp => (he s H C cl fp).pe) hs).wk (lcT_run ha htm hem), fun en P P' k => ha.mono _ _ _ (kT_mono (k := kLc i tt te en P) (k' := kLc i tt te en P') (kLc_mono htm hem k))⟩
theorem ds_setLcT {y : Str} {l : Nat} {py spos : Pos} (hc : X.calm = true) (hN : X.N.Nodup) (hy : X.N[l]? = some y) (hyl : X.env.scope.names.lookup y = some .local) (hsw : swapsWith (.ListComp elt [⟨.Name x tp, iter, ifs, 0⟩] scope pos) (some (.Name y py)) spos.line X.env = pure true)
    (ha : DE X iter ma) (ok : BlkOk X.N X.env.scope scope [(x, i)])
    (hg : ∀ (s : Shared) (H : Hp) (C : Addr) (cl : List (Str × Addr)) (fp : List Addr), PG (X.blk s H scope (compEnvC scope cl C X.env) fp) (.Name x tp) (gName i))
    (ht : ∀ (s : Shared) (H : Hp) (C : Addr) (cl : List (Str × Addr)) (fp : List Addr), DTs (X.blk s H scope (compEnvC scope cl C X.env) fp) ifs tt)
    (he : ∀ (s : Shared) (H : Hp) (C : Addr) (cl : List (Str × Addr)) (fp : List Addr), DE (X.blk s H scope (compEnvC scope cl C X.env) fp) elt te) (s0 : Shared)
    (hs : ∀ z, foldedSetIterable iter X.env z = pure z := by intro _; rfl) : DS X (.Assign [.Name y py] (.ListComp elt [⟨.Name x tp, iter, ifs, 0⟩] scope pos) spos) (dAsg (dLcT i ma tt te) (gdName l)) := by
  have htm := (ht s0 (fun _ => none) 0 [] []).mono
  have hem := (he s0 (fun _ => none) 0 [] []).mono
  have hm : ∀ en P P', (∀ d, P d → P' d) → dLcT i ma tt te en P → dLcT i ma tt te en P' := fun en P P' k => ha.mono _ _ _ (kT_mono (k := kLc i tt te en P) (k' := kLc i tt te en P') (kLc_mono htm hem k))
  refine ⟨(ps_setLc (tt := tDT X.K tt) (te := tD X.K te) hc hN hy hyl hsw (pi_tup ha.pe) ok hg (fun s H C cl fp => (ht s H C cl fp).pts) (fun s H C cl fp => (he s H C cl fp).pe) hs).wk fun D σ H ⟨wa, en, w, s, h⟩ => ?_, fun en N N' R R' hn hr => hm _ _ _ fun d => hn _⟩
  refine lcT_run ha htm hem _ _ _ (runE hm w s h fun d v H1 k gr w1 r => ?_)
  exact (show ∀ σ' H', Gr wa H H' → WellAt wa H' → RpS X.K wa H' σ' (en.set l (some d)) → D.nx σ' H' from k) _ H1 gr w1 ((s.mono w gr).set l r)
theorem lcL_run (ha : DE X iter ma) (htm : ∀ en P P', (∀ d, P d → P' d) → tt en P → tt en P') (hem : ∀ en P P', (∀ d, P d → P' d) → te en P → te en P') : ∀ σ H Q, tD X.K (dLcL i ma tt te) σ H Q → tLc (iList X.K (tD X.K ma)) (gName i) (tDT X.K tt) (tD X.K te) [i] σ H Q := by
  rintro σ H Q ⟨wa, en, w, s, m⟩
  refine runE ha.mono w s m fun d v H1 k g w1 r => ?_
  obtain ⟨xs, rfl, hlen, k⟩ := kL_i (k := kLc i tt te en (Af X.K wa H Q)) k
  obtain ⟨t, vs, rfl, hno, hq, ra⟩ := r.inv_lst
  refine ⟨t, rfl, ⟨vs, .inl (.inl hq)⟩, fun D nD => lc_list (K := X.K) (a := t) (xs := vs) (fun j H => LcAt X.K wa H1 D (wipe σ [i]) (en.set i none) i tt te xs Q j H) (lc_start nD w1 ((s.mono w g).clear i) (mapD_mono htm hem _ _ _ _ (fun ys q => ⟨q.1, q.2.up g⟩) k)) (fun j H2 _ hL => .inl (.inl (hL.g _ _ hno.1 hq))) (fun j y H2 hy hL => ?_) fun H2 hL => ?_⟩
  · have hl : j < xs.length := by
      have := (List.getElem?_eq_some_iff.mp hy).1
      rw [ra.len] at this
      exact this
    obtain ⟨y', hy', ry⟩ := ra.get (List.getElem?_eq_getElem hl)
    rw [hy] at hy'
    cases hy'
    exact ⟨wipe_set σ i y, lc_turn w1 nD htm hem (List.getElem?_eq_getElem hl) (Rp.mono0 (wa := wa.hid D) w1.1 hL.g (ry.hide nD)) (by omega) hL⟩
  · rw [ra.len] at hL
    exact lc_done w1 nD hL
theorem de_lcL (hc : X.calm = true) (hN : X.N.Nodup) (ha : DE X iter ma) (ok : BlkOk X.N X.env.scope scope [(x, i)])
    (hg : ∀ (s : Shared) (H : Hp) (C : Addr) (cl : List (Str × Addr)) (fp : List Addr), PG (X.blk s H scope (compEnvC scope cl C X.env) fp) (.Name x tp) (gName i))
    (ht : ∀ (s : Shared) (H : Hp) (C : Addr) (cl : List (Str × Addr)) (fp : List Addr), DTs (X.blk s H scope (compEnvC scope cl C X.env) fp) ifs tt)
    (he : ∀ (s : Shared) (H : Hp) (C : Addr) (cl : List (Str × Addr)) (fp : List Addr), DE (X.blk s H scope (compEnvC scope cl C X.env) fp) elt te) (s0 : Shared)
    (hs : ∀ z, foldedSetIterable iter X.env z = pure z := by intro _; rfl) : DE X (.ListComp elt [⟨.Name x tp, iter, ifs, 0⟩] scope pos) (dLcL i ma tt te) := by
  have htm := (ht s0 (fun _ => none) 0 [] []).mono
  have hem := (he s0 (fun _ => none) 0 [] []).mono
  refine ⟨(pe_lc (tt := tDT X.K tt) (te := tD X.K te) hc hN (pi_list ha.pe) ok hg (fun s H C cl fp => (ht s H C cl fp).pts) (fun s H C cl fp => (he s H C cl fp).pe) hs).wk (lcL_run ha htm hem), fun en P P' k => ha.mono _ _ _ (kL_mono (k := kLc i tt te en P) (k' := kLc i tt te en P') (kLc_mono htm hem k))⟩
theorem ds_setLcL {y : Str} {l : Nat} {py spos : Pos} (hc : X.calm = true) (hN : X.N.Nodup) (hy : X.N[l]? = some y) (hyl : X.env.scope.names.lookup y = some .local) (hsw : swapsWith (.ListComp elt [⟨.Name x tp, iter, ifs, 0⟩] scope pos) (some (.Name y py)) spos.line X.env = pure true)
    (ha : DE X iter ma) (ok : BlkOk X.N X.env.scope scope [(x, i)])
    (hg : ∀ (s : Shared) (H : Hp) (C : Addr) (cl : List (Str × Addr)) (fp : List Addr), PG (X.blk s H scope (compEnvC scope cl C X.env) fp) (.Name x tp) (gName i))
    (ht : ∀ (s : Shared) (H : Hp) (C : Addr) (cl : List (Str × Addr)) (fp : List Addr), DTs (X.blk s H scope (compEnvC scope cl C X.env) fp) ifs tt)
    (he : ∀ (s : Shared) (H : Hp) (C : Addr) (cl : List (Str × Addr)) (fp : List Addr), DE (X.blk s H scope (compEnvC scope cl C X.env) fp) elt te) (s0 : Shared)
    (hs : ∀ z, foldedSetIterable iter X.env z = pure z := by intro _; rfl) : DS X (.Assign [.Name y py] (.ListComp elt [⟨.Name x tp, iter, ifs, 0⟩] scope pos) spos) (dAsg (dLcL i ma tt te) (gdName l)) := by
  have htm := (ht s0 (fun _ => none) 0 [] []).mono
  have hem := (he s0 (fun _ => none) 0 [] []).mono
  have hm : ∀ en P P', (∀ d, P d → P' d) → dLcL i ma tt te en P → dLcL i ma tt te en P' := fun en P P' k => ha.mono _ _ _ (kL_mono (k := kLc i tt te en P) (k' := kLc i tt te en P') (kLc_mono htm hem k))
  refine ⟨(ps_setLc (tt := tDT X.K tt) (te := tD X.K te) hc hN hy hyl hsw (pi_list ha.pe) ok hg (fun s H C cl fp => (ht s H C cl fp).pts) (fun s H C cl fp => (he s H C cl fp).pe) hs).wk fun D σ H ⟨wa, en, w, s, h⟩ => ?_, fun en N N' R R' hn hr => hm _ _ _ fun d => hn _⟩
  refine lcL_run ha htm hem _ _ _ (runE hm w s h fun d v H1 k gr w1 r => ?_)
  exact (show ∀ σ' H', Gr wa H H' → WellAt wa H' → RpS X.K wa H' σ' (en.set l (some d)) → D.nx σ' H' from k) _ H1 gr w1 ((s.mono w gr).set l r)
end
end GD
end

section
set_option Elab.async false
set_option linter.all false
set_option maxRecDepth 100000
/-! GK: a comprehension over two tuples zipped. -/
namespace GD
open PySem PySem.Spec PyProof.Rows L2
def mapZ (i j : Nat) (te : ME) : List PyData → List PyData → En → (List PyData → Prop) → Prop
  | x :: xs, y :: ys, en, P => te ((en.set i (some x)).set j (some y)) fun r => mapZ i j te xs ys en fun rs => P (r :: rs)
  | _, _, _, P => P []
theorem mapZ_mono {i j : Nat} {te : ME} (he : ∀ en P P', (∀ d, P d → P' d) → te en P → te en P') : ∀ (xs ys : List PyData) (en : En) (P P' : List PyData → Prop), (∀ d, P d → P' d) → mapZ i j te xs ys en P → mapZ i j te xs ys en P'
  | x :: xs, y :: ys, en, P, P', k, h => he _ _ _ (fun r => mapZ_mono he xs ys en _ _ fun rs => k _) h
  | [], [], _, _, _, k, h => k _ h
  | [], _ :: _, _, _, _, k, h => k _ h
  | _ :: _, [], _, _, _, k, h => k _ h
structure LzAt (K : PySem.W.Frag) (wa : Wl) (H1 : Hp) (D : Addr) (σ0 : L2.St) (en0 : En) (i j : Nat) (te : ME) (xs ys : List PyData) (Q : VK) (t : Nat) (H : Hp) : Prop where
  g : Gr wa H1 H
  w : WellAt (wa.hid D) H
  s : RpS K (wa.hid D) H σ0 en0
  ex : ∃ acc ds, H D = some (.lst acc) ∧ RpA K (wa.hid D) H acc ds ∧ acc.length ≤ t ∧ mapZ i j te (xs.drop t) (ys.drop t) en0 fun rs => Af K wa H1 Q (.list (ds ++ rs))
/-- zip(a, b): two tuples of one length, not long -/
def dLcZ (i j : Nat) (ma : MA) (te : ME) : ME := fun en P => ma en fun ds => match ds with
  | [.tuple xs, .tuple ys] => (xs.length = ys.length ∧ xs.length ≤ 1000) ∧ mapZ i j te xs ys ((en.set j none).set i none) fun rs => P (.list rs)
  | _ => False
section
variable {X : Cx} {elt e1 e2 : Expr} {scope : Scope} {pos tp1 tp2 tp zp p2 : Pos} {x1 x2 y : Str} {i j l kk : Nat} {ma : MA} {te : ME} {py spos : Pos}
theorem zip_turns {K : PySem.W.Frag} {a b : Addr} {xs ys : List V} {g : TG} {tt : TT} {te : TE} {vs : List Nat} {σ : L2.St} {H1 : Hp} {D : Addr} {Qd : Hp → Prop} (hl : xs.length = ys.length) (Pv : Nat → Hp → Prop) (h0 : Pv 0 (upd H1 D (.lst []))) (hq : ∀ i H, i ≤ xs.length → Pv i H → SqT K H a xs ∧ SqT K H b ys)
    (hs : ∀ i x y T H, xs[i]? = some x → ys[i]? = some y → Pv i H → H T = none → g (.ref T) (wipe σ vs) (upd H T (.tup [x, y])) fun σ2 H2 => wipe σ2 vs = wipe σ vs ∧ tt σ2 H2 fun b H3 =>
      if b = true then te σ2 H3 fun y H4 => ∃ acc, H4 D = some (.lst acc) ∧ acc.length < sizeLine ∧ Pv (i + 1) (upd H4 D (.lst (acc ++ [y]))) else Pv (i + 1) H3) (hd : ∀ H, Pv xs.length H → Qd H) :
    ∃ W : Nat → Nat → Hp → Prop, (∃ m, W 0 m (upd H1 D (.lst []))) ∧ ∀ i m H, W i m H →
      ((RZ.ItzT K a b).stop i H ∧ Qd H) ∨ ((RZ.ItzT K a b).go i H ∧ ∃ Nx : Hp → Prop, (∀ H', Nx H' → ∃ m', m' < m ∧ W (i + 1) m' H') ∧ ∀ x H', (RZ.ItzT K a b).yld i H x H' → g x (wipe σ vs) H' fun σ2 H2 => wipe σ2 vs = wipe σ vs ∧ tt σ2 H2 fun b H3 =>
        if b = true then te σ2 H3 fun y H4 => ∃ acc, H4 D = some (.lst acc) ∧ acc.length < sizeLine ∧ Nx (upd H4 D (.lst (acc ++ [y]))) else Nx H3) := by
  refine ⟨fun i m H => m = xs.length - i ∧ i ≤ xs.length ∧ Pv i H, ⟨xs.length, by simp, Nat.zero_le _, h0⟩, ?_⟩
  rintro i m H ⟨rfl, hi, p⟩
  obtain ⟨q1, q2⟩ := hq i H hi p
  by_cases hlt : i < xs.length
  · have hlt2 : i < ys.length := by omega
    refine .inr ⟨⟨xs, ys, _, _, q1, q2, List.getElem?_eq_getElem hlt, List.getElem?_eq_getElem hlt2⟩, Pv (i + 1), fun H' p' => ⟨xs.length - (i + 1), by omega, rfl, hlt, p'⟩, fun v H' yv => ?_⟩
    obtain ⟨T, x', y', rfl, hT, rfl, f1, f2⟩ := yv
    exact hs i x' y' T H (f1 xs q1) (f2 ys q2) p hT
  · have e : i = xs.length := by omega
    subst e
    exact .inl ⟨⟨xs, ys, q1, q2, Or.inl (Nat.le_refl _)⟩, hd H p⟩
theorem ds_setLcZ (hc : X.calm = true) (hN : X.N.Nodup) (hy : X.N[l]? = some y) (hyl : X.env.scope.names.lookup y = some .local)
    (hsw : swapsWith (.ListComp elt [⟨.Tuple [.Name x1 tp1, .Name x2 tp2] kk tp, .Call (.Name "zip" zp) [e1, e2] [] p2, [], 0⟩] scope pos) (some (.Name y py)) spos.line X.env = pure true)
    (hm : X.mg "zip" = none) (ha : DA X [e1, e2] ma) (hij : i ≠ j) (ok : BlkOk X.N X.env.scope scope [(x1, i), (x2, j)])
    (hg : ∀ (s : Shared) (H : Hp) (C : Addr) (cl : List (Str × Addr)) (fp : List Addr), PG (X.blk s H scope (compEnvC scope cl C X.env) fp) (.Tuple [.Name x1 tp1, .Name x2 tp2] kk tp) (gTup X.K 2 (gCons (gName i) (gCons (gName j) gNil))))
    (he : ∀ (s : Shared) (H : Hp) (C : Addr) (cl : List (Str × Addr)) (fp : List Addr), DE (X.blk s H scope (compEnvC scope cl C X.env) fp) elt te) (s0 : Shared) (hgl : Gl X "zip" := by rfl)
    (hs1 : starEach [e1, e2] X.env = (false, eval e1 X.env) :: starEach [e2] X.env := by rfl) (hpl : (backTo p2 (starEach [e2] X.env)).any (·.1) = false := by rfl)
    (hs : ∀ z, foldedSetIterable (.Call (.Name "zip" zp) [e1, e2] [] p2) X.env z = pure z := by intro _; rfl) :
    DS X (.Assign [.Name y py] (.ListComp elt [⟨.Tuple [.Name x1 tp1, .Name x2 tp2] kk tp, .Call (.Name "zip" zp) [e1, e2] [] p2, [], 0⟩] scope pos) spos) (dAsg (dLcZ i j ma te) (gdName l)) := by
  have hem := (he s0 (fun _ => none) 0 [] []).mono
  have hmono : ∀ en P P', (∀ d, P d → P' d) → dLcZ i j ma te en P → dLcZ i j ma te en P' := fun en P P' k => ha.mono _ _ _ fun ds h => by
    match ds, h with
    | [.tuple xs, .tuple ys], ⟨h1, h2⟩ => exact ⟨h1, mapZ_mono hem _ _ _ _ _ (fun rs => k _) h2⟩
  refine ⟨(ps_setLc (tt := tYes) (te := tD X.K te) hc hN hy hyl hsw (RZ.pi_zipA hgl hm ha.pa hs1 hpl) ok hg (fun s H C cl fp => pts_nil) (fun s H C cl fp => (he s H C cl fp).pe) hs).wk fun D σ H ⟨wa, en, w, s, h⟩ => ?_, fun en N N' R R' hn hr => hmono _ _ _ fun d => hn _⟩
  refine runA ha.mono w s h fun ds vs H1 k g w1 r => ?_
  match ds, r, k with
  | [.tuple xs, .tuple ys], .cons r1 (.cons r2 .nil), ⟨⟨hl, hlen⟩, k⟩ =>
    obtain ⟨a, us, rfl, hq1, ra⟩ := r1.inv_tup
    obtain ⟨b, ws, rfl, hq2, rb⟩ := r2.inv_tup
    have l1 := ra.len
    have l2 := rb.len
    refine ⟨a, b, us, ws, rfl, .inr ⟨hq1, hq2, fun L nL => zip_turns (K := X.K) (a := a) (b := b) (xs := us) (ys := ws) (by omega) (fun t H => LzAt X.K wa H1 L (wipe σ [i, j]) ((en.set j none).set i none) i j te xs ys (fun x H2 => gName l x σ H2 D.nx) t H) ?_ (fun t H2 _ hL => ⟨sqT_gr w1 hL.g hq1, sqT_gr w1 hL.g hq2⟩) (fun t x z T H2 hx hz hL nT => ?_) fun H2 hL => ?_⟩⟩
    · refine ⟨Gr.laid nL, w1.hide nL, ?_, [], [], upd_same, .nil, Nat.le_refl _, ?_⟩
      · have s1 : RpS X.K wa H1 (wipe σ [i, j]) ((en.set j none).set i none) := ((s.mono w g).clear j).clear i
        exact ⟨s1.len, fun i d e => let ⟨v, h, p⟩ := s1.at_ i d e; ⟨v, h, p.newHid w1 nL⟩⟩
      · refine mapZ_mono hem _ _ _ _ _ (fun rs q => ?_) k
        intro v H' g' w' r'
        exact (show ∀ σ' H', Gr wa H H' → WellAt wa H' → RpS X.K wa H' σ' (en.set l (some (.list rs))) → D.nx σ' H' from q) _ H' (g.trans g') w' (((s.mono w g).mono w1 g').set l r')
    · obtain ⟨g2, w2, s2, acc, ds, hD, rac, hlac, m⟩ := hL
      have hlx : t < xs.length := by
        have := (List.getElem?_eq_some_iff.mp hx).1
        omega
      have hly : t < ys.length := by omega
      obtain ⟨x', hx', rx⟩ := ra.get (List.getElem?_eq_getElem hlx)
      obtain ⟨z', hz', rz⟩ := rb.get (List.getElem?_eq_getElem hly)
      rw [hx] at hx'
      cases hx'
      rw [hz] at hz'
      cases hz'
      rw [List.drop_eq_getElem_cons hlx, List.drop_eq_getElem_cons hly] at m
      have nTD : L ≠ T := ne_of_none hD nT
      have gT : Gr (wa.hid L) H2 (upd H2 T (.tup [x, z])) := Gr.laid nT
      have wT : WellAt (wa.hid L) (upd H2 T (.tup [x, z])) := w2.laid nT
      have neW : L ≠ (wa.hid L).a := w1.ne nL
      refine ⟨T, [x, z], rfl, .inl (.inl upd_same), rfl, x, [z], rfl, z, [], rfl, rfl, ?_⟩
      refine ⟨?_, ?_⟩
      · show ((((wipe σ [i, j]).set i (some x)).set j (some z)).set j none).set i none = (σ.set j none).set i none
        rw [List.set_set]
        show ((((σ.set j none).set i none).set i (some x)).set j none).set i none = (σ.set j none).set i none
        rw [List.set_set, List.set_comm _ _ hij, List.set_set, List.set_set]
      · dsimp only [tYes]
        rw [if_pos rfl]
        have rx2 : Rp X.K (wa.hid L) H2 x xs[t] := Rp.mono0 (wa := wa.hid L) w1.1 g2 (rx.hide nL)
        have rz2 : Rp X.K (wa.hid L) H2 z ys[t] := Rp.mono0 (wa := wa.hid L) w1.1 g2 (rz.hide nL)
        refine runE hem wT (((s2.mono w2 gT).set i (rx2.mono w2 gT)).set j (rz2.mono w2 gT)) m fun d v H4 h4 g4 w4 r4 => ?_
        have hDT : (upd H2 T (.tup [x, z])) L = some (.lst acc) := by
          rw [upd_ne nTD]
          exact hD
        have hD4 := g4 _ _ neW hDT
        refine ⟨acc, hD4, by rw [sizeLine_eq]; omega, fun b' o hb eo => ?_, w4.set_ neW hD4, ((s2.mono w2 gT).mono wT g4).set_ hD4, acc ++ [v], ds ++ [d], upd_same, ((((rac.mono w2 gT).mono wT g4)).append (.cons r4 .nil)).set hD4, ?_, ?_⟩
        · rw [upd_ne (ne_of_none eo nL)]
          exact g4 _ _ hb (gT _ _ hb (g2 _ _ hb eo))
        · rw [List.length_append]
          exact Nat.succ_le_succ hlac
        · refine mapZ_mono hem _ _ _ _ _ (fun rs k => ?_) h4
          rw [List.append_assoc]
          exact k
    · obtain ⟨g2, w2, s2, acc, ds, hD, rac, hlac, m⟩ := hL
      rw [l1, List.drop_length, hl, List.drop_length] at m
      have m2 : Af X.K wa H1 (fun x H2 => gName l x σ H2 D.nx) (.list (ds ++ [])) := m
      rw [List.append_nil] at m2
      exact m2 _ H2 g2 w2.unhide (.lst (w1.fresh nL) hD rac.unhide)
end
end GD
end

section
set_option Elab.async false
set_option linter.all false
set_option maxRecDepth 100000
/-! GL: calls by keywords alone; a def made known. -/
namespace GD
open PySem PySem.Spec PyProof.Rows L2
/-- a def that is called by keywords alone: one, or two in the other order -/
structure KnK (P : Program) (w : World) (K : PySem.W.Frag) (mg : Str → Option Value) (base : Heap) (x : Str) (ks : List Str) (k : Nat) (S : List PyData → MD) : Prop where
  ex : ∃ (f : Addr) (fd : FuncData) (ps : List Str), mg x = some (.ref f) ∧ PySem.W.keepIn K (.ref f) = true ∧ (∀ (s : Shared) (ws : List Value), ws.length = ks.length → BindsTo s fd ⟨[], ks.zip ws⟩ (ps.zip ws.reverse)) ∧ FnG P w K mg base k f fd ps S
structure DK (X : Cx) (kws : List Keyword) (m : MA) : Prop where
  pk : PK X kws (tDA X.K m)
  mono : ∀ en P P', (∀ d, P d → P' d) → m en P → m en P'
  len : ∀ en P, m en P → m en fun ds => ds.length = kws.length ∧ P ds
section
variable {X : Cx} {x : Str} {p pos kp : Pos} {e : Expr} {kws : List Keyword} {me : ME} {ma : MA} {S : List PyData → MD} {k : Nat} {nm : Option Str} {ks : List Str}
theorem PK.wk_ {kws : List Keyword} {t t' : TA} (h : PK X kws t) (k : ∀ σ H Q, t' σ H Q → t σ H Q) : PK X kws t' := ⟨fun pos pins s σ H Q I q => h.run pos pins s σ H Q I (k σ H Q q)⟩
theorem dk_nil : DK X [] dNil := ⟨PK.wk_ pk_nil fun σ H Q ⟨wa, en, w, s, m⟩ => m [] H Gr.refl w .nil, fun en P P' k => k _, fun en P h => ⟨rfl, h⟩⟩
theorem dk_cons (ha : DE X e me) (hr : DK X kws ma) : DK X (⟨nm, e, kp⟩ :: kws) (dCons me ma) := by
  refine ⟨PK.wk_ (pk_cons ha.pe hr.pk) fun σ H Q ⟨wa, en, w, s, m⟩ => runE ha.mono w s m fun d v H1 h g w1 r => runA hr.mono w1 (s.mono w g) h fun ds vs H2 h2 g2 w2 r2 => ?_, fun en P P' k => ha.mono en _ _ fun d => hr.mono en _ _ fun ds => k _, fun en P h => ha.mono _ _ _ (fun d q => hr.mono _ _ _ (fun ds z => ⟨congrArg Nat.succ z.1, z.2⟩) (hr.len _ _ q)) h⟩
  exact h2 _ H2 (g.trans g2) w2 (.cons (r.mono w1 g2) r2)
theorem RpA.reverse {K : PySem.W.Frag} {wa : Wl} {H : Hp} : ∀ {vs : List V} {ds : List PyData}, RpA K wa H vs ds → RpA K wa H vs.reverse ds.reverse
  | _, _, .nil => .nil
  | _, _, .cons r t => by
    rw [List.reverse_cons, List.reverse_cons]
    exact (RpA.reverse t).append (.cons r .nil)
theorem vals_rev : ∀ {vs : List V} {us : List Value}, Vals vs us → Vals vs.reverse us.reverse := fun r => L2.Vals.reverse r
theorem de_callK (G : KnK X.prog X.w X.K X.mg X.base x ks k S) (hr : Room k X.A) (hgd : X.A.guards = some []) (ha : DK X kws ma) (hl0 : kws.length = ks.length := by rfl) (hg : Gl X x := by rfl) (hall : (backToKw pos (keywordEach kws X.env)).all (·.1.isSome) = true := by rfl) (hks : (backToKw pos (keywordEach kws X.env)).filterMap (·.1) = ks := by rfl)
    (hdb : (x == ("__debug__" : Str)) = false := by decide) (hpl : ((backTo pos (starEach [] X.env)).any (·.1) || (backToKw pos (keywordEach kws X.env)).any (·.1.isNone)) = false := by rfl) :
    DE X (.Call (.Name x p) [] kws pos) (dCall (fun ds => S ds.reverse) ma) := by
  obtain ⟨f, fd, ps, hm, hk, hb, F⟩ := G.ex
  refine ⟨⟨fun pins s σ H Q I h => ?_⟩, fun en P P' h => ha.mono en _ _ fun ds => F.mono _ _ _ h⟩
  refine wpAny_Call_Name_kw (ld_glob I hg hm ?_ hdb)
  obtain ⟨wa, en, w, sl, m⟩ := h
  have h2 : tDA X.K ma σ H fun vs H1 => ∃ ds, ds.length = ks.length ∧ WellAt wa H1 ∧ RpA X.K wa H1 vs ds ∧ S ds.reverse (Af X.K wa H1 Q) :=
    runA ha.mono w sl (ha.len _ _ m) fun ds vs H1 h1 g w1 r => ⟨ds, h1.1.trans hl0, w1, r, F.mono _ _ _ (fun d q => q.up g) h1.2⟩
  refine PySem.W.callWith_KW0 (h₀ := X.base) I.ok.mod.kin hk hall (thn (ha.pk.run pos pins s σ H _ I h2) fun us s1 ⟨vs, H1, I1, r, ds, hlen, w1, ra, q⟩ => ⟨I1.kIn, ?_⟩) hpl
  rw [hks]
  have hu : us.length = ks.length := by rw [← r.length, ra.len, hlen]
  refine wpAny_call (codeAny_mono (F.run X.A X.stack s1 H1 ⟨[], ks.zip us⟩ us.reverse vs.reverse Q hr hgd I1.env0 (hb s1 us hu) (vals_rev r) ⟨wa, ds.reverse, w1, ra.reverse, q⟩) fun res s' hq => ?_)
  cases res with
  | error er => exact (show False from hq).elim
  | ok fl =>
    cases fl with
    | ret u => exact I1.after hq
    | next => exact False.elim hq
    | brk => exact False.elim hq
    | cont => exact False.elim hq
end
end GD
end

section
set_option Elab.async false
set_option linter.all false
set_option maxRecDepth 100000
/-! GLb: len of what stands; divmod; the well's ints read and stored. -/
namespace GD
open PySem PySem.Spec PyProof.Rows L2
/-- len, of what stands: it is not long -/
def kLenB : List PyData → MD := fun ds P => match ds with
  | [.tuple xs] => xs.length ≤ 16777216 → P (.int xs.length)
  | [.list xs] => xs.length ≤ 16777216 → P (.int xs.length)
  | _ => False
theorem kLenB_i : ∀ {ds : List PyData} {P : PyData → Prop}, kLenB ds P → ∃ xs, (ds = [.tuple xs] ∨ ds = [.list xs]) ∧ (xs.length ≤ 16777216 → P (.int xs.length))
  | [.tuple xs], _, h => ⟨xs, .inl rfl, h⟩
  | [.list xs], _, h => ⟨xs, .inr rfl, h⟩
/-- divmod by a positive number that is not long -/
def kDivmod : List PyData → MD := fun ds P => match ds with
  | [.int i, .int j] => (0 < j ∧ j < 4611686018427387904) ∧ P (.tuple [.int (i / j), .int (i % j)])
  | _ => False
theorem kDivmod_i : ∀ {ds : List PyData} {P : PyData → Prop}, kDivmod ds P → ∃ i j, ds = [.int i, .int j] ∧ (0 < j ∧ j < 4611686018427387904) ∧ P (.tuple [.int (i / j), .int (i % j)])
  | [.int i, .int j], _, h => ⟨i, j, rfl, h⟩
theorem size_line : sizeLine = 16777216 := by decide
/-- a product, the left side small -/
abbrev kMulS := kII (fun i _ => -(2 ^ 64) < i ∧ i < 2 ^ 64) fun i j => .int (i * j)
theorem od_mulS {X : Cx} : OpD X (binaryOp .Mult) kMulS := opII op_mul fun i j h => .inl h
section
variable {X : Cx}
theorem cd_lenB : CallD X (.builtin "len") kLenB := by
  refine ⟨fun pins s σ H vs us Q I r q => ?_, fun ds P P' k h => ?_⟩
  · obtain ⟨wa, ds, w, ra, m⟩ := q
    obtain ⟨xs, e | e, p⟩ := kLenB_i m
    · subst e
      obtain ⟨v, rfl, rv⟩ := ra.one
      obtain ⟨a, ys, rfl, hq, rr⟩ := rv.inv_tup
      obtain ⟨_, _, _, hz⟩ := I.tuple hq
      rw [size_line] at hz
      refine call_len_seq pins s σ H _ us Q I r ⟨a, ys, rfl, .inr hq, ?_⟩
      rw [rr.len] at hz ⊢
      exact (p hz).now w (.int _)
    · subst e
      obtain ⟨v, rfl, rv⟩ := ra.one
      obtain ⟨a, ys, rfl, _, hq, rr⟩ := rv.inv_lst
      obtain ⟨_, _, _, hz⟩ := I.list (.inl (.inl hq))
      rw [size_line] at hz
      refine call_len_seq pins s σ H _ us Q I r ⟨a, ys, rfl, .inl (.inl (.inl hq)), ?_⟩
      rw [rr.len] at hz ⊢
      exact (p hz).now w (.int _)
  · obtain ⟨xs, e | e, p⟩ := kLenB_i h
    · subst e
      exact fun z => k _ (p z)
    · subst e
      exact fun z => k _ (p z)
theorem cd_divmod : CallD X (.builtin "divmod") kDivmod := by
  refine ⟨fun pins s σ H vs us Q I r q => ?_, fun ds P P' k h => ?_⟩
  · obtain ⟨wa, ds, w, ra, m⟩ := q
    obtain ⟨i, j, rfl, ⟨h1, h2⟩, p⟩ := kDivmod_i m
    obtain ⟨v, u, rfl, rv, ru⟩ := ra.two
    cases rv.inv_int
    cases ru.inv_int
    have hl : j.natAbs.log2 < 9000 := PySem.Flt.log2_lt_of (by decide) (Nat.lt_of_lt_of_le (show j.natAbs < 2 ^ 62 by omega) (Nat.pow_le_pow_right (by decide) (by decide)))
    refine call_divmodW pins s σ H _ us Q I r ⟨i, j, rfl, ⟨h1, PyProof.noPylong_of_log2 hl⟩, fun a na => ?_⟩
    exact p _ _ (Gr.laid na) (w.laid na) (.tup (.inl (.inl upd_same)) (.cons (.int _) (.cons (.int _) .nil)))
  · obtain ⟨i, j, rfl, c, p⟩ := kDivmod_i h
    exact ⟨c, k _ p⟩
end
/-! ### the well's ints -/
def kW (P : Prop) (d : PyData) : Prop := d = .dict [] ∧ P
def dWIx (i : Nat) : ME := fun en P => vget en i fun d => d = .dict [] ∧ ∀ v : Int, P (.int v)
def dWSet (i : Nat) (m : ME) : MS := fun en N _ => m en fun d => match d with
  | .int _ => vget en i fun w => w = .dict [] ∧ N en
  | _ => False
def kInts2 (k : Int → Int → Prop) (d : PyData) : Prop := match d with
  | .tuple [.int a, .int b] => k a b
  | _ => False
theorem kInts2_i {k : Int → Int → Prop} : ∀ {d : PyData}, kInts2 k d → ∃ a b, d = .tuple [.int a, .int b] ∧ k a b
  | .tuple [.int a, .int b], h => ⟨a, b, rfl, h⟩
def dWDiv (i l : Nat) (m : ME) : MS := fun en N _ => m en (kInts2 fun _ b => vget en i fun w => w = .dict [] ∧ N (en.set l (some (.int b))))
theorem atI_4 {a b c d : Int} {n : Nat} (h : n < 4) : ∃ v : Int, atI [V.int a, .int b, .int c, .int d] (Int.ofNat n) = some (.int v) := by
  match n, h with
  | 0, _ => exact ⟨a, rfl⟩
  | 1, _ => exact ⟨b, rfl⟩
  | 2, _ => exact ⟨c, rfl⟩
  | 3, _ => exact ⟨d, rfl⟩
theorem set_4 {a b c d v : Int} {n : Nat} (h : n < 4) : ∃ p q r s : Int, [V.int a, .int b, .int c, .int d].set n (.int v) = [.int p, .int q, .int r, .int s] := by
  match n, h with
  | 0, _ => exact ⟨v, b, c, d, rfl⟩
  | 1, _ => exact ⟨a, v, c, d, rfl⟩
  | 2, _ => exact ⟨a, b, v, d, rfl⟩
  | 3, _ => exact ⟨a, b, c, v, rfl⟩
theorem ixN_4 {n : Nat} (h : n < 4) : ixN 4 (Int.ofNat n) = some n := by
  match n, h with
  | 0, _ => rfl
  | 1, _ => rfl
  | 2, _ => rfl
  | 3, _ => rfl
/-- the well behind a store -/
theorem well_set {K : PySem.W.Frag} {wa : Wl} {H : Hp} {σ : L2.St} {en : En} {a b c d v : Int} {n : Nat} (h : n < 4) (w : WellAt wa H) (s : RpS K wa H σ en) : ∃ W : HO, W = .lst ([V.int a, .int b, .int c, .int d].set n (.int v)) ∧ Gr wa H (upd H wa.a W) ∧ WellAt wa (upd H wa.a W) ∧ RpS K wa (upd H wa.a W) σ en := by
  obtain ⟨p, q, r, t, e⟩ := set_4 (a := a) (b := b) (c := c) (d := d) (v := v) h
  have g : Gr wa H (upd H wa.a (.lst ([V.int a, .int b, .int c, .int d].set n (.int v)))) := fun x o nx hx => by rw [upd_ne nx]; exact hx
  have w' : WellAt wa (upd H wa.a (.lst ([V.int a, .int b, .int c, .int d].set n (.int v)))) := by
    refine ⟨⟨p, q, r, t, by rw [upd_same, e]⟩, fun x hx => ?_⟩
    by_cases z : x = wa.a
    · rw [z]
      exact ⟨_, upd_same⟩
    · obtain ⟨o, ho⟩ := w.2 x hx
      exact ⟨o, by rw [upd_ne z]; exact ho⟩
  exact ⟨_, rfl, g, w', s.mono w g⟩
section
variable {X : Cx} {x y : Str} {p p1 p2 pos : Pos} {e : Expr} {i l : Nat} {z : Int} {j kk} {m : ME}
theorem de_wix (c : Nat) (h : PE X (.Name x p) (tVar i)) (hc : Nat.ble (c + 1) 4 = true) (hz : z = Int.ofNat c := by rfl) (hs : PlainIx (.Constant (.int z) j p1) := by exact fun _ _ => rfl) : DE X (.Subscript (.Name x p) (.Constant (.int z) j p1) pos) (dWIx i) := by
  have hc := Nat.le_of_ble_eq_true hc
  refine ⟨(pe_ix ix_list h pe_int hs).wk fun σ H Q ⟨wa, en, w, s, m⟩ => ?_, fun en P P' k q => vget_mono (fun d r => ⟨r.1, fun v => k _ (r.2 v)⟩) q⟩
  obtain ⟨d, e, rfl, q⟩ := vget_some m
  obtain ⟨u, e2, r⟩ := s.at_ i _ e
  cases r.inv_well
  obtain ⟨a, b, c', d', hw⟩ := w.1
  subst hz
  obtain ⟨v, hv⟩ := atI_4 (a := a) (b := b) (c := c') (d := d') (n := c) hc
  exact ⟨_, e2, wa.a, _, _, _, rfl, rfl, .inl (.inl hw), hv, (q v).now w (.int _)⟩
theorem ds_wset (c : Nat) (he : DE X e m) (h : PE X (.Name x p) (tVar i)) (hc : Nat.ble (c + 1) 4 = true) (hz : z = Int.ofNat c := by rfl)
    (ha : ∀ v, assign (.Subscript (.Name x p) (.Constant (.int z) j p1) p2) X.env v = (do
      let ov ← holding [v] (eval (.Name x p) X.env)
      let iv ← holding [v, ov] (eval (.Constant (.int z) j p1) X.env)
      standAt p2
      holding [v, ov, iv] (setItem ov iv v)
      release [v, ov, iv] []) := by intro _; rfl)
    (hs : swapsWithSole [.Subscript (.Name x p) (.Constant (.int z) j p1) p2] e pos.line X.env = pure false := by rfl) (hw : swappedStores [.Subscript (.Name x p) (.Constant (.int z) j p1) p2] e X.env = pure none := by rfl)
    (h1 : (assignEach [.Subscript (.Name x p) (.Constant (.int z) j p1) p2] X.env).map (·.2) = [assign (.Subscript (.Name x p) (.Constant (.int z) j p1) p2) X.env] := by rfl) :
    DS X (.Assign [.Subscript (.Name x p) (.Constant (.int z) j p1) p2] e pos) (dWSet i m) := by
  have hc := Nat.le_of_ble_eq_true hc
  refine ⟨(ps_asg he.pe (pg_sub h pe_int set_list ha) hs hw h1).wk fun D σ H ⟨wa, en, w, s, q⟩ => runE he.mono w s q fun d v H1 k g w1 r => ?_, fun en N N' R R' hn hr => he.mono _ _ _ (kN_mono (k := fun _ => vget en i fun w => w = .dict [] ∧ N en) (k' := fun _ => vget en i fun w => w = .dict [] ∧ N' en) fun c q => vget_mono (fun d r => ⟨r.1, hn _ r.2⟩) q)⟩
  obtain ⟨n, rfl, q⟩ := kN_i (k := fun _ => vget en i fun w => w = .dict [] ∧ ∀ σ' H', Gr wa H H' → WellAt wa H' → RpS X.K wa H' σ' en → D.nx σ' H') k
  obtain ⟨_, e1, rfl, q⟩ := vget_some q
  obtain ⟨u, e2, ru⟩ := (s.mono w g).at_ i _ e1
  cases ru.inv_well
  cases r.inv_int
  obtain ⟨a, b, c', d', hwl⟩ := w1.1
  subst hz
  obtain ⟨W, hW, gW, wW, sW⟩ := well_set (K := X.K) (a := a) (b := b) (c := c') (d := d') (v := n) hc w1 (s.mono w g)
  subst hW
  exact ⟨_, e2, wa.a, _, _, c, rfl, rfl, hwl, ixN_4 hc, q σ _ (g.trans gW) wW sW⟩
theorem ds_wdiv (c : Nat) (hcm : X.calm = true) (hN : X.N.Nodup) (hl : X.N[l]? = some y) (hly : Loc X.env.scope y) (hf : X.fn y = true ∨ X.env.scope.names.lookup y = some .local) (he : DE X e m) (h : PE X (.Name x p) (tVar i)) (hc : Nat.ble (c + 1) 4 = true) (hz : z = Int.ofNat c := by rfl)
    (ha : ∀ v, assign (.Subscript (.Name x p) (.Constant (.int z) j p1) p2) X.env v = (do
      let ov ← holding [v] (eval (.Name x p) X.env)
      let iv ← holding [v, ov] (eval (.Constant (.int z) j p1) X.env)
      standAt p2
      holding [v, ov, iv] (setItem ov iv v)
      release [v, ov, iv] []) := by intro _; rfl)
    {py pt : Pos}
    (hn : (assignEach [.Subscript (.Name x p) (.Constant (.int z) j p1) p2, .Name y py] X.env).length = 2 := by rfl) (hst : (assignEach [.Subscript (.Name x p) (.Constant (.int z) j p1) p2, .Name y py] X.env).findIdx? (·.1) = none := by rfl)
    (hs2 : (assignEach [.Subscript (.Name x p) (.Constant (.int z) j p1) p2, .Name y py] X.env).map (·.2) = assign (.Subscript (.Name x p) (.Constant (.int z) j p1) p2) X.env :: (assignEach [.Name y py] X.env).map (·.2) := by rfl)
    (hs3 : (assignEach [.Name y py] X.env).map (·.2) = assign (.Name y py) X.env :: (assignEach [] X.env).map (·.2) := by rfl)
    (hs : swapsWithSole [.Tuple [.Subscript (.Name x p) (.Constant (.int z) j p1) p2, .Name y py] kk pt] e pos.line X.env = pure false := by rfl) (hw : swappedStores [.Tuple [.Subscript (.Name x p) (.Constant (.int z) j p1) p2, .Name y py] kk pt] e X.env = pure none := by rfl)
    (h1 : (assignEach [.Tuple [.Subscript (.Name x p) (.Constant (.int z) j p1) p2, .Name y py] kk pt] X.env).map (·.2) = [assign (.Tuple [.Subscript (.Name x p) (.Constant (.int z) j p1) p2, .Name y py] kk pt) X.env] := by rfl) :
    DS X (.Assign [.Tuple [.Subscript (.Name x p) (.Constant (.int z) j p1) p2, .Name y py] kk pt] e pos) (dWDiv i l m) := by
  have hc := Nat.le_of_ble_eq_true hc
  refine ⟨(ps_asg he.pe (pg_tup hcm (pgs_cons (pg_sub h pe_int set_list ha) (pgs_cons (pg_name (i := l) hN hl hly hf) pgs_nil hs3) hs2) hn hst) hs hw h1).wk fun D σ H ⟨wa, en, w, s, q⟩ => runE he.mono w s q fun d v H1 k g w1 r => ?_, fun en N N' R R' hn hr => he.mono _ _ _ fun d q => ?_⟩
  · obtain ⟨n, n2, rfl, q⟩ := kInts2_i k
    obtain ⟨_, e1, rfl, q⟩ := vget_some q
    obtain ⟨u, e2, ru⟩ := (s.mono w g).at_ i _ e1
    cases ru.inv_well
    obtain ⟨t, vs, rfl, hq, ra⟩ := r.inv_tup
    obtain ⟨v1, v2, rfl, r1, r2⟩ := ra.two
    cases r1.inv_int
    cases r2.inv_int
    obtain ⟨a, b, c', d', hwl⟩ := w1.1
    subst hz
    obtain ⟨W, hW, gW, wW, sW⟩ := well_set (K := X.K) (a := a) (b := b) (c := c') (d := d') (v := n) hc w1 (s.mono w g)
    subst hW
    exact ⟨t, _, rfl, hq, rfl, _, _, rfl, ⟨_, e2, wa.a, _, _, c, rfl, rfl, hwl, ixN_4 hc, _, _, rfl, rfl, q _ _ (g.trans gW) wW (sW.set l (.int _))⟩⟩
  · obtain ⟨n, n2, rfl, q⟩ := kInts2_i q
    exact vget_mono (fun d r => ⟨r.1, hn _ r.2⟩) q
end
end GD
end

section
set_option linter.all false
/-! QA: fractions as Rat: lowest terms, sums, products; bounds by bits. -/
namespace GQ
/-- lowest terms -/
theorem gcd_swap (t l : Int) : l.gcd t = Nat.gcd t.natAbs l.natAbs := by
  show Nat.gcd l.natAbs t.natAbs = _
  exact Nat.gcd_comm _ _
theorem low_num {t l : Int} (h : 0 < l) : t.fdiv ((Nat.gcd t.natAbs l.natAbs : Nat) : Int) = (Rat.divInt t l).num := by
  rw [Rat.num_divInt, Int.sign_eq_one_of_pos h, Int.one_mul, gcd_swap, Int.fdiv_eq_ediv_of_nonneg _ (Int.natCast_nonneg _)]
theorem low_den {t l : Int} (h : 0 < l) : l.fdiv ((Nat.gcd t.natAbs l.natAbs : Nat) : Int) = ((Rat.divInt t l).den : Int) := by
  rw [Rat.den_divInt, if_neg (by omega), gcd_swap, Int.fdiv_eq_ediv_of_nonneg _ (Int.natCast_nonneg _), Int.natCast_ediv]
  congr 1
  omega
theorem fr_add (p q : Rat) : Rat.divInt (p.num * q.den + q.num * p.den) (p.den * q.den) = p + q := by
  rw [Rat.add_def', ← Int.natCast_mul, Rat.divInt_ofNat]
theorem fr_sub (p q : Rat) : Rat.divInt (p.num * q.den - q.num * p.den) (p.den * q.den) = p - q := by
  rw [Rat.sub_def', ← Int.natCast_mul, Rat.divInt_ofNat]
theorem fr_mul (p q : Rat) : Rat.divInt (p.num * q.num) (p.den * q.den) = p * q := by
  rw [Rat.mul_def', ← Int.natCast_mul, Rat.divInt_ofNat]
theorem fr_div (p q : Rat) : Rat.divInt (p.num * q.den) (p.den * q.num) = p / q := by
  rw [Rat.div_def, Rat.inv_def, ← Rat.num_divInt_den p, Rat.divInt_mul_divInt, Rat.num_divInt_den]
theorem fr_eq (t l : Int) : Rat.divInt t l = (t : Rat) / (l : Rat) := Rat.divInt_eq_div t l
theorem den_pos' (q : Rat) : (0 : Int) < q.den := by
  have := q.den_pos
  omega
theorem num_pos' {q : Rat} (h : 0 < q) : 0 < q.num := by
  have h1 : 0 ≤ q.num := Rat.num_nonneg.mpr (Rat.le_of_lt h)
  have h2 : q.num ≠ 0 := fun z => Rat.ne_of_gt h (Rat.num_eq_zero.mp z)
  omega
/-! bounds by bits: the numerator below 2 ^ n, the denominator below 2 ^ d -/
def B (n d : Nat) (q : Rat) : Prop := q.num.natAbs < 2 ^ n ∧ q.den < 2 ^ d
def Bi (n : Nat) (i : Int) : Prop := i.natAbs < 2 ^ n
theorem pow_le {a b : Nat} (h : a ≤ b) : 2 ^ a ≤ 2 ^ b := Nat.pow_le_pow_right (by decide) h
theorem Bi.mono {n m : Nat} {i : Int} (h : Bi n i) (k : n ≤ m) : Bi m i := Nat.lt_of_lt_of_le h (pow_le k)
theorem Bi.mul {n m : Nat} {i j : Int} (h : Bi n i) (k : Bi m j) : Bi (n + m) (i * j) := by
  unfold Bi at *
  rw [Int.natAbs_mul, Nat.pow_add]
  exact Nat.mul_lt_mul'' h k
theorem Bi.neg {n : Nat} {i : Int} (h : Bi n i) : Bi n (-i) := by
  unfold Bi at *
  omega
theorem Bi.add {n m : Nat} {i j : Int} (h : Bi n i) (k : Bi m j) : Bi (max n m + 1) (i + j) := by
  have a := h.mono (Nat.le_max_left n m)
  have b := k.mono (Nat.le_max_right n m)
  unfold Bi at *
  rw [Nat.pow_succ]
  omega
theorem Bi.sub {n m : Nat} {i j : Int} (h : Bi n i) (k : Bi m j) : Bi (max n m + 1) (i - j) := by
  rw [Int.sub_eq_add_neg]
  exact h.add k.neg
theorem Bi.lit {n : Nat} {i : Int} (h : i.natAbs < 2 ^ n) : Bi n i := h
theorem Bi.nat {n k : Nat} (h : k < 2 ^ n) : Bi n (k : Int) := by
  unfold Bi
  rw [Int.natAbs_natCast]
  exact h
theorem B.mono {n d m e : Nat} {q : Rat} (h : B n d q) (k : n ≤ m) (l : d ≤ e) : B m e q := ⟨Nat.lt_of_lt_of_le h.1 (pow_le k), Nat.lt_of_lt_of_le h.2 (pow_le l)⟩
theorem B.num {n d : Nat} {q : Rat} (h : B n d q) : Bi n q.num := h.1
theorem B.den {n d : Nat} {q : Rat} (h : B n d q) : Bi d (q.den : Int) := Bi.nat h.2
theorem B.neg {n d : Nat} {q : Rat} (h : B n d q) : B n d (-q) := by
  refine ⟨?_, h.2⟩
  rw [Rat.neg_num]
  exact (Bi.neg h.1)
/-- in lowest terms it is no greater -/
theorem B.fr {n d : Nat} {t l : Int} (ht : Bi n t) (hl : Bi d l) (h0 : l ≠ 0) : B n d (Rat.divInt t l) := by
  constructor
  · rw [Rat.num_divInt]
    refine Nat.lt_of_le_of_lt ?_ ht
    have h1 : (l.sign * t).natAbs = t.natAbs := by
      rw [Int.natAbs_mul, Int.natAbs_sign, if_neg h0, Nat.one_mul]
    rw [← h1]
    exact Int.natAbs_ediv_le_natAbs _ _
  · rw [Rat.den_divInt, if_neg h0]
    exact Nat.lt_of_le_of_lt (Nat.div_le_self _ _) hl
theorem den_ne (p q : Rat) : (p.den : Int) * q.den ≠ 0 := Int.ne_of_gt (Int.mul_pos (den_pos' p) (den_pos' q))
theorem B.add {n d m e : Nat} {p q : Rat} (h : B n d p) (k : B m e q) : B (max (n + e) (m + d) + 1) (d + e) (p + q) := by
  rw [← fr_add]
  exact B.fr ((h.num.mul k.den).add (k.num.mul h.den)) (h.den.mul k.den) (den_ne p q)
theorem B.sub {n d m e : Nat} {p q : Rat} (h : B n d p) (k : B m e q) : B (max (n + e) (m + d) + 1) (d + e) (p - q) := by
  rw [← fr_sub]
  exact B.fr ((h.num.mul k.den).sub (k.num.mul h.den)) (h.den.mul k.den) (den_ne p q)
theorem B.mul {n d m e : Nat} {p q : Rat} (h : B n d p) (k : B m e q) : B (n + m) (d + e) (p * q) := by
  rw [← fr_mul]
  exact B.fr (h.num.mul k.num) (h.den.mul k.den) (den_ne p q)
theorem B.div {n d m e : Nat} {p q : Rat} (h : B n d p) (k : B m e q) (h0 : 0 < q) : B (n + e) (d + m) (p / q) := by
  rw [← fr_div]
  exact B.fr (h.num.mul k.den) (h.den.mul k.num) (Int.ne_of_gt (Int.mul_pos (den_pos' p) (num_pos' h0)))
theorem B.int {n : Nat} {i : Int} (h : Bi n i) : B n 1 (i : Rat) := ⟨h, by show (1 : Nat) < 2 ^ 1; decide⟩
end GQ
end

section
set_option linter.all false
/-! QB: numbers of degree two at most: a + b root(r), told in one form. -/
namespace GQ
/-! ### roots of whole numbers -/
def sq (r : Int) : Int := (Nat.sqrt r.toNat : Nat)
def IsSq (r : Int) : Prop := sq r * sq r = r
instance (r : Int) : Decidable (IsSq r) := inferInstanceAs (Decidable (sq r * sq r = r))
theorem sq_nn (r : Int) : 0 ≤ sq r := Int.natCast_nonneg _
theorem nsqrt_uniq {n k : Nat} (h1 : k * k ≤ n) (h2 : n < (k + 1) * (k + 1)) : Nat.sqrt n = k := by
  have a := Nat.sqrt_le n
  have b := Nat.lt_succ_sqrt n
  generalize Nat.sqrt n = s at a b
  have e1 : s < k + 1 := by
    apply Nat.lt_of_not_le
    intro h
    have := Nat.mul_le_mul h h
    omega
  have e2 : k < s + 1 := by
    apply Nat.lt_of_not_le
    intro h
    have := Nat.mul_le_mul h h
    simp only [Nat.succ_eq_add_one] at b
    omega
  omega
theorem sq_mul {k : Int} (h : 0 ≤ k) : sq (k * k) = k := by
  obtain ⟨n, rfl⟩ := Int.eq_ofNat_of_zero_le h
  unfold sq
  have e : ((n : Int) * n).toNat = n * n := by
    rw [← Int.natCast_mul, Int.toNat_natCast]
  rw [e, nsqrt_uniq (Nat.le_refl _) (by have : n * n < (n + 1) * (n + 1) := Nat.mul_self_lt_mul_self (Nat.lt_succ_self n); exact this)]
theorem isSq_mul (k : Int) : IsSq (k * k) := by
  have e : k * k = (k.natAbs : Int) * (k.natAbs : Int) := by
    rw [← Int.natCast_mul, Int.natAbs_mul_self]
  unfold IsSq
  rw [e, sq_mul (Int.natCast_nonneg _)]
/-- a fraction of which the square is whole is whole -/
theorem rat_sq_int {x : Rat} {r : Int} (h : x * x = (r : Rat)) : ∃ k : Int, x = (k : Rat) ∧ r = k * k := by
  have e : x ^ 2 = (r : Rat) := by
    rw [← h]
    grind
  have d : (x ^ 2).den = 1 := by
    rw [e]
    rfl
  have d2 : x.den = 1 := by
    rw [Rat.den_pow] at d
    have : x.den ∣ 1 := by
      rw [← d]
      exact ⟨x.den, by rw [Nat.pow_succ, Nat.pow_one]⟩
    exact Nat.dvd_one.mp this
  refine ⟨x.num, ?_, ?_⟩
  · apply Rat.ext
    · rfl
    · rw [d2]
      rfl
  · have n : (x ^ 2).num = r := by
      rw [e]
      rfl
    rw [← n, Rat.num_pow]
    grind
theorem isSq_of_rat {x : Rat} {r : Int} (h : x * x = (r : Rat)) : IsSq r := by
  obtain ⟨k, _, rfl⟩ := rat_sq_int h
  exact isSq_mul k
theorem sq_cast {r : Int} (h : IsSq r) : (sq r : Rat) * (sq r : Rat) = (r : Rat) := by
  rw [← Rat.intCast_mul]
  exact congrArg _ h
theorem not_sq_pos {r : Int} (h0 : 0 ≤ r) (h : ¬ IsSq r) : 0 < r := by
  have z : r ≠ 0 := fun z => by
    subst z
    exact h (isSq_mul 0)
  omega
/-- two that are from 0 on and have one square are one -/
theorem eq_of_sq {x y : Rat} (hx : 0 ≤ x) (hy : 0 ≤ y) (h : x * x = y * y) : x = y := by
  have e : (x - y) * (x + y) = 0 := by grind
  rcases Rat.mul_eq_zero.mp e with z | z
  · grind
  · have : x = 0 := by grind
    have : y = 0 := by grind
    grind
theorem sq_eq {r : Int} {x : Rat} (hx : 0 ≤ x) (h : x * x = (r : Rat)) : (sq r : Rat) = x := by
  obtain ⟨k, rfl, rfl⟩ := rat_sq_int h
  have hk : 0 ≤ k := Rat.intCast_nonneg.mp hx
  rw [sq_mul hk]

/-! ### numbers -/
inductive Num where
  | q (x : Rat)
  | r (P Q S : Int) (u : Bool)
/-- n is what tells a + b root(r) -/
def NumIs (a b : Rat) (r : Int) : Num → Prop
  | .q x => (b = 0 ∨ IsSq r) ∧ x = a + b * (sq r : Rat)
  | .r P Q S u => (b ≠ 0 ∧ ¬ IsSq r) ∧ (0 < P ∧ Nat.gcd (Nat.gcd P.natAbs Q.natAbs) S.natAbs = 1) ∧ ((Q : Rat) = -(2 * a) * P ∧ (S : Rat) = (a * a - b * b * r) * P) ∧ u = decide (0 < b)
/-- the same ray, both without a common divisor -/
theorem prim_dvd {P Q S P' Q' S' : Int} (g : Nat.gcd (Nat.gcd P.natAbs Q.natAbs) S.natAbs = 1) (h1 : P * Q' = P' * Q) (h2 : P * S' = P' * S) : P.natAbs ∣ P'.natAbs := by
  have d1 : P.natAbs ∣ P'.natAbs * P.natAbs := Nat.dvd_mul_left _ _
  have d2 : P.natAbs ∣ P'.natAbs * Q.natAbs := by
    rw [← Int.natAbs_mul, ← h1, Int.natAbs_mul]
    exact Nat.dvd_mul_right _ _
  have d3 : P.natAbs ∣ P'.natAbs * S.natAbs := by
    rw [← Int.natAbs_mul, ← h2, Int.natAbs_mul]
    exact Nat.dvd_mul_right _ _
  have d4 : P.natAbs ∣ P'.natAbs * Nat.gcd (Nat.gcd P.natAbs Q.natAbs) S.natAbs := by
    rw [← Nat.gcd_mul_left, ← Nat.gcd_mul_left]
    exact Nat.dvd_gcd (Nat.dvd_gcd d1 d2) d3
  rw [g, Nat.mul_one] at d4
  exact d4
theorem NumIs.uniq {a b : Rat} {r : Int} : ∀ {n n' : Num}, NumIs a b r n → NumIs a b r n' → n = n'
  | .q x, .q y, h, k => by rw [h.2, k.2]
  | .q x, .r P Q S u, h, k => by
    rcases h.1 with z | z
    · exact absurd z k.1.1
    · exact absurd z k.1.2
  | .r P Q S u, .q x, h, k => by
    rcases k.1 with z | z
    · exact absurd z h.1.1
    · exact absurd z h.1.2
  | .r P Q S u, .r P' Q' S' u', ⟨_, ⟨p1, g1⟩, ⟨q1, s1⟩, e1⟩, ⟨_, ⟨p2, g2⟩, ⟨q2, s2⟩, e2⟩ => by
    have hq : P * Q' = P' * Q := by
      have : ((P * Q' : Int) : Rat) = ((P' * Q : Int) : Rat) := by
        rw [Rat.intCast_mul, Rat.intCast_mul, q1, q2]
        grind
      exact Rat.intCast_inj.mp this
    have hs : P * S' = P' * S := by
      have : ((P * S' : Int) : Rat) = ((P' * S : Int) : Rat) := by
        rw [Rat.intCast_mul, Rat.intCast_mul, s1, s2]
        grind
      exact Rat.intCast_inj.mp this
    have eP : P = P' := by
      have a := Nat.dvd_antisymm (prim_dvd g1 hq hs) (prim_dvd g2 hq.symm hs.symm)
      omega
    subst eP
    have eQ : Q = Q' := by
      have : (Q : Rat) = (Q' : Rat) := by rw [q1, q2]
      exact Rat.intCast_inj.mp this
    have eS : S = S' := by
      have : (S : Rat) = (S' : Rat) := by rw [s1, s2]
      exact Rat.intCast_inj.mp this
    rw [eQ, eS, e1, e2]
/-- another root of the same -/
theorem NumIs.cong {a b b' : Rat} {r r' : Int} (h0 : 0 ≤ r) (h0' : 0 ≤ r') (hs : b * b * r = b' * b' * r') (hp : 0 < b ↔ 0 < b') (hz : b = 0 ↔ b' = 0) : ∀ {n : Num}, NumIs a b r n → NumIs a b' r' n := by
  have key : b ≠ 0 → IsSq r → IsSq r' := fun hb h => by
    have hb' : b' ≠ 0 := fun z => hb (hz.mpr z)
    refine isSq_of_rat (x := b * (sq r : Rat) / b') ?_
    have e := sq_cast h
    grind
  have key' : b ≠ 0 → IsSq r' → IsSq r := fun hb h => by
    have hb' : b' ≠ 0 := fun z => hb (hz.mpr z)
    refine isSq_of_rat (x := b' * (sq r' : Rat) / b) ?_
    have e := sq_cast h
    grind
  intro n h
  cases n with
  | q x =>
    obtain ⟨h1, h2⟩ := h
    by_cases hb : b = 0
    · have hb' := hz.mp hb
      refine ⟨.inl hb', ?_⟩
      rw [h2, hb, hb']
      grind
    · have hr : IsSq r := h1.resolve_left hb
      have hr' := key hb hr
      refine ⟨.inr hr', ?_⟩
      rw [h2]
      have e1 := sq_cast hr
      have e2 := sq_cast hr'
      have hb' : b' ≠ 0 := fun z => hb (hz.mpr z)
      have n1 : (0 : Rat) ≤ (sq r : Rat) := Rat.intCast_nonneg.mpr (sq_nn r)
      have n2 : (0 : Rat) ≤ (sq r' : Rat) := Rat.intCast_nonneg.mpr (sq_nn r')
      have e : b * (sq r : Rat) = b' * (sq r' : Rat) := by
        by_cases hp1 : 0 < b
        · have hp2 := hp.mp hp1
          exact eq_of_sq (Rat.mul_nonneg (Rat.le_of_lt hp1) n1) (Rat.mul_nonneg (Rat.le_of_lt hp2) n2) (by grind)
        · have hp2 : ¬ 0 < b' := fun z => hp1 (hp.mpr z)
          have m1 : 0 ≤ -b := by grind
          have m2 : 0 ≤ -b' := by grind
          have := eq_of_sq (Rat.mul_nonneg m1 n1) (Rat.mul_nonneg m2 n2) (by grind)
          grind
      rw [e]
  | r P Q S u =>
    obtain ⟨⟨h1, h2⟩, h3, ⟨h4, h5⟩, h6⟩ := h
    refine ⟨⟨fun z => h1 (hz.mpr z), fun z => h2 (key' h1 z)⟩, h3, ⟨h4, ?_⟩, ?_⟩
    · rw [h5, hs]
    · rw [h6]
      exact decide_eq_decide.mpr hp
end GQ
end

section
set_option linter.all false
/-! QC: numbers made and taken apart; two of one field; signs. -/
namespace GQ
theorem gcd3_dvd (a b c : Nat) : Nat.gcd (Nat.gcd a b) c ∣ a ∧ Nat.gcd (Nat.gcd a b) c ∣ b ∧ Nat.gcd (Nat.gcd a b) c ∣ c :=
  ⟨Nat.dvd_trans (Nat.gcd_dvd_left _ _) (Nat.gcd_dvd_left _ _), Nat.dvd_trans (Nat.gcd_dvd_left _ _) (Nat.gcd_dvd_right _ _), Nat.gcd_dvd_right _ _⟩
theorem fdiv_mul {w : Int} {g : Nat} (h : g ∣ w.natAbs) : (g : Int) * w.fdiv g = w := by
  rw [Int.fdiv_eq_ediv_of_nonneg _ (Int.natCast_nonneg _)]
  exact Int.mul_ediv_cancel' (Int.ofNat_dvd_left.mpr h)
theorem fdiv_abs {w : Int} {g : Nat} (h : g ∣ w.natAbs) (hg : 0 < g) : (w.fdiv g).natAbs = w.natAbs / g := by
  have e := congrArg Int.natAbs (fdiv_mul h)
  rw [Int.natAbs_mul, Int.natAbs_natCast] at e
  rw [← e, Nat.mul_div_cancel_left _ hg]
theorem prim_of {w0 w1 w2 : Int} {g : Nat} (h0 : 0 < w0) (hg : g = Nat.gcd (Nat.gcd w0.natAbs w1.natAbs) w2.natAbs) :
    (0 < w0.fdiv g ∧ Nat.gcd (Nat.gcd (w0.fdiv g).natAbs (w1.fdiv g).natAbs) (w2.fdiv g).natAbs = 1) ∧ (g : Int) * w0.fdiv g = w0 ∧ (g : Int) * w1.fdiv g = w1 ∧ (g : Int) * w2.fdiv g = w2 := by
  obtain ⟨d0, d1, d2⟩ := gcd3_dvd w0.natAbs w1.natAbs w2.natAbs
  rw [← hg] at d0 d1 d2
  have gp : 0 < g := Nat.pos_of_dvd_of_pos d0 (by omega)
  have e0 := fdiv_mul d0
  refine ⟨⟨?_, ?_⟩, e0, fdiv_mul d1, fdiv_mul d2⟩
  · apply Int.lt_of_not_ge
    intro h
    have : (g : Int) * w0.fdiv g ≤ 0 := Int.mul_nonpos_of_nonneg_of_nonpos (Int.natCast_nonneg _) h
    omega
  · rw [fdiv_abs d0 gp, fdiv_abs d1 gp, fdiv_abs d2 gp, Nat.gcd_div d0 d1, Nat.gcd_div (Nat.dvd_gcd d0 d1) d2, ← hg, Nat.div_self gp]
theorem numIs_of {a b : Rat} {r w0 w1 w2 : Int} {g : Nat} (h0 : 0 < w0) (hb : b ≠ 0) (hr : ¬ IsSq r) (e1 : (w1 : Rat) = -(2 * a) * w0) (e2 : (w2 : Rat) = (a * a - b * b * r) * w0) (hg : g = Nat.gcd (Nat.gcd w0.natAbs w1.natAbs) w2.natAbs) :
    NumIs a b r (.r (w0.fdiv g) (w1.fdiv g) (w2.fdiv g) (decide (0 < b))) := by
  obtain ⟨⟨p1, p2⟩, q0, q1, q2⟩ := prim_of h0 hg
  have gp : (g : Rat) ≠ 0 := by
    intro z
    have z2 : g = 0 := Rat.natCast_eq_zero_iff.mp z
    subst z2
    simp at q0
    omega
  have c0 : (g : Rat) * (w0.fdiv g : Int) = (w0 : Rat) := by
    rw [← Rat.intCast_natCast, ← Rat.intCast_mul, q0]
  have c1 : (g : Rat) * (w1.fdiv g : Int) = (w1 : Rat) := by
    rw [← Rat.intCast_natCast, ← Rat.intCast_mul, q1]
  have c2 : (g : Rat) * (w2.fdiv g : Int) = (w2 : Rat) := by
    rw [← Rat.intCast_natCast, ← Rat.intCast_mul, q2]
  refine ⟨⟨hb, hr⟩, ⟨p1, p2⟩, ⟨?_, ?_⟩, rfl⟩
  · generalize (w0.fdiv g : Int) = P at *
    generalize (w1.fdiv g : Int) = Q at *
    grind
  · generalize (w0.fdiv g : Int) = P at *
    generalize (w2.fdiv g : Int) = S at *
    grind
/-! ### taken apart -/
def Num.a : Num → Rat
  | .q x => x
  | .r P Q _ _ => Rat.divInt (-Q) (2 * P)
def Num.b : Num → Rat
  | .q _ => 0
  | .r P _ _ u => Rat.divInt (if u then 1 else -1) (2 * P)
def Num.d : Num → Int
  | .q _ => 1
  | .r P Q S _ => Q * Q - 4 * P * S
/-- the size of a fraction -/
def ab (b : Rat) : Rat := if 0 < b then b else -b
theorem ab_pos {b : Rat} (h : b ≠ 0) : 0 < ab b := by
  unfold ab
  split
  · assumption
  · grind
theorem ab_sq (b : Rat) : ab b * ab b = b * b := by
  unfold ab
  split <;> grind
section
variable {a b : Rat} {r P Q S : Int} {u : Bool}
theorem parts_a (h : NumIs a b r (.r P Q S u)) : (Num.r P Q S u).a = a := by
  obtain ⟨⟨h1, h2⟩, ⟨h3, h4⟩, ⟨h5, h6⟩, h7⟩ := h
  have hP : (P : Rat) ≠ 0 := fun z => by
    have := Rat.intCast_eq_zero_iff.mp z
    omega
  show Rat.divInt (-Q) (2 * P) = a
  rw [fr_eq, Rat.intCast_neg, Rat.intCast_mul, h5]
  have : ((2 : Int) : Rat) = 2 := rfl
  rw [this]
  grind
theorem parts_b (h : NumIs a b r (.r P Q S u)) : (Num.r P Q S u).b = b / (2 * P * ab b) := by
  obtain ⟨⟨h1, h2⟩, ⟨h3, h4⟩, ⟨h5, h6⟩, h7⟩ := h
  have hP : (P : Rat) ≠ 0 := fun z => by
    have := Rat.intCast_eq_zero_iff.mp z
    omega
  have ha := ab_pos h1
  show Rat.divInt (if u then 1 else -1) (2 * P) = _
  rw [fr_eq, Rat.intCast_mul, h7]
  have e2 : ((2 : Int) : Rat) = 2 := rfl
  rw [e2]
  unfold ab at ha ⊢
  by_cases hp : 0 < b
  · rw [if_pos hp] at ha ⊢
    rw [if_pos (decide_eq_true hp)]
    have e1 : ((1 : Int) : Rat) = 1 := rfl
    rw [e1]
    grind
  · rw [if_neg hp] at ha ⊢
    rw [if_neg (by simpa using hp)]
    have e1 : ((-1 : Int) : Rat) = -1 := rfl
    rw [e1]
    grind
theorem parts_d (h : NumIs a b r (.r P Q S u)) : ((Num.r P Q S u).d : Rat) = 4 * P * P * (b * b * r) := by
  obtain ⟨⟨h1, h2⟩, ⟨h3, h4⟩, ⟨h5, h6⟩, h7⟩ := h
  show ((Q * Q - 4 * P * S : Int) : Rat) = _
  simp only [Rat.intCast_sub, Rat.intCast_mul, h5, h6]
  have e1 : ((4 : Int) : Rat) = 4 := rfl
  rw [e1]
  grind
theorem parts_pos (h0 : 0 ≤ r) (h : NumIs a b r (.r P Q S u)) : 0 < (Num.r P Q S u).d := by
  have e := parts_d h
  obtain ⟨⟨h1, h2⟩, ⟨h3, h4⟩, _⟩ := h
  have hr := not_sq_pos h0 h2
  have hP : (0 : Rat) < (P : Rat) := Rat.intCast_pos.mpr h3
  have hR : (0 : Rat) < (r : Rat) := Rat.intCast_pos.mpr hr
  have hb : 0 < b * b := by
    have := ab_pos h1
    rw [← ab_sq]
    exact Rat.mul_pos this this
  refine Rat.intCast_pos.mp ?_
  rw [e]
  have h4' : (0 : Rat) < 4 := by decide
  exact Rat.mul_pos (Rat.mul_pos (Rat.mul_pos h4' hP) hP) (Rat.mul_pos hb hR)
theorem parts_nsq (h : NumIs a b r (.r P Q S u)) : ¬ IsSq (Num.r P Q S u).d := by
  have e := parts_d h
  obtain ⟨⟨h1, h2⟩, ⟨h3, h4⟩, _⟩ := h
  intro z
  have hP : (P : Rat) ≠ 0 := fun z => by
    have := Rat.intCast_eq_zero_iff.mp z
    omega
  refine h2 (isSq_of_rat (x := (sq (Num.r P Q S u).d : Rat) / (2 * P * b)) ?_)
  have e2 := sq_cast z
  rw [e] at e2
  grind
end
theorem k_aux {P A u r : Rat} (hP : P ≠ 0) (hA : A ≠ 0) (hu : A * A = u * u) : 4 * P * P * (u * u * r) * (1 / (2 * P * A) * (1 / (2 * P * A))) = r := by
  rw [← hu]
  grind
theorem p_aux {P P' A C u v r : Rat} (hu : A * A = u * u) (hv : C * C = v * v) : 4 * P * P' * u * v * r * (4 * P * P' * u * v * r) = 4 * P * P' * A * C * r * (4 * P * P' * A * C * r) := by
  have e : 4 * P * P' * u * v * r * (4 * P * P' * u * v * r) = 16 * P * P * P' * P' * r * r * (u * u) * (v * v) := by grind
  rw [e, ← hu, ← hv]
  grind
theorem rr_aux {P P' A C u v r : Rat} (hP : P ≠ 0) (hP' : P' ≠ 0) (hA : A ≠ 0) (hC : C ≠ 0) (hr : r ≠ 0) (hu : A * A = u * u) : v / (2 * P' * C) * (4 * P * P' * A * C * r / (4 * P * P * (u * u * r))) = v * (1 / (2 * P * A)) := by
  rw [← hu]
  grind
/-! ### two numbers of one field -/
structure InOne (x u y v : Rat) (r : Int) (a b c e : Rat) (s : Int) : Prop where
  ex : ((IsSq r ∨ (u = 0 ∧ v = 0)) ∧ a = x + u * (sq r : Rat) ∧ c = y + v * (sq r : Rat) ∧ b = 0 ∧ e = 0 ∧ s = 1) ∨
    (¬ IsSq r ∧ ¬ (u = 0 ∧ v = 0) ∧ a = x ∧ c = y ∧ 0 < s ∧ ∃ κ : Rat, 0 < κ ∧ b = u * κ ∧ e = v * κ ∧ (s : Rat) * (κ * κ) = r)
section
variable {x u y v : Rat} {r : Int} {n m : Num}
theorem both_sq {P Q S P' Q' S' : Int} {w w' : Bool} (h1 : NumIs x u r (.r P Q S w)) (h2 : NumIs y v r (.r P' Q' S' w')) : IsSq ((Num.r P Q S w).d * (Num.r P' Q' S' w').d) ∧ (sq ((Num.r P Q S w).d * (Num.r P' Q' S' w').d) : Rat) = ab (4 * P * P' * u * v * r) := by
  have e : (4 * P * P' * u * v * r) * (4 * P * P' * u * v * r) = (((Num.r P Q S w).d * (Num.r P' Q' S' w').d : Int) : Rat) := by
    rw [Rat.intCast_mul, parts_d h1, parts_d h2]
    grind
  refine ⟨isSq_of_rat e, sq_eq ?_ ?_⟩
  · unfold ab
    split <;> grind
  · rw [ab_sq, e]
theorem inOne_qq (p q : Rat) (h1 : NumIs x u r (.q p)) (h2 : NumIs y v r (.q q)) : InOne x u y v r p 0 q 0 1 := by
  refine ⟨.inl ⟨?_, h1.2, h2.2, rfl, rfl, rfl⟩⟩
  rcases h1.1 with z | z
  · rcases h2.1 with z2 | z2
    · exact .inr ⟨z, z2⟩
    · exact .inl z2
  · exact .inl z
theorem inOne_qr (p : Rat) {P Q S : Int} {w : Bool} (h0 : 0 ≤ r) (h1 : NumIs x u r (.q p)) (h2 : NumIs y v r (.r P Q S w)) : InOne x u y v r p 0 (Num.r P Q S w).a (Num.r P Q S w).b (Num.r P Q S w).d := by
  have e1 := parts_a h2
  have e2 := parts_b h2
  have e3 := parts_d h2
  have e4 := parts_pos h0 h2
  obtain ⟨⟨g1, g2⟩, ⟨g3, _⟩, _⟩ := h2
  have hu : u = 0 := h1.1.resolve_right g2
  have hP : (0 : Rat) < (P : Rat) := Rat.intCast_pos.mpr g3
  have ha := ab_pos g1
  refine ⟨.inr ⟨g2, fun z => g1 z.2, ?_, e1, e4, 1 / (2 * P * ab v), ?_, ?_, ?_, ?_⟩⟩
  · rw [h1.2, hu]
    grind
  · have : (0 : Rat) < 2 * P * ab v := Rat.mul_pos (Rat.mul_pos (by decide) hP) ha
    rw [Rat.div_def, Rat.one_mul]
    exact Rat.inv_pos.mpr this
  · rw [hu]
    grind
  · rw [e2]
    grind
  · rw [e3]
    have := ab_sq v
    grind
theorem inOne_rq (q : Rat) {P Q S : Int} {w : Bool} (h0 : 0 ≤ r) (h1 : NumIs x u r (.r P Q S w)) (h2 : NumIs y v r (.q q)) : InOne x u y v r (Num.r P Q S w).a (Num.r P Q S w).b q 0 (Num.r P Q S w).d := by
  have e1 := parts_a h1
  have e2 := parts_b h1
  have e3 := parts_d h1
  have e4 := parts_pos h0 h1
  obtain ⟨⟨g1, g2⟩, ⟨g3, _⟩, _⟩ := h1
  have hv : v = 0 := h2.1.resolve_right g2
  have hP : (0 : Rat) < (P : Rat) := Rat.intCast_pos.mpr g3
  have ha := ab_pos g1
  refine ⟨.inr ⟨g2, fun z => g1 z.1, e1, ?_, e4, 1 / (2 * P * ab u), ?_, ?_, ?_, ?_⟩⟩
  · rw [h2.2, hv]
    grind
  · have : (0 : Rat) < 2 * P * ab u := Rat.mul_pos (Rat.mul_pos (by decide) hP) ha
    rw [Rat.div_def, Rat.one_mul]
    exact Rat.inv_pos.mpr this
  · rw [e2]
    grind
  · rw [hv]
    grind
  · rw [e3]
    have := ab_sq u
    grind
theorem inOne_rr {P Q S P' Q' S' : Int} {w w' : Bool} (h0 : 0 ≤ r) (h1 : NumIs x u r (.r P Q S w)) (h2 : NumIs y v r (.r P' Q' S' w')) :
    InOne x u y v r (Num.r P Q S w).a (Num.r P Q S w).b (Num.r P' Q' S' w').a ((Num.r P' Q' S' w').b * Rat.divInt (sq ((Num.r P Q S w).d * (Num.r P' Q' S' w').d)) (Num.r P Q S w).d) (Num.r P Q S w).d := by
  have e1 := parts_a h1
  have e2 := parts_b h1
  have e3 := parts_d h1
  have e4 := parts_pos h0 h1
  have f1 := parts_a h2
  have f2 := parts_b h2
  have f3 := parts_d h2
  have s2 := (both_sq h1 h2).2
  obtain ⟨⟨g1, g2⟩, ⟨g3, _⟩, _⟩ := h1
  obtain ⟨⟨k1, k2⟩, ⟨k3, _⟩, _⟩ := h2
  have hP : (0 : Rat) < (P : Rat) := Rat.intCast_pos.mpr g3
  have hP' : (0 : Rat) < (P' : Rat) := Rat.intCast_pos.mpr k3
  have hR : (0 : Rat) < (r : Rat) := Rat.intCast_pos.mpr (not_sq_pos h0 g2)
  have ha := ab_pos g1
  have hb := ab_pos k1
  have hab : ab (4 * P * P' * u * v * r) = 4 * P * P' * ab u * ab v * r := by
    have n1 : 0 ≤ ab (4 * P * P' * u * v * r) := by
      unfold ab
      split <;> grind
    have n2 : 0 ≤ 4 * (P : Rat) * P' * ab u * ab v * r := Rat.le_of_lt (Rat.mul_pos (Rat.mul_pos (Rat.mul_pos (Rat.mul_pos (Rat.mul_pos (by decide) hP) hP') ha) hb) hR)
    refine eq_of_sq n1 n2 ?_
    rw [ab_sq]
    exact p_aux (ab_sq u) (ab_sq v)
  refine ⟨.inr ⟨g2, fun z => g1 z.1, e1, f1, e4, 1 / (2 * P * ab u), ?_, ?_, ?_, ?_⟩⟩
  · have : (0 : Rat) < 2 * P * ab u := Rat.mul_pos (Rat.mul_pos (by decide) hP) ha
    rw [Rat.div_def, Rat.one_mul]
    exact Rat.inv_pos.mpr this
  · rw [e2]
    grind
  · rw [f2, fr_eq, s2, e3, hab]
    exact rr_aux (Rat.ne_of_gt hP) (Rat.ne_of_gt hP') (Rat.ne_of_gt ha) (Rat.ne_of_gt hb) (Rat.ne_of_gt hR) (ab_sq u)
  · rw [e3]
    exact k_aux (Rat.ne_of_gt hP) (Rat.ne_of_gt ha) (ab_sq u)
end
end GQ
end

section
set_option linter.all false
/-! QD: places led, signs of a + b root(r). -/
namespace GQ
theorem inOne_num {x u y v : Rat} {r : Int} {a b c e : Rat} {s : Int} (h : InOne x u y v r a b c e s) (h0 : 0 ≤ r) (X Y Z : Rat) {n : Num} (hn : NumIs (X * a + Y * c + Z) (X * b + Y * e) s n) : NumIs (X * x + Y * y + Z) (X * u + Y * v) r n := by
  rcases h.ex with ⟨hr, ea, ec, eb, ee, es⟩ | ⟨hr, hz, ea, ec, hs, κ, hk, eb, ee, ek⟩
  · subst ea ec eb ee es
    cases n with
    | q w =>
      refine ⟨?_, ?_⟩
      · rcases hr with z | ⟨z1, z2⟩
        · exact .inr z
        · exact .inl (by rw [z1, z2]; grind)
      · rw [hn.2]
        grind
    | r P Q S w => exact absurd (by grind) hn.1.1
  · subst ea ec eb ee
    have e : X * (u * κ) + Y * (v * κ) = (X * u + Y * v) * κ := by grind
    rw [e] at hn
    generalize X * u + Y * v = t at *
    refine NumIs.cong (Int.le_of_lt hs) h0 ?_ ?_ ?_ hn
    · rw [← ek]
      grind
    · constructor
      · intro z
        exact (Rat.mul_pos_iff_of_pos_right hk).mp z
      · intro z
        exact Rat.mul_pos z hk
    · constructor
      · intro z
        rcases Rat.mul_eq_zero.mp z with z | z
        · exact z
        · exact absurd z (Rat.ne_of_gt hk)
      · intro z
        rw [z]
        grind
/-! ### signs -/
def sg (q : Rat) : Int := if 0 < q then 1 else if q < 0 then -1 else 0
def sgQ (a b : Rat) (r : Int) : Int :=
  if r ≤ 0 ∨ b = 0 then sg a
  else if 0 < b then (if 0 < a ∨ a * a < b * b * r then 1 else if a * a = b * b * r then 0 else -1)
  else (if a < 0 ∨ a * a < b * b * r then -1 else if a * a = b * b * r then 0 else 1)
theorem sg_pos {q : Rat} (h : 0 < q) : sg q = 1 := if_pos h
theorem sg_neg {q : Rat} (h : q < 0) : sg q = -1 := by
  unfold sg
  rw [if_neg (by grind), if_pos h]
theorem sg_zero : sg 0 = 0 := by decide
theorem sg_mul {c q : Rat} (h : 0 < c) : sg (c * q) = sg q := by
  unfold sg
  have a : 0 < c * q ↔ 0 < q := Rat.mul_pos_iff_of_pos_left h
  have b : c * q < 0 ↔ q < 0 := Rat.mul_neg_iff_of_pos_left h
  simp only [a, b]
theorem sgQ_scale {a b c : Rat} {r : Int} (h : 0 < c) : sgQ (c * a) (c * b) r = sgQ a b r := by
  unfold sgQ
  have hc : 0 < c * c := Rat.mul_pos h h
  have e1 : c * b = 0 ↔ b = 0 := by
    constructor
    · intro z
      rcases Rat.mul_eq_zero.mp z with z | z
      · exact absurd z (Rat.ne_of_gt h)
      · exact z
    · intro z
      rw [z]
      grind
  have e2 : 0 < c * b ↔ 0 < b := Rat.mul_pos_iff_of_pos_left h
  have e3 : 0 < c * a ↔ 0 < a := Rat.mul_pos_iff_of_pos_left h
  have e4 : c * a < 0 ↔ a < 0 := Rat.mul_neg_iff_of_pos_left h
  have f1 : c * a * (c * a) = c * c * (a * a) := by grind
  have f2 : c * b * (c * b) * (r : Rat) = c * c * (b * b * r) := by grind
  have e5 : c * a * (c * a) < c * b * (c * b) * (r : Rat) ↔ a * a < b * b * r := by
    rw [f1, f2]
    exact Rat.mul_lt_mul_left hc
  have e6 : c * a * (c * a) = c * b * (c * b) * (r : Rat) ↔ a * a = b * b * r := by
    rw [f1, f2]
    constructor
    · intro z
      have hne := Rat.ne_of_gt hc
      generalize a * a = s at *
      generalize b * b * (r : Rat) = t at *
      generalize c * c = d at *
      have : d * (s - t) = 0 := by grind
      rcases Rat.mul_eq_zero.mp this with y | y
      · exact absurd y hne
      · grind
    · intro z
      rw [z]
  simp only [e1, e2, e3, e4, e5, e6, sg_mul h]
theorem sgQ_cong {a b b' : Rat} {r r' : Int} (hz : b = 0 ↔ b' = 0) (hp : 0 < b ↔ 0 < b') (hr : r ≤ 0 ↔ r' ≤ 0) (hs : b * b * r = b' * b' * r') : sgQ a b r = sgQ a b' r' := by
  unfold sgQ
  simp only [hz, hp, hr, hs]
/-- where the root is whole -/
theorem sq_lt {x y : Rat} (hx : 0 ≤ x) (hy : 0 ≤ y) : x * x < y * y ↔ x < y := by
  constructor
  · intro h
    apply Rat.not_le.mp
    intro z
    have h1 := Rat.mul_le_mul_of_nonneg_left z hy
    have h2 := Rat.mul_le_mul_of_nonneg_right z hx
    grind
  · intro h
    have hp : 0 < y := by grind
    have h1 := Rat.mul_le_mul_of_nonneg_left (Rat.le_of_lt h) hx
    have h2 := Rat.mul_lt_mul_of_pos_right h hp
    grind
theorem sq_eqv {x y : Rat} (hx : 0 ≤ x) (hy : 0 ≤ y) : x * x = y * y ↔ x = y := ⟨eq_of_sq hx hy, fun h => by rw [h]⟩
theorem sgQ_sq {a b : Rat} {r : Int} (h0 : 0 ≤ r) (h : IsSq r) : sg (a + b * (sq r : Rat)) = sgQ a b r := by
  have e := sq_cast h
  have n : (0 : Rat) ≤ (sq r : Rat) := Rat.intCast_nonneg.mpr (sq_nn r)
  by_cases hr : r ≤ 0
  · have hr0 : r = 0 := by omega
    subst hr0
    unfold sgQ
    rw [if_pos (.inl hr)]
    have : sq 0 = 0 := by decide
    rw [this]
    congr 1
    have : ((0 : Int) : Rat) = 0 := rfl
    rw [this]
    grind
  · by_cases hb : b = 0
    · unfold sgQ
      rw [if_pos (.inr hb), hb]
      congr 1
      grind
    · have hk : (0 : Rat) < (sq r : Rat) := by
        have : (sq r : Rat) ≠ 0 := fun z => by
          rw [z] at e
          have : (r : Rat) = 0 := by grind
          have := Rat.intCast_eq_zero_iff.mp this
          omega
        grind
      unfold sgQ
      rw [if_neg (by intro z; rcases z with z | z; exact hr z; exact hb z)]
      generalize (sq r : Rat) = k at *
      have eb : b * b * (r : Rat) = (b * k) * (b * k) := by
        rw [← e]
        grind
      rw [eb]
      by_cases hp : 0 < b
      · rw [if_pos hp]
        have hbk := Rat.mul_pos hp hk
        generalize b * k = t at *
        by_cases ha : 0 < a
        · rw [if_pos (.inl ha)]
          exact sg_pos (by grind)
        · have ha' : 0 ≤ -a := by grind
          have e1 : a * a = -a * -a := by grind
          have l := sq_lt ha' (Rat.le_of_lt hbk)
          have m := sq_eqv ha' (Rat.le_of_lt hbk)
          rw [← e1] at l m
          by_cases hl : -a < t
          · rw [if_pos (.inr (l.mpr hl))]
            exact sg_pos (by grind)
          · rw [if_neg (by intro z; rcases z with z | z; exact ha z; exact hl (l.mp z))]
            by_cases hm : -a = t
            · rw [if_pos (m.mpr hm)]
              have : a + t = 0 := by grind
              rw [this]
              exact sg_zero
            · rw [if_neg (fun z => hm (m.mp z))]
              exact sg_neg (by grind)
      · rw [if_neg hp]
        have hbk : 0 < -b * k := Rat.mul_pos (by grind) hk
        have e2 : b * k * (b * k) = -b * k * (-b * k) := by grind
        have e3 : a + b * k = a - (-b * k) := by grind
        rw [e2, e3]
        generalize -b * k = t at *
        by_cases ha : a < 0
        · rw [if_pos (.inl ha)]
          exact sg_neg (by grind)
        · have ha' : 0 ≤ a := by grind
          have l := sq_lt ha' (Rat.le_of_lt hbk)
          have m := sq_eqv ha' (Rat.le_of_lt hbk)
          by_cases hl : a < t
          · rw [if_pos (.inr (l.mpr hl))]
            exact sg_neg (by grind)
          · rw [if_neg (by intro z; rcases z with z | z; exact ha z; exact hl (l.mp z))]
            by_cases hm : a = t
            · rw [if_pos (m.mpr hm)]
              have : a - t = 0 := by grind
              rw [this]
              exact sg_zero
            · rw [if_neg (fun z => hm (m.mp z))]
              exact sg_pos (by grind)
/-- the value of a curve at a place, over one field: V1 and V2 are made alike of both -/
theorem inOne_sg {x u y v : Rat} {r : Int} {a b c e : Rat} {s : Int} (h : InOne x u y v r a b c e s) (h0 : 0 ≤ r) (k α β γ : Rat) :
    sgQ (k * (a * a + c * c + (b * b + e * e) * s) + (α * a + β * c) + γ) (2 * k * (a * b + c * e) + (α * b + β * e)) s = sgQ (k * (x * x + y * y + (u * u + v * v) * r) + (α * x + β * y) + γ) (2 * k * (x * u + y * v) + (α * u + β * v)) r := by
  rcases h.ex with ⟨hr, ea, ec, eb, ee, es⟩ | ⟨hr, hz, ea, ec, hs, κ, hk, eb, ee, ek⟩
  · subst ea ec eb ee es
    have hsr : IsSq r → (sq r : Rat) * (sq r : Rat) = (r : Rat) := sq_cast
    rcases hr with hr | ⟨z1, z2⟩
    · rw [← sgQ_sq h0 hr]
      have e := sq_cast hr
      have z : 2 * k * ((x + u * (sq r : Rat)) * 0 + (y + v * (sq r : Rat)) * 0) + (α * 0 + β * 0) = 0 := by grind
      rw [z]
      unfold sgQ
      rw [if_pos (.inr rfl)]
      congr 1
      grind
    · subst z1 z2
      have z : 2 * k * ((x + 0 * (sq r : Rat)) * 0 + (y + 0 * (sq r : Rat)) * 0) + (α * 0 + β * 0) = 0 := by grind
      have z' : 2 * k * (x * 0 + y * 0) + (α * 0 + β * 0) = 0 := by grind
      rw [z, z']
      unfold sgQ
      rw [if_pos (.inr rfl), if_pos (.inr rfl)]
      congr 1
      grind
  · subst ea ec eb ee
    have e1 : (u * κ * (u * κ) + v * κ * (v * κ)) * (s : Rat) = (u * u + v * v) * r := by
      rw [← ek]
      grind
    have e2 : 2 * k * (a * (u * κ) + c * (v * κ)) + (α * (u * κ) + β * (v * κ)) = (2 * k * (a * u + c * v) + (α * u + β * v)) * κ := by grind
    rw [e1, e2]
    generalize 2 * k * (a * u + c * v) + (α * u + β * v) = t at *
    refine sgQ_cong ?_ ?_ ?_ ?_
    · constructor
      · intro z
        rcases Rat.mul_eq_zero.mp z with z | z
        · exact z
        · exact absurd z (Rat.ne_of_gt hk)
      · intro z
        rw [z]
        grind
    · constructor
      · intro z
        exact (Rat.mul_pos_iff_of_pos_right hk).mp z
      · intro z
        exact Rat.mul_pos z hk
    · have := not_sq_pos h0 hr
      omega
    · rw [← ek]
      grind
end GQ
end

section
set_option Elab.async false
set_option linter.all false
set_option maxRecDepth 100000
/-! GS: data of the program; what its defs promise, by data. -/
namespace GD
open PySem PySem.Spec PyProof.Rows L2 GQ
def encQ (q : Rat) : PyData := .tuple [.int q.num, .int q.den]
def encP (x y : Rat) : PyData := .tuple [encQ x, encQ y]
def encN : Num → PyData
  | .q x => encQ x
  | .r P Q S u => .tuple [.int P, .int Q, .int S, .bool u]
structure Lead where
  a : Rat
  b : Rat
  m : Bool
  x : Rat
  y : Rat
def encL (l : Lead) : PyData := .tuple [encQ l.a, encQ l.b, .bool l.m, encP l.x l.y]
inductive Curve where
  | line (a b c : Rat)
  | circ (x y q : Rat)
def encC : Curve → PyData
  | .line a b c => .tuple [.str "line", encQ a, encQ b, encQ c]
  | .circ x y q => .tuple [.str "circle", encQ x, encQ y, encQ q]
def dZero : PyData := .tuple [.int 0, .int 1]
def dOne : PyData := .tuple [.int 1, .int 1]
def dTwo : PyData := .tuple [.int 2, .int 1]
def dStart : PyData := .tuple [dZero, dZero]

/-! ### forms of promises -/
def sp1 {α : Type} (args : α → List PyData) (pre : α → Prop) (res : α → PyData) : List PyData → MD := fun ds P => ∃ a, ds = args a ∧ pre a ∧ P (res a)
def spN {α : Type} (args : α → List PyData) (pre : α → Prop) (res : α → PyData → Prop) : List PyData → MD := fun ds P => ∃ a, ds = args a ∧ pre a ∧ ∀ d, res a d → P d
theorem sp1_mono {α : Type} {args : α → List PyData} {pre : α → Prop} {res : α → PyData} (ds : List PyData) (P P' : PyData → Prop) (k : ∀ d, P d → P' d) : sp1 args pre res ds P → sp1 args pre res ds P' := fun ⟨a, e, p, h⟩ => ⟨a, e, p, k _ h⟩
theorem spN_mono {α : Type} {args : α → List PyData} {pre : α → Prop} {res : α → PyData → Prop} (ds : List PyData) (P P' : PyData → Prop) (k : ∀ d, P d → P' d) : spN args pre res ds P → spN args pre res ds P' := fun ⟨a, e, p, h⟩ => ⟨a, e, p, fun d q => k _ (h d q)⟩
theorem sp1_len {α : Type} {args : α → List PyData} {pre : α → Prop} {res : α → PyData} {n : Nat} (hn : ∀ a, (args a).length = n) (ds : List PyData) (P : PyData → Prop) : sp1 args pre res ds P → ds.length = n := fun ⟨a, e, _⟩ => by rw [e]; exact hn a
theorem spN_len {α : Type} {args : α → List PyData} {pre : α → Prop} {res : α → PyData → Prop} {n : Nat} (hn : ∀ a, (args a).length = n) (ds : List PyData) (P : PyData → Prop) : spN args pre res ds P → ds.length = n := fun ⟨a, e, _⟩ => by rw [e]; exact hn a

/-! ### bounds -/
theorem _root_.GQ.Bi.sm {n : Nat} {i : Int} (h : Bi n i) (k : n ≤ 400000) : Sm i := h.mono k
theorem _root_.GQ.Bi.dv {n : Nat} {i : Int} (h : Bi n i) (k : n ≤ 9000) (h0 : i ≠ 0) : Dv i := ⟨h0, h.mono k⟩
/-- two fractions that may be added, multiplied -/
def Ok2 (p q : Rat) : Prop := ∃ n d m e, (B n d p ∧ B m e q) ∧ n ≤ 100000 ∧ m ≤ 100000 ∧ d + e ≤ 9000
theorem Ok2.of {n d m e : Nat} {p q : Rat} (h : B n d p) (k : B m e q) (h1 : n ≤ 100000) (h2 : m ≤ 100000) (h3 : d + e ≤ 9000) : Ok2 p q := ⟨n, d, m, e, ⟨h, k⟩, h1, h2, h3⟩
/-- told numbers, taken apart and made -/
def NB : Num → Prop
  | .q x => B 531 480 x
  | .r P Q S _ => (0 < P ∧ Bi 960 P) ∧ Bi 981 Q ∧ Bi 1061 S
/-- a place in whole numbers: ((X + U root(R)) / D, (Y + V root(R)) / D) -/
structure Spot where
  X : Int
  U : Int
  Y : Int
  V : Int
  R : Int
  D : Int
structure SB (s : Spot) : Prop where
  d0 : 0 < s.D
  r0 : 0 ≤ s.R
  hX : Bi 500 s.X
  hY : Bi 500 s.Y
  hU : Bi 230 s.U
  hV : Bi 230 s.V
  hR : Bi 600 s.R
  hD : Bi 480 s.D
def Spot.x (s : Spot) : Rat := (s.X : Rat) / (s.D : Rat)
def Spot.u (s : Spot) : Rat := (s.U : Rat) / (s.D : Rat)
def Spot.y (s : Spot) : Rat := (s.Y : Rat) / (s.D : Rat)
def Spot.v (s : Spot) : Rat := (s.V : Rat) / (s.D : Rat)
structure Told (s : Spot) (n m : Num) : Prop where
  sb : SB s
  isX : NumIs s.x s.u s.R n
  isY : NumIs s.y s.v s.R m
  nbX : NB n
  nbY : NB m
structure LB (l : Lead) : Prop where
  ha : B 44 44 l.a
  hb : B 44 44 l.b
  hx : B 60 44 l.x
  hy : B 60 44 l.y
  nz : l.a ≠ 0 ∨ l.b ≠ 0
def CB : Curve → Prop
  | .line a b c => (B 27 13 a ∧ B 27 13 b ∧ B 92 46 c) ∧ (a ≠ 0 ∨ b ≠ 0)
  | .circ x y q => (B 60 26 x ∧ B 60 26 y ∧ B 74 40 q) ∧ 0 < q
/-! led -/
def Lead.cx (l : Lead) (x y : Rat) : Rat := l.a * x - l.b * (if l.m then -y else y)
def Lead.cy (l : Lead) (x y : Rat) : Rat := l.a * (if l.m then -y else y) + l.b * x
def Lead.n (l : Lead) : Rat := l.a * l.a + l.b * l.b
/-! ### whole numbers, fractions -/
def S_p_is_whole : List PyData → MD := sp1 (α := Int) (fun i => [.int i]) (fun _ => True) fun _ => .bool true
def S_p_is_truth : List PyData → MD := sp1 (α := Bool) (fun b => [.bool b]) (fun _ => True) fun _ => .bool true
/-- what are_wholes is asked: a pair, a triple of whole numbers; a tuple of four for a pair -/
inductive AW where
  | two (a b : Int)
  | three (a b c : Int)
  | four (a b c d : PyData)
def S_p_are_wholes : List PyData → MD := sp1 (α := AW) (fun w => match w with
  | .two a b => [.tuple [.int a, .int b], .int 2]
  | .three a b c => [.tuple [.int a, .int b, .int c], .int 3]
  | .four a b c d => [.tuple [a, b, c, d], .int 2]) (fun _ => True) fun w => match w with
  | .four _ _ _ _ => .bool false
  | _ => .bool true
def S_p_is_ratio : List PyData → MD := sp1 (α := Num) (fun n => [encN n]) (fun _ => True) fun n => match n with
  | .q _ => .bool true
  | .r _ _ _ _ => .bool false
def S_p_ratio : List PyData → MD := sp1 (α := Int × Int) (fun a => [.int a.1, .int a.2]) (fun a => 0 < a.2 ∧ Bi 9000 a.2) fun a => encQ (Rat.divInt a.1 a.2)
def S_p_plus : List PyData → MD := sp1 (α := Rat × Rat) (fun a => [encQ a.1, encQ a.2]) (fun a => Ok2 a.1 a.2) fun a => encQ (a.1 + a.2)
def S_p_minus : List PyData → MD := sp1 (α := Rat × Rat) (fun a => [encQ a.1, encQ a.2]) (fun a => Ok2 a.1 a.2) fun a => encQ (a.1 - a.2)
def S_p_times : List PyData → MD := sp1 (α := Rat × Rat) (fun a => [encQ a.1, encQ a.2]) (fun a => Ok2 a.1 a.2) fun a => encQ (a.1 * a.2)
def S_p_over : List PyData → MD := sp1 (α := Rat × Rat) (fun a => [encQ a.1, encQ a.2]) (fun a => 0 < a.2 ∧ B 4000 4000 a.1 ∧ B 4000 4000 a.2) fun a => encQ (a.1 / a.2)
def S_p_opposite : List PyData → MD := sp1 (α := Rat) (fun a => [encQ a]) (fun _ => True) fun a => encQ (-a)
def S_p_sign_of : List PyData → MD := sp1 (α := Rat) (fun a => [encQ a]) (fun _ => True) fun a => .int (sg a)
def S_p_shared_under : List PyData → MD := sp1 (α := Rat × Rat) (fun a => [.tuple [encQ a.1, encQ a.2]]) (fun a => a.1.den < 2 ^ 9000 ∧ a.2.den < 2 ^ 9000) fun a => .int (Nat.lcm a.1.den a.2.den : Nat)
def S_p_is_square : List PyData → MD := sp1 (α := Int) (fun r => [.int r]) (fun r => 0 ≤ r ∧ Bi 13000 r) fun r => .bool (decide (IsSq r))
/-! ### numbers -/
structure ANum where
  n : Num
  a : Rat
  b : Rat
  r : Int
def ANum.ok (t : ANum) : Prop := (NumIs t.a t.b t.r t.n ∧ 0 ≤ t.r) ∧ NB t.n
def isR : Num → Prop
  | .q _ => False
  | .r _ _ _ _ => True
def S_p_is_rooted : List PyData → MD := sp1 (α := ANum) (fun t => [encN t.n]) (fun t => isR t.n ∧ t.ok) fun _ => .bool true
def S_p_is_numbered : List PyData → MD := sp1 (α := ANum) (fun t => [encN t.n]) (fun t => t.ok) fun _ => .bool true
def S_p_parts_of : List PyData → MD := sp1 (α := Num) (fun n => [encN n]) (fun n => NB n) fun n => .tuple [encQ n.a, encQ n.b, .int n.d]
def S_p_number_from : List PyData → MD := spN (α := Rat × Rat × Int) (fun t => [encQ t.1, encQ t.2.1, .int t.2.2]) (fun t => 0 ≤ t.2.2 ∧ Bi 2050 t.2.2 ∧ B 2200 2100 t.1 ∧ B 1400 2250 t.2.1) fun t d => ∃ n, NumIs t.1 t.2.1 t.2.2 n ∧ d = encN n
structure SgOk (a b : Rat) (r : Int) : Prop where
  hr0 : 0 ≤ r
  hr : Bi 2050 r
  ha : B 20000 4500 a
  hb : B 20000 4499 b
  haa : B 40000 4500 (a * a)
  hbb : B 60000 4500 (b * b * r)
def S_p_sign_one : List PyData → MD := sp1 (α := Rat × Rat × Int) (fun t => [encQ t.1, encQ t.2.1, .int t.2.2]) (fun t => SgOk t.1 t.2.1 t.2.2) fun t => .int (sgQ t.1 t.2.1 t.2.2)
structure ATwo where
  s : Spot
  n : Num
  m : Num
def S_p_do_lie_in_one : List PyData → MD := sp1 (α := ATwo) (fun t => [encN t.n, encN t.m]) (fun t => Told t.s t.n t.m) fun _ => .bool true
/-- what in_one gives of a told place -/
structure InB (s : Spot) (a b c e : Rat) (r : Int) : Prop where
  is : InOne s.x s.u s.y s.v s.R a b c e r
  ha : B 981 961 a
  hb : B 1 961 b
  hc : B 981 961 c
  he : B 231 1191 e
  hr : Bi 2025 r
  hq : b = 0 → e = 0 → B 531 480 a ∧ B 531 480 c
def S_p_in_one : List PyData → MD := spN (α := ATwo) (fun t => [encN t.n, encN t.m]) (fun t => Told t.s t.n t.m) fun t d => ∃ a b c e r, InB t.s a b c e r ∧ d = .tuple [encQ a, encQ b, encQ c, encQ e, .int r]
/-! ### points, places, curves, leads -/
def S_p_is_pointed : List PyData → MD := sp1 (α := Rat × Rat) (fun a => [encP a.1 a.2]) (fun _ => True) fun _ => .bool true
def S_p_is_placed : List PyData → MD := sp1 (α := ATwo) (fun t => [.tuple [encN t.n, encN t.m]]) (fun t => Told t.s t.n t.m) fun _ => .bool true
def S_p_is_curved : List PyData → MD := sp1 (α := Curve) (fun c => [encC c]) (fun c => CB c) fun _ => .bool true
def S_p_is_line : List PyData → MD := sp1 (α := Curve) (fun c => [encC c]) (fun _ => True) fun c => match c with
  | .line _ _ _ => .bool true
  | .circ _ _ _ => .bool false
/-- the value of a curve at a place, in two parts -/
def val1 (c : Curve) (x u y v : Rat) (r : Int) : Rat := match c with
  | .line a b c => a * x + b * y - c
  | .circ p q s => (x - p) * (x - p) + (y - q) * (y - q) + (u * u + v * v) * r - s
def val2 (c : Curve) (x u y v : Rat) : Rat := match c with
  | .line a b _ => a * u + b * v
  | .circ p q _ => 2 * ((x - p) * u + (y - q) * v)
structure ACur where
  c : Curve
  s : Spot
  n : Num
  m : Num
/-- a curve and a place of which the value is not long -/
structure ACur.ok (t : ACur) : Prop where
  cb : CB t.c
  told : Told t.s t.n t.m
  v1 : B 2000 1300 (val1 t.c t.s.x t.s.u t.s.y t.s.v t.s.R)
  v2 : B 2000 1300 (val2 t.c t.s.x t.s.u t.s.y t.s.v)
def S_p_sign_by : List PyData → MD := sp1 (α := ACur) (fun t => [encC t.c, .tuple [encN t.n, encN t.m]]) (fun t => t.ok) fun t => .int (sgQ (val1 t.c t.s.x t.s.u t.s.y t.s.v t.s.R) (val2 t.c t.s.x t.s.u t.s.y t.s.v) t.s.R)
def S_p_is_led : List PyData → MD := sp1 (α := Lead) (fun l => [encL l]) (fun l => LB l) fun _ => .bool true
def S_p_is_wayed : List PyData → MD := sp1 (α := Rat × Rat) (fun a => [encP a.1 a.2]) (fun a => a.1 ≠ 0 ∨ a.2 ≠ 0) fun _ => .bool true
/-- pairs of fractions of told sizes -/
def PB (n d : Nat) (p : Rat × Rat) : Prop := B n d p.1 ∧ B n d p.2
def enc2 (p : Rat × Rat) : PyData := encP p.1 p.2
abbrev R2' := Rat × Rat
def S_p_sum_of : List PyData → MD := sp1 (α := R2' × R2') (fun a => [enc2 a.1, enc2 a.2]) (fun a => Ok2 a.1.1 a.2.1 ∧ Ok2 a.1.2 a.2.2) fun a => encP (a.1.1 + a.2.1) (a.1.2 + a.2.2)
def S_p_scaled_by : List PyData → MD := sp1 (α := R2' × Rat) (fun a => [enc2 a.1, encQ a.2]) (fun a => Ok2 a.1.1 a.2 ∧ Ok2 a.1.2 a.2) fun a => encP (a.1.1 * a.2) (a.1.2 * a.2)
def S_p_dot_of : List PyData → MD := sp1 (α := R2' × R2') (fun a => [enc2 a.1, enc2 a.2]) (fun a => ∃ n d, (PB n d a.1 ∧ PB n d a.2) ∧ n + d ≤ 40000 ∧ d ≤ 2200) fun a => encQ (a.1.1 * a.2.1 + a.1.2 * a.2.2)
def S_p_product_of : List PyData → MD := sp1 (α := R2' × R2') (fun a => [enc2 a.1, enc2 a.2]) (fun a => ∃ n d m e, (PB n d a.1 ∧ PB m e a.2) ∧ n + m + d + e ≤ 40000 ∧ d + e ≤ 4400) fun a => encP (a.1.1 * a.2.1 - a.1.2 * a.2.2) (a.1.1 * a.2.2 + a.1.2 * a.2.1)
def S_p_flipped_if : List PyData → MD := sp1 (α := Bool × R2') (fun a => [.bool a.1, enc2 a.2]) (fun _ => True) fun a => encP a.2.1 (if a.1 then -a.2.2 else a.2.2)
def S_p_under_one : List PyData → MD := sp1 (α := R2') (fun a => [enc2 a]) (fun a => PB 60 60 a ∧ (a.1 ≠ 0 ∨ a.2 ≠ 0)) fun a => encP (a.1 * (1 / (a.1 * a.1 + a.2 * a.2))) (-a.2 * (1 / (a.1 * a.1 + a.2 * a.2)))
def S_p_is_rigid_by : List PyData → MD := sp1 (α := Lead) (fun l => [encL l]) (fun l => LB l) fun l => .bool (decide (l.n = 1))
def S_p_led_way : List PyData → MD := sp1 (α := Lead × R2') (fun t => [encL t.1, enc2 t.2]) (fun t => LB t.1 ∧ PB 1100 1200 t.2) fun t => encP (t.1.cx t.2.1 t.2.2) (t.1.cy t.2.1 t.2.2)
def S_p_lead_point : List PyData → MD := sp1 (α := Lead × R2') (fun t => [encL t.1, enc2 t.2]) (fun t => LB t.1 ∧ PB 1100 1000 t.2) fun t => encP (t.1.cx t.2.1 t.2.2 + t.1.x) (t.1.cy t.2.1 t.2.2 + t.1.y)
structure APl where
  l : Lead
  s : Spot
  n : Num
  m : Num
def LedIs (l : Lead) (s : Spot) (d : PyData) : Prop := ∃ n m, NumIs (l.cx s.x s.y + l.x) (l.cx s.u s.v) s.R n ∧ NumIs (l.cy s.x s.y + l.y) (l.cy s.u s.v) s.R m ∧ d = .tuple [encN n, encN m]
def S_p_lead_place : List PyData → MD := spN (α := APl) (fun t => [encL t.l, .tuple [encN t.n, encN t.m]]) (fun t => LB t.l ∧ Told t.s t.n t.m) fun t d => LedIs t.l t.s d
def ledC (l : Lead) : Curve → Curve
  | .line a b c => .line (l.cx a b) (l.cy a b) (l.n * c + (l.cx a b * l.x + l.cy a b * l.y))
  | .circ x y q => .circ (l.cx x y + l.x) (l.cy x y + l.y) (l.n * q)
def S_p_lead_curve : List PyData → MD := sp1 (α := Lead × Curve) (fun t => [encL t.1, encC t.2]) (fun t => LB t.1 ∧ CB t.2) fun t => encC (ledC t.1 t.2)
def behindL (l k : Lead) : Lead := ⟨k.cx l.a l.b, k.cy l.a l.b, l.m != k.m, k.cx l.x l.y + k.x, k.cy l.x l.y + k.y⟩
def backL (l : Lead) : Lead :=
  let a := l.a * (1 / l.n)
  let b := -l.b * (1 / l.n)
  let x := a * l.x - b * l.y
  let y := a * l.y + b * l.x
  ⟨a, if l.m then -b else b, l.m, x * -1, (if l.m then -y else y) * -1⟩
def S_p_lead_behind : List PyData → MD := sp1 (α := Lead × Lead) (fun t => [encL t.1, encL t.2]) (fun t => LB t.1 ∧ LB t.2) fun t => encL (behindL t.1 t.2)
def S_p_back_by : List PyData → MD := sp1 (α := Lead) (fun l => [encL l]) (fun l => LB l) fun l => encL (backL l)
def S_p_move_by : List PyData → MD := sp1 (α := R2') (fun a => [enc2 a]) (fun _ => True) fun a => .tuple [dOne, dZero, .bool false, enc2 a]
def turnL (x y : Rat) : Lead := ⟨(x * x - y * y) * (1 / (x * x + y * y)), (x * y + y * x) * (1 / (x * x + y * y)), false, 0, 0⟩
def S_p_turn_by : List PyData → MD := sp1 (α := R2') (fun a => [enc2 a]) (fun a => PB 60 60 a ∧ (a.1 ≠ 0 ∨ a.2 ≠ 0)) fun a => encL (turnL a.1 a.2)
def mirrorL (a b c : Rat) : Lead := ⟨(a * a - b * b) * (-1 / (a * a + b * b)), (a * b + b * a) * (-1 / (a * a + b * b)), true, a * (2 * c / (a * a + b * b)), b * (2 * c / (a * a + b * b))⟩
def S_p_mirror_by : List PyData → MD := sp1 (α := Rat × Rat × Rat) (fun t => [encC (.line t.1 t.2.1 t.2.2)]) (fun t => CB (.line t.1 t.2.1 t.2.2)) fun t => encL (mirrorL t.1 t.2.1 t.2.2)
def S_p_check_point : List PyData → MD := sp1 (α := R2') (fun a => [enc2 a]) (fun _ => True) fun _ => .none
def S_p_check_place : List PyData → MD := sp1 (α := ATwo) (fun t => [.tuple [encN t.n, encN t.m]]) (fun t => Told t.s t.n t.m) fun _ => .none
def S_p_check_curve : List PyData → MD := sp1 (α := Curve) (fun c => [encC c]) (fun c => CB c) fun _ => .none
def S_p_check_lead : List PyData → MD := sp1 (α := Lead) (fun l => [encL l]) (fun l => LB l) fun _ => .none
def S_p_is_lead : List PyData → MD := S_p_is_led
def S_p_led_place : List PyData → MD := S_p_lead_place
def S_p_led_curve : List PyData → MD := S_p_lead_curve
def S_p_behind : List PyData → MD := S_p_lead_behind
def S_p_back : List PyData → MD := S_p_back_by
def S_p_is_rigid : List PyData → MD := S_p_is_rigid_by
def S_p_move : List PyData → MD := S_p_move_by
def S_p_turn : List PyData → MD := S_p_turn_by
def S_p_mirror : List PyData → MD := S_p_mirror_by
def S_p_sign_at : List PyData → MD := S_p_sign_by
end GD
end

section
set_option Elab.async false
set_option linter.all false
set_option maxRecDepth 100000
set_option maxHeartbeats 4000000
/-! GMp: the text; the meanings of the program's defs (printed by gen.py). -/
namespace GD
open PySem PySem.Spec PyProof.Rows L2
/-- names that are the built-ins' -/
structure BF (mg : Str → Option Value) : Prop where
  isinstance : mg "isinstance" = none
  int_ : mg "int" = none
  bool_ : mg "bool" = none
  tuple_ : mg "tuple" = none
  str_ : mg "str" = none
  len : mg "len" = none
  abs : mg "abs" = none
  all : mg "all" = none
  repr : mg "repr" = none
  range : mg "range" = none
  zip : mg "zip" = none
  divmod : mg "divmod" = none
  max : mg "max" = none
  min : mg "min" = none
  gcd : mg "gcd" = some (.builtin "math.gcd")
  isqrt : mg "isqrt" = some (.builtin "math.isqrt")
/-! is_whole -/
abbrev s_p_is_whole : Stmt := topS 2
abbrev N_p_is_whole : List Str := ["value"]
theorem sc_p_is_whole : FnScope N_p_is_whole ["value"] (defScope s_p_is_whole) := ⟨rfl, rfl, rfl, by decide +kernel, rfl, by decide +kernel, by decide +kernel⟩
def m_p_is_whole : MS :=
    (dRet (dAnd (dIsi "int" (dVar 0)) (dNot (dIsi "bool" (dVar 0)))))
/-! is_truth -/
abbrev s_p_is_truth : Stmt := topS 3
abbrev N_p_is_truth : List Str := ["value"]
theorem sc_p_is_truth : FnScope N_p_is_truth ["value"] (defScope s_p_is_truth) := ⟨rfl, rfl, rfl, by decide +kernel, rfl, by decide +kernel, by decide +kernel⟩
def m_p_is_truth : MS :=
    (dRet (dIsi "bool" (dVar 0)))
/-! are_wholes -/
abbrev s_p_are_wholes : Stmt := topS 4
abbrev N_p_are_wholes : List Str := ["value", "many", "each"]
theorem sc_p_are_wholes : FnScope N_p_are_wholes ["value", "many"] (defScope s_p_are_wholes) := ⟨rfl, rfl, rfl, by decide +kernel, rfl, by decide +kernel, by decide +kernel⟩
def m_p_are_wholes : MS :=
    (dRet (dAnd (dIsi "tuple" (dVar 0)) (dAnd (dBin kEqI (dCall kLen (dCons (dVar 0) dNil)) (dVar 1)) (dCall kAll (dCons (dLcT 2 (dVar 0) dtYes (dCall S_p_is_whole (dCons (dVar 2) dNil))) dNil)))))
/-! is_ratio -/
abbrev s_p_is_ratio : Stmt := topS 9
abbrev N_p_is_ratio : List Str := ["value"]
theorem sc_p_is_ratio : FnScope N_p_is_ratio ["value"] (defScope s_p_is_ratio) := ⟨rfl, rfl, rfl, by decide +kernel, rfl, by decide +kernel, by decide +kernel⟩
def m_p_is_ratio : MS :=
    (dRet (dAnd (dCall S_p_are_wholes (dCons (dVar 0) (dCons (dC (.int 2)) dNil))) (dAnd (dBin kGt (dBin kIx (dVar 0) (dC (.int 1))) (dC (.int 0))) (dBin kEqI (dCall kGcd (dCons (dBin kIx (dVar 0) (dC (.int 0))) (dCons (dBin kIx (dVar 0) (dC (.int 1))) dNil))) (dC (.int 1))))))
/-! ratio -/
abbrev s_p_ratio : Stmt := topS 10
abbrev N_p_ratio : List Str := ["top", "low", "part"]
theorem sc_p_ratio : FnScope N_p_ratio ["top", "low"] (defScope s_p_ratio) := ⟨rfl, rfl, rfl, by decide +kernel, rfl, by decide +kernel, by decide +kernel⟩
def m_p_ratio : MS :=
    (dSeq (dAsg (dIf (dtVal (dBin kGt (dVar 1) (dC (.int 0)))) (dCall kGcd (dCons (dVar 0) (dCons (dVar 1) dNil))) (dNeg (dCall kGcd (dCons (dVar 0) (dCons (dVar 1) dNil))))) (gdName 2))
    (dRet (dTup (dCons (dBin kFdiv (dVar 0) (dVar 2)) (dCons (dBin kFdiv (dVar 1) (dVar 2)) dNil)))))
/-! plus -/
abbrev s_p_plus : Stmt := topS 11
abbrev N_p_plus : List Str := ["one", "two"]
theorem sc_p_plus : FnScope N_p_plus ["one", "two"] (defScope s_p_plus) := ⟨rfl, rfl, rfl, by decide +kernel, rfl, by decide +kernel, by decide +kernel⟩
def m_p_plus : MS :=
    (dRet (dCall S_p_ratio (dCons (dBin kAdd (dBin kMul (dBin kIx (dVar 0) (dC (.int 0))) (dBin kIx (dVar 1) (dC (.int 1)))) (dBin kMul (dBin kIx (dVar 1) (dC (.int 0))) (dBin kIx (dVar 0) (dC (.int 1))))) (dCons (dBin kMul (dBin kIx (dVar 0) (dC (.int 1))) (dBin kIx (dVar 1) (dC (.int 1)))) dNil))))
/-! minus -/
abbrev s_p_minus : Stmt := topS 12
abbrev N_p_minus : List Str := ["one", "two"]
theorem sc_p_minus : FnScope N_p_minus ["one", "two"] (defScope s_p_minus) := ⟨rfl, rfl, rfl, by decide +kernel, rfl, by decide +kernel, by decide +kernel⟩
def m_p_minus : MS :=
    (dRet (dCall S_p_ratio (dCons (dBin kSub (dBin kMul (dBin kIx (dVar 0) (dC (.int 0))) (dBin kIx (dVar 1) (dC (.int 1)))) (dBin kMul (dBin kIx (dVar 1) (dC (.int 0))) (dBin kIx (dVar 0) (dC (.int 1))))) (dCons (dBin kMul (dBin kIx (dVar 0) (dC (.int 1))) (dBin kIx (dVar 1) (dC (.int 1)))) dNil))))
/-! times -/
abbrev s_p_times : Stmt := topS 13
abbrev N_p_times : List Str := ["one", "two"]
theorem sc_p_times : FnScope N_p_times ["one", "two"] (defScope s_p_times) := ⟨rfl, rfl, rfl, by decide +kernel, rfl, by decide +kernel, by decide +kernel⟩
def m_p_times : MS :=
    (dRet (dCall S_p_ratio (dCons (dBin kMul (dBin kIx (dVar 0) (dC (.int 0))) (dBin kIx (dVar 1) (dC (.int 0)))) (dCons (dBin kMul (dBin kIx (dVar 0) (dC (.int 1))) (dBin kIx (dVar 1) (dC (.int 1)))) dNil))))
/-! over -/
abbrev s_p_over : Stmt := topS 14
abbrev N_p_over : List Str := ["one", "two"]
theorem sc_p_over : FnScope N_p_over ["one", "two"] (defScope s_p_over) := ⟨rfl, rfl, rfl, by decide +kernel, rfl, by decide +kernel, by decide +kernel⟩
def m_p_over : MS :=
    (dRet (dCall S_p_ratio (dCons (dBin kMul (dBin kIx (dVar 0) (dC (.int 0))) (dBin kIx (dVar 1) (dC (.int 1)))) (dCons (dBin kMul (dBin kIx (dVar 0) (dC (.int 1))) (dBin kIx (dVar 1) (dC (.int 0)))) dNil))))
/-! opposite -/
abbrev s_p_opposite : Stmt := topS 15
abbrev N_p_opposite : List Str := ["one"]
theorem sc_p_opposite : FnScope N_p_opposite ["one"] (defScope s_p_opposite) := ⟨rfl, rfl, rfl, by decide +kernel, rfl, by decide +kernel, by decide +kernel⟩
def m_p_opposite : MS :=
    (dRet (dTup (dCons (dNeg (dBin kIx (dVar 0) (dC (.int 0)))) (dCons (dBin kIx (dVar 0) (dC (.int 1))) dNil))))
/-! sign_of -/
abbrev s_p_sign_of : Stmt := topS 16
abbrev N_p_sign_of : List Str := ["one"]
theorem sc_p_sign_of : FnScope N_p_sign_of ["one"] (defScope s_p_sign_of) := ⟨rfl, rfl, rfl, by decide +kernel, rfl, by decide +kernel, by decide +kernel⟩
def m_p_sign_of : MS :=
    (dRet (dBin kSubB (dBin kGt (dBin kIx (dVar 0) (dC (.int 0))) (dC (.int 0))) (dBin kLt (dBin kIx (dVar 0) (dC (.int 0))) (dC (.int 0)))))
/-! shared_under -/
abbrev s_p_shared_under : Stmt := topS 17
abbrev N_p_shared_under : List Str := ["fractions", "found", "each"]
theorem sc_p_shared_under : FnScope N_p_shared_under ["fractions"] (defScope s_p_shared_under) := ⟨rfl, rfl, rfl, by decide +kernel, rfl, by decide +kernel, by decide +kernel⟩
def m_p_shared_under : MS :=
    (dSeq (dAsg (dC (.int 1)) (gdName 1))
    (dSeq (dForT 2 (dVar 0) (dAsg (dBin kMul (dBin kFdiv (dVar 1) (dCall kGcd (dCons (dVar 1) (dCons (dBin kIx (dVar 2) (dC (.int 1))) dNil)))) (dBin kIx (dVar 2) (dC (.int 1)))) (gdName 1)))
    (dRet (dVar 1))))
/-! is_square -/
abbrev s_p_is_square : Stmt := topS 19
abbrev N_p_is_square : List Str := ["number"]
theorem sc_p_is_square : FnScope N_p_is_square ["number"] (defScope s_p_is_square) := ⟨rfl, rfl, rfl, by decide +kernel, rfl, by decide +kernel, by decide +kernel⟩
def m_p_is_square : MS :=
    (dRet (dBin kEqI (dBin kPow (dCall kIsqrt (dCons (dVar 0) dNil)) (dC (.int 2))) (dVar 0)))
/-! is_rooted -/
abbrev s_p_is_rooted : Stmt := topS 20
abbrev N_p_is_rooted : List Str := ["value", "first", "second", "third", "square"]
theorem sc_p_is_rooted : FnScope N_p_is_rooted ["value"] (defScope s_p_is_rooted) := ⟨rfl, rfl, rfl, by decide +kernel, rfl, by decide +kernel, by decide +kernel⟩
def m_p_is_rooted : MS :=
    (dSeq (dIfS (dtOr (dtNot (dtVal (dIsi "tuple" (dVar 0)))) (dtOr (dtVal (dBin kNeI (dCall kLen (dCons (dVar 0) dNil)) (dC (.int 4)))) (dtOr (dtNot (dtVal (dCall S_p_are_wholes (dCons (dCut none (some 3) (dVar 0)) (dCons (dC (.int 3)) dNil))))) (dtNot (dtVal (dCall S_p_is_truth (dCons (dBin kIx (dVar 0) (dC (.int 3))) dNil))))))) (dRet (dC (.bool false))) dNext)
    (dSeq (dAsg (dCut none (some 3) (dVar 0)) (gdTup 3 (gdCons (gdName 1) (gdCons (gdName 2) (gdCons (gdName 3) gdNil)))))
    (dSeq (dAsg (dBin kSub (dBin kMul (dVar 2) (dVar 2)) (dBin kMul (dBin kMul (dC (.int 4)) (dVar 1)) (dVar 3))) (gdName 4))
    (dRet (dAnd (dBin kGt (dVar 1) (dC (.int 0))) (dAnd (dBin kEqI (dCall kGcd (dCons (dCall kGcd (dCons (dVar 1) (dCons (dVar 2) dNil))) (dCons (dVar 3) dNil))) (dC (.int 1))) (dAnd (dBin kGt (dVar 4) (dC (.int 0))) (dNot (dCall S_p_is_square (dCons (dVar 4) dNil))))))))))
/-! is_numbered -/
abbrev s_p_is_numbered : Stmt := topS 21
abbrev N_p_is_numbered : List Str := ["value"]
theorem sc_p_is_numbered : FnScope N_p_is_numbered ["value"] (defScope s_p_is_numbered) := ⟨rfl, rfl, rfl, by decide +kernel, rfl, by decide +kernel, by decide +kernel⟩
def m_p_is_numbered : MS :=
    (dRet (dOr (dCall S_p_is_ratio (dCons (dVar 0) dNil)) (dCall S_p_is_rooted (dCons (dVar 0) dNil))))
/-! parts_of -/
abbrev s_p_parts_of : Stmt := topS 22
abbrev N_p_parts_of : List Str := ["number", "first", "second", "third", "is_upper"]
theorem sc_p_parts_of : FnScope N_p_parts_of ["number"] (defScope s_p_parts_of) := ⟨rfl, rfl, rfl, by decide +kernel, rfl, by decide +kernel, by decide +kernel⟩
def m_p_parts_of : MS :=
    (dSeq (dIfS (dtVal (dBin kEqI (dCall kLen (dCons (dVar 0) dNil)) (dC (.int 2)))) (dRet (dTup (dCons (dVar 0) (dCons (dC dZero) (dCons (dC (.int 1)) dNil))))) dNext)
    (dSeq (dAsg (dVar 0) (gdTup 4 (gdCons (gdName 1) (gdCons (gdName 2) (gdCons (gdName 3) (gdCons (gdName 4) gdNil))))))
    (dRet (dTup (dCons (dCall S_p_ratio (dCons (dNeg (dVar 2)) (dCons (dBin kMul (dC (.int 2)) (dVar 1)) dNil))) (dCons (dCall S_p_ratio (dCons (dIf (dtVal (dVar 4)) (dC (.int 1)) (dNeg (dC (.int 1)))) (dCons (dBin kMul (dC (.int 2)) (dVar 1)) dNil))) (dCons (dBin kSub (dBin kMul (dVar 2) (dVar 2)) (dBin kMul (dBin kMul (dC (.int 4)) (dVar 1)) (dVar 3))) dNil)))))))
/-! number_from -/
abbrev s_p_number_from : Stmt := topS 23
abbrev N_p_number_from : List Str := ["a", "b", "r", "middle", "last", "under", "wholes", "part", "each"]
theorem sc_p_number_from : FnScope N_p_number_from ["a", "b", "r"] (defScope s_p_number_from) := ⟨rfl, rfl, rfl, by decide +kernel, rfl, by decide +kernel, by decide +kernel⟩
def m_p_number_from : MS :=
    (dSeq (dIfS (dtOr (dtVal (dBin kEq (dVar 1) (dC dZero))) (dtVal (dCall S_p_is_square (dCons (dVar 2) dNil)))) (dRet (dCall S_p_plus (dCons (dVar 0) (dCons (dCall S_p_times (dCons (dVar 1) (dCons (dTup (dCons (dCall kIsqrt (dCons (dVar 2) dNil)) (dCons (dC (.int 1)) dNil))) dNil))) dNil)))) dNext)
    (dSeq (dAsg (dCall S_p_opposite (dCons (dCall S_p_times (dCons (dC dTwo) (dCons (dVar 0) dNil))) dNil)) (gdName 3))
    (dSeq (dAsg (dCall S_p_minus (dCons (dCall S_p_times (dCons (dVar 0) (dCons (dVar 0) dNil))) (dCons (dCall S_p_times (dCons (dCall S_p_times (dCons (dVar 1) (dCons (dVar 1) dNil))) (dCons (dTup (dCons (dVar 2) (dCons (dC (.int 1)) dNil))) dNil))) dNil))) (gdName 4))
    (dSeq (dAsg (dCall S_p_shared_under (dCons (dTup (dCons (dVar 3) (dCons (dVar 4) dNil))) dNil)) (gdName 5))
    (dSeq (dAsg (dTup (dCons (dVar 5) (dCons (dBin kMul (dBin kIx (dVar 3) (dC (.int 0))) (dBin kFdiv (dVar 5) (dBin kIx (dVar 3) (dC (.int 1))))) (dCons (dBin kMul (dBin kIx (dVar 4) (dC (.int 0))) (dBin kFdiv (dVar 5) (dBin kIx (dVar 4) (dC (.int 1))))) dNil)))) (gdName 6))
    (dSeq (dAsg (dCall kGcd (dCons (dCall kGcd (dCons (dBin kIx (dVar 6) (dC (.int 0))) (dCons (dBin kIx (dVar 6) (dC (.int 1))) dNil))) (dCons (dBin kIx (dVar 6) (dC (.int 2))) dNil))) (gdName 7))
    (dRet (dTup (dStar (dLcT 8 (dVar 6) dtYes (dBin kFdiv (dVar 8) (dVar 7))) (dCons (dBin kGt (dBin kIx (dVar 1) (dC (.int 0))) (dC (.int 0))) dNil))))))))))
/-! sign_one -/
abbrev s_p_sign_one : Stmt := topS 24
abbrev N_p_sign_one : List Str := ["a", "b", "r", "first", "second", "gap"]
theorem sc_p_sign_one : FnScope N_p_sign_one ["a", "b", "r"] (defScope s_p_sign_one) := ⟨rfl, rfl, rfl, by decide +kernel, rfl, by decide +kernel, by decide +kernel⟩
def m_p_sign_one : MS :=
    (dSeq (dPar 3 4 (dCons (dCall S_p_sign_of (dCons (dVar 0) dNil)) (dCons (dIf (dtVal (dBin kNeI (dVar 2) (dC (.int 0)))) (dCall S_p_sign_of (dCons (dVar 1) dNil)) (dC (.int 0))) dNil)))
    (dSeq (dIfS (dtVal (dBin kGe (dBin kMul (dVar 3) (dVar 4)) (dC (.int 0)))) (dRet (dIf (dtVal (dBin kNeI (dVar 3) (dC (.int 0)))) (dVar 3) (dVar 4))) dNext)
    (dSeq (dAsg (dCall S_p_sign_of (dCons (dCall S_p_minus (dCons (dCall S_p_times (dCons (dVar 0) (dCons (dVar 0) dNil))) (dCons (dCall S_p_times (dCons (dCall S_p_times (dCons (dVar 1) (dCons (dVar 1) dNil))) (dCons (dTup (dCons (dVar 2) (dCons (dC (.int 1)) dNil))) dNil))) dNil))) dNil)) (gdName 5))
    (dRet (dIf (dtVal (dBin kGt (dVar 5) (dC (.int 0)))) (dVar 3) (dIf (dtVal (dBin kLt (dVar 5) (dC (.int 0)))) (dVar 4) (dC (.int 0))))))))
/-! do_lie_in_one -/
abbrev s_p_do_lie_in_one : Stmt := topS 25
abbrev N_p_do_lie_in_one : List Str := ["number", "other"]
theorem sc_p_do_lie_in_one : FnScope N_p_do_lie_in_one ["number", "other"] (defScope s_p_do_lie_in_one) := ⟨rfl, rfl, rfl, by decide +kernel, rfl, by decide +kernel, by decide +kernel⟩
def m_p_do_lie_in_one : MS :=
    (dSeq (dIfS (dtOr (dtVal (dBin kEqI (dCall kLen (dCons (dVar 0) dNil)) (dC (.int 2)))) (dtVal (dBin kEqI (dCall kLen (dCons (dVar 1) dNil)) (dC (.int 2))))) (dRet (dC (.bool true))) dNext)
    (dRet (dCall S_p_is_square (dCons (dBin kMul (dBin kIx (dCall S_p_parts_of (dCons (dVar 0) dNil)) (dC (.int 2))) (dBin kIx (dCall S_p_parts_of (dCons (dVar 1) dNil)) (dC (.int 2)))) dNil))))
/-! in_one -/
abbrev s_p_in_one : Stmt := topS 26
abbrev N_p_in_one : List Str := ["number", "other", "a", "b", "r", "c", "d", "s", "by"]
theorem sc_p_in_one : FnScope N_p_in_one ["number", "other"] (defScope s_p_in_one) := ⟨rfl, rfl, rfl, by decide +kernel, rfl, by decide +kernel, by decide +kernel⟩
def m_p_in_one : MS :=
    (dSeq (dAsg (dTup (dCons (dCall S_p_parts_of (dCons (dVar 0) dNil)) (dCons (dCall S_p_parts_of (dCons (dVar 1) dNil)) dNil))) (gdTup 2 (gdCons (gdTup 3 (gdCons (gdName 2) (gdCons (gdName 3) (gdCons (gdName 4) gdNil)))) (gdCons (gdTup 3 (gdCons (gdName 5) (gdCons (gdName 6) (gdCons (gdName 7) gdNil)))) gdNil))))
    (dSeq (dIfS (dtVal (dBin kEq (dVar 3) (dC dZero))) (dRet (dTup (dCons (dVar 2) (dCons (dC dZero) (dCons (dVar 5) (dCons (dVar 6) (dCons (dVar 7) dNil))))))) dNext)
    (dSeq (dAsg (dIf (dtVal (dBin kNe (dVar 6) (dC dZero))) (dCall S_p_ratio (dCons (dCall kIsqrt (dCons (dBin kMul (dVar 4) (dVar 7)) dNil)) (dCons (dVar 4) dNil))) (dC dOne)) (gdName 8))
    (dRet (dTup (dCons (dVar 2) (dCons (dVar 3) (dCons (dVar 5) (dCons (dCall S_p_times (dCons (dVar 6) (dCons (dVar 8) dNil))) (dCons (dVar 4) dNil))))))))))
/-! is_pointed -/
abbrev s_p_is_pointed : Stmt := topS 28
abbrev N_p_is_pointed : List Str := ["value", "each"]
theorem sc_p_is_pointed : FnScope N_p_is_pointed ["value"] (defScope s_p_is_pointed) := ⟨rfl, rfl, rfl, by decide +kernel, rfl, by decide +kernel, by decide +kernel⟩
def m_p_is_pointed : MS :=
    (dRet (dAnd (dIsi "tuple" (dVar 0)) (dAnd (dBin kEqI (dCall kLen (dCons (dVar 0) dNil)) (dC (.int 2))) (dCall kAll (dCons (dLcT 1 (dVar 0) dtYes (dCall S_p_is_ratio (dCons (dVar 1) dNil))) dNil)))))
/-! is_placed -/
abbrev s_p_is_placed : Stmt := topS 29
abbrev N_p_is_placed : List Str := ["value", "each"]
theorem sc_p_is_placed : FnScope N_p_is_placed ["value"] (defScope s_p_is_placed) := ⟨rfl, rfl, rfl, by decide +kernel, rfl, by decide +kernel, by decide +kernel⟩
def m_p_is_placed : MS :=
    (dSeq (dIfS (dtOr (dtNot (dtVal (dIsi "tuple" (dVar 0)))) (dtOr (dtVal (dBin kNeI (dCall kLen (dCons (dVar 0) dNil)) (dC (.int 2)))) (dtNot (dtVal (dCall kAll (dCons (dLcT 1 (dVar 0) dtYes (dCall S_p_is_numbered (dCons (dVar 1) dNil))) dNil)))))) (dRet (dC (.bool false))) dNext)
    (dRet (dCall S_p_do_lie_in_one (dCons (dBin kIx (dVar 0) (dC (.int 0))) (dCons (dBin kIx (dVar 0) (dC (.int 1))) dNil)))))
/-! is_curved -/
abbrev s_p_is_curved : Stmt := topS 30
abbrev N_p_is_curved : List Str := ["value", "each"]
theorem sc_p_is_curved : FnScope N_p_is_curved ["value"] (defScope s_p_is_curved) := ⟨rfl, rfl, rfl, by decide +kernel, rfl, by decide +kernel, by decide +kernel⟩
def m_p_is_curved : MS :=
    (dSeq (dIfS (dtOr (dtNot (dtVal (dIsi "tuple" (dVar 0)))) (dtOr (dtVal (dBin kNeI (dCall kLen (dCons (dVar 0) dNil)) (dC (.int 4)))) (dtNot (dtVal (dIsi "str" (dBin kIx (dVar 0) (dC (.int 0)))))))) (dRet (dC (.bool false))) dNext)
    (dSeq (dIfS (dtNot (dtVal (dCall kAll (dCons (dLcT 1 (dCut (some 1) none (dVar 0)) dtYes (dCall S_p_is_ratio (dCons (dVar 1) dNil))) dNil)))) (dRet (dC (.bool false))) dNext)
    (dSeq (dIfS (dtVal (dBin (kEqS false) (dBin kIx (dVar 0) (dC (.int 0))) (dC (.str "line")))) (dRet (dOr (dBin kNe (dBin kIx (dVar 0) (dC (.int 1))) (dC dZero)) (dBin kNe (dBin kIx (dVar 0) (dC (.int 2))) (dC dZero)))) dNext)
    (dRet (dAnd (dBin (kEqS false) (dBin kIx (dVar 0) (dC (.int 0))) (dC (.str "circle"))) (dBin kGt (dBin kIx (dBin kIx (dVar 0) (dC (.int 3))) (dC (.int 0))) (dC (.int 0))))))))
/-! is_line -/
abbrev s_p_is_line : Stmt := topS 31
abbrev N_p_is_line : List Str := ["curve"]
theorem sc_p_is_line : FnScope N_p_is_line ["curve"] (defScope s_p_is_line) := ⟨rfl, rfl, rfl, by decide +kernel, rfl, by decide +kernel, by decide +kernel⟩
def m_p_is_line : MS :=
    (dRet (dBin (kEqS false) (dBin kIx (dVar 0) (dC (.int 0))) (dC (.str "line"))))
/-! sign_by -/
abbrev s_p_sign_by : Stmt := topS 32
abbrev N_p_sign_by : List Str := ["curve", "place", "a", "b", "c", "d", "r", "first", "second", "rest", "one", "two", "squares", "beside"]
theorem sc_p_sign_by : FnScope N_p_sign_by ["curve", "place"] (defScope s_p_sign_by) := ⟨rfl, rfl, rfl, by decide +kernel, rfl, by decide +kernel, by decide +kernel⟩
def m_p_sign_by : MS :=
    (dSeq (dAsg (dCall S_p_in_one (dCons (dBin kIx (dVar 1) (dC (.int 0))) (dCons (dBin kIx (dVar 1) (dC (.int 1))) dNil))) (gdTup 5 (gdCons (gdName 2) (gdCons (gdName 3) (gdCons (gdName 4) (gdCons (gdName 5) (gdCons (gdName 6) gdNil)))))))
    (dSeq (dAsg (dCut (some 1) (some 3) (dVar 0)) (gdTup 2 (gdCons (gdName 7) (gdCons (gdName 8) gdNil))))
    (dSeq (dIfS (dtVal (dCall S_p_is_line (dCons (dVar 0) dNil))) (dSeq (dAsg (dCall S_p_minus (dCons (dCall S_p_plus (dCons (dCall S_p_times (dCons (dVar 7) (dCons (dVar 2) dNil))) (dCons (dCall S_p_times (dCons (dVar 8) (dCons (dVar 4) dNil))) dNil))) (dCons (dBin kIx (dVar 0) (dC (.int 3))) dNil))) (gdName 9))
    (dRet (dCall S_p_sign_one (dCons (dVar 9) (dCons (dCall S_p_plus (dCons (dCall S_p_times (dCons (dVar 7) (dCons (dVar 3) dNil))) (dCons (dCall S_p_times (dCons (dVar 8) (dCons (dVar 5) dNil))) dNil))) (dCons (dVar 6) dNil)))))) dNext)
    (dSeq (dPar 10 11 (dCons (dCall S_p_minus (dCons (dVar 2) (dCons (dVar 7) dNil))) (dCons (dCall S_p_minus (dCons (dVar 4) (dCons (dVar 8) dNil))) dNil)))
    (dSeq (dAsg (dCall S_p_plus (dCons (dCall S_p_plus (dCons (dCall S_p_times (dCons (dVar 10) (dCons (dVar 10) dNil))) (dCons (dCall S_p_times (dCons (dVar 11) (dCons (dVar 11) dNil))) dNil))) (dCons (dCall S_p_times (dCons (dCall S_p_plus (dCons (dCall S_p_times (dCons (dVar 3) (dCons (dVar 3) dNil))) (dCons (dCall S_p_times (dCons (dVar 5) (dCons (dVar 5) dNil))) dNil))) (dCons (dTup (dCons (dVar 6) (dCons (dC (.int 1)) dNil))) dNil))) dNil))) (gdName 12))
    (dSeq (dAsg (dCall S_p_times (dCons (dC dTwo) (dCons (dCall S_p_plus (dCons (dCall S_p_times (dCons (dVar 10) (dCons (dVar 3) dNil))) (dCons (dCall S_p_times (dCons (dVar 11) (dCons (dVar 5) dNil))) dNil))) dNil))) (gdName 13))
    (dRet (dCall S_p_sign_one (dCons (dCall S_p_minus (dCons (dVar 12) (dCons (dBin kIx (dVar 0) (dC (.int 3))) dNil))) (dCons (dVar 13) (dCons (dVar 6) dNil)))))))))))
/-! is_led -/
abbrev s_p_is_led : Stmt := topS 42
abbrev N_p_is_led : List Str := ["value"]
theorem sc_p_is_led : FnScope N_p_is_led ["value"] (defScope s_p_is_led) := ⟨rfl, rfl, rfl, by decide +kernel, rfl, by decide +kernel, by decide +kernel⟩
def m_p_is_led : MS :=
    (dSeq (dIfS (dtOr (dtNot (dtVal (dIsi "tuple" (dVar 0)))) (dtOr (dtVal (dBin kNeI (dCall kLen (dCons (dVar 0) dNil)) (dC (.int 4)))) (dtNot (dtVal (dCall S_p_is_pointed (dCons (dCut none (some 2) (dVar 0)) dNil)))))) (dRet (dC (.bool false))) dNext)
    (dRet (dAnd (dBin kNe (dCut none (some 2) (dVar 0)) (dC dStart)) (dAnd (dCall S_p_is_truth (dCons (dBin kIx (dVar 0) (dC (.int 2))) dNil)) (dCall S_p_is_pointed (dCons (dBin kIx (dVar 0) (dC (.int 3))) dNil))))))
/-! is_wayed -/
abbrev s_p_is_wayed : Stmt := topS 43
abbrev N_p_is_wayed : List Str := ["value"]
theorem sc_p_is_wayed : FnScope N_p_is_wayed ["value"] (defScope s_p_is_wayed) := ⟨rfl, rfl, rfl, by decide +kernel, rfl, by decide +kernel, by decide +kernel⟩
def m_p_is_wayed : MS :=
    (dRet (dAnd (dCall S_p_is_pointed (dCons (dVar 0) dNil)) (dBin kNe (dVar 0) (dC dStart))))
/-! sum_of -/
abbrev s_p_sum_of : Stmt := topS 44
abbrev N_p_sum_of : List Str := ["one", "two"]
theorem sc_p_sum_of : FnScope N_p_sum_of ["one", "two"] (defScope s_p_sum_of) := ⟨rfl, rfl, rfl, by decide +kernel, rfl, by decide +kernel, by decide +kernel⟩
def m_p_sum_of : MS :=
    (dRet (dTup (dCons (dCall S_p_plus (dCons (dBin kIx (dVar 0) (dC (.int 0))) (dCons (dBin kIx (dVar 1) (dC (.int 0))) dNil))) (dCons (dCall S_p_plus (dCons (dBin kIx (dVar 0) (dC (.int 1))) (dCons (dBin kIx (dVar 1) (dC (.int 1))) dNil))) dNil))))
/-! scaled_by -/
abbrev s_p_scaled_by : Stmt := topS 45
abbrev N_p_scaled_by : List Str := ["point", "number"]
theorem sc_p_scaled_by : FnScope N_p_scaled_by ["point", "number"] (defScope s_p_scaled_by) := ⟨rfl, rfl, rfl, by decide +kernel, rfl, by decide +kernel, by decide +kernel⟩
def m_p_scaled_by : MS :=
    (dRet (dTup (dCons (dCall S_p_times (dCons (dBin kIx (dVar 0) (dC (.int 0))) (dCons (dVar 1) dNil))) (dCons (dCall S_p_times (dCons (dBin kIx (dVar 0) (dC (.int 1))) (dCons (dVar 1) dNil))) dNil))))
/-! dot_of -/
abbrev s_p_dot_of : Stmt := topS 46
abbrev N_p_dot_of : List Str := ["one", "two"]
theorem sc_p_dot_of : FnScope N_p_dot_of ["one", "two"] (defScope s_p_dot_of) := ⟨rfl, rfl, rfl, by decide +kernel, rfl, by decide +kernel, by decide +kernel⟩
def m_p_dot_of : MS :=
    (dRet (dCall S_p_plus (dCons (dCall S_p_times (dCons (dBin kIx (dVar 0) (dC (.int 0))) (dCons (dBin kIx (dVar 1) (dC (.int 0))) dNil))) (dCons (dCall S_p_times (dCons (dBin kIx (dVar 0) (dC (.int 1))) (dCons (dBin kIx (dVar 1) (dC (.int 1))) dNil))) dNil))))
/-! product_of -/
abbrev s_p_product_of : Stmt := topS 47
abbrev N_p_product_of : List Str := ["one", "two"]
theorem sc_p_product_of : FnScope N_p_product_of ["one", "two"] (defScope s_p_product_of) := ⟨rfl, rfl, rfl, by decide +kernel, rfl, by decide +kernel, by decide +kernel⟩
def m_p_product_of : MS :=
    (dRet (dTup (dCons (dCall S_p_minus (dCons (dCall S_p_times (dCons (dBin kIx (dVar 0) (dC (.int 0))) (dCons (dBin kIx (dVar 1) (dC (.int 0))) dNil))) (dCons (dCall S_p_times (dCons (dBin kIx (dVar 0) (dC (.int 1))) (dCons (dBin kIx (dVar 1) (dC (.int 1))) dNil))) dNil))) (dCons (dCall S_p_plus (dCons (dCall S_p_times (dCons (dBin kIx (dVar 0) (dC (.int 0))) (dCons (dBin kIx (dVar 1) (dC (.int 1))) dNil))) (dCons (dCall S_p_times (dCons (dBin kIx (dVar 0) (dC (.int 1))) (dCons (dBin kIx (dVar 1) (dC (.int 0))) dNil))) dNil))) dNil))))
/-! flipped_if -/
abbrev s_p_flipped_if : Stmt := topS 48
abbrev N_p_flipped_if : List Str := ["is_mirrored", "point"]
theorem sc_p_flipped_if : FnScope N_p_flipped_if ["is_mirrored", "point"] (defScope s_p_flipped_if) := ⟨rfl, rfl, rfl, by decide +kernel, rfl, by decide +kernel, by decide +kernel⟩
def m_p_flipped_if : MS :=
    (dRet (dIf (dtVal (dVar 0)) (dTup (dCons (dBin kIx (dVar 1) (dC (.int 0))) (dCons (dCall S_p_opposite (dCons (dBin kIx (dVar 1) (dC (.int 1))) dNil)) dNil))) (dVar 1)))
/-! under_one -/
abbrev s_p_under_one : Stmt := topS 49
abbrev N_p_under_one : List Str := ["point"]
theorem sc_p_under_one : FnScope N_p_under_one ["point"] (defScope s_p_under_one) := ⟨rfl, rfl, rfl, by decide +kernel, rfl, by decide +kernel, by decide +kernel⟩
def m_p_under_one : MS :=
    (dRet (dCall S_p_scaled_by (dCons (dTup (dCons (dBin kIx (dVar 0) (dC (.int 0))) (dCons (dCall S_p_opposite (dCons (dBin kIx (dVar 0) (dC (.int 1))) dNil)) dNil))) (dCons (dCall S_p_over (dCons (dC dOne) (dCons (dCall S_p_dot_of (dCons (dVar 0) (dCons (dVar 0) dNil))) dNil))) dNil))))
/-! is_rigid_by -/
abbrev s_p_is_rigid_by : Stmt := topS 50
abbrev N_p_is_rigid_by : List Str := ["lead"]
theorem sc_p_is_rigid_by : FnScope N_p_is_rigid_by ["lead"] (defScope s_p_is_rigid_by) := ⟨rfl, rfl, rfl, by decide +kernel, rfl, by decide +kernel, by decide +kernel⟩
def m_p_is_rigid_by : MS :=
    (dRet (dBin kEq (dCall S_p_dot_of (dCons (dCut none (some 2) (dVar 0)) (dCons (dCut none (some 2) (dVar 0)) dNil))) (dC dOne)))
/-! led_way -/
abbrev s_p_led_way : Stmt := topS 51
abbrev N_p_led_way : List Str := ["lead", "way"]
theorem sc_p_led_way : FnScope N_p_led_way ["lead", "way"] (defScope s_p_led_way) := ⟨rfl, rfl, rfl, by decide +kernel, rfl, by decide +kernel, by decide +kernel⟩
def m_p_led_way : MS :=
    (dRet (dCall S_p_product_of (dCons (dCut none (some 2) (dVar 0)) (dCons (dCall S_p_flipped_if (dCons (dBin kIx (dVar 0) (dC (.int 2))) (dCons (dVar 1) dNil))) dNil))))
/-! lead_point -/
abbrev s_p_lead_point : Stmt := topS 52
abbrev N_p_lead_point : List Str := ["lead", "point"]
theorem sc_p_lead_point : FnScope N_p_lead_point ["lead", "point"] (defScope s_p_lead_point) := ⟨rfl, rfl, rfl, by decide +kernel, rfl, by decide +kernel, by decide +kernel⟩
def m_p_lead_point : MS :=
    (dRet (dCall S_p_sum_of (dCons (dCall S_p_led_way (dCons (dVar 0) (dCons (dVar 1) dNil))) (dCons (dBin kIx (dVar 0) (dC (.int 3))) dNil))))
/-! lead_place -/
abbrev s_p_lead_place : Stmt := topS 53
abbrev N_p_lead_place : List Str := ["lead", "place", "a", "b", "c", "d", "r", "x", "y", "along", "up"]
theorem sc_p_lead_place : FnScope N_p_lead_place ["lead", "place"] (defScope s_p_lead_place) := ⟨rfl, rfl, rfl, by decide +kernel, rfl, by decide +kernel, by decide +kernel⟩
def m_p_lead_place : MS :=
    (dSeq (dAsg (dCall S_p_in_one (dCons (dBin kIx (dVar 1) (dC (.int 0))) (dCons (dBin kIx (dVar 1) (dC (.int 1))) dNil))) (gdTup 5 (gdCons (gdName 2) (gdCons (gdName 3) (gdCons (gdName 4) (gdCons (gdName 5) (gdCons (gdName 6) gdNil)))))))
    (dSeq (dAsg (dCall S_p_lead_point (dCons (dVar 0) (dCons (dTup (dCons (dVar 2) (dCons (dVar 4) dNil))) dNil))) (gdTup 2 (gdCons (gdName 7) (gdCons (gdName 8) gdNil))))
    (dSeq (dAsg (dCall S_p_led_way (dCons (dVar 0) (dCons (dTup (dCons (dVar 3) (dCons (dVar 5) dNil))) dNil))) (gdTup 2 (gdCons (gdName 9) (gdCons (gdName 10) gdNil))))
    (dRet (dTup (dCons (dCall S_p_number_from (dCons (dVar 7) (dCons (dVar 9) (dCons (dVar 6) dNil)))) (dCons (dCall S_p_number_from (dCons (dVar 8) (dCons (dVar 10) (dCons (dVar 6) dNil)))) dNil)))))))
/-! lead_curve -/
abbrev s_p_lead_curve : Stmt := topS 54
abbrev N_p_lead_curve : List Str := ["lead", "curve", "size", "way"]
theorem sc_p_lead_curve : FnScope N_p_lead_curve ["lead", "curve"] (defScope s_p_lead_curve) := ⟨rfl, rfl, rfl, by decide +kernel, rfl, by decide +kernel, by decide +kernel⟩
def m_p_lead_curve : MS :=
    (dSeq (dAsg (dCall S_p_dot_of (dCons (dCut none (some 2) (dVar 0)) (dCons (dCut none (some 2) (dVar 0)) dNil))) (gdName 2))
    (dSeq (dIfS (dtNot (dtVal (dCall S_p_is_line (dCons (dVar 1) dNil)))) (dRet (dTup (dCons (dC (.str "circle")) (dStar (dCall S_p_lead_point (dCons (dVar 0) (dCons (dCut (some 1) (some 3) (dVar 1)) dNil))) (dCons (dCall S_p_times (dCons (dVar 2) (dCons (dBin kIx (dVar 1) (dC (.int 3))) dNil))) dNil))))) dNext)
    (dSeq (dAsg (dCall S_p_led_way (dCons (dVar 0) (dCons (dCut (some 1) (some 3) (dVar 1)) dNil))) (gdName 3))
    (dRet (dTup (dCons (dC (.str "line")) (dStar (dVar 3) (dCons (dCall S_p_plus (dCons (dCall S_p_times (dCons (dVar 2) (dCons (dBin kIx (dVar 1) (dC (.int 3))) dNil))) (dCons (dCall S_p_dot_of (dCons (dVar 3) (dCons (dBin kIx (dVar 0) (dC (.int 3))) dNil))) dNil))) dNil))))))))
/-! lead_behind -/
abbrev s_p_lead_behind : Stmt := topS 55
abbrev N_p_lead_behind : List Str := ["lead", "later", "turned"]
theorem sc_p_lead_behind : FnScope N_p_lead_behind ["lead", "later"] (defScope s_p_lead_behind) := ⟨rfl, rfl, rfl, by decide +kernel, rfl, by decide +kernel, by decide +kernel⟩
def m_p_lead_behind : MS :=
    (dSeq (dAsg (dCall S_p_product_of (dCons (dCut none (some 2) (dVar 1)) (dCons (dCall S_p_flipped_if (dCons (dBin kIx (dVar 1) (dC (.int 2))) (dCons (dCut none (some 2) (dVar 0)) dNil))) dNil))) (gdName 2))
    (dRet (dTup (dStar (dVar 2) (dCons (dBin kNe (dBin kIx (dVar 0) (dC (.int 2))) (dBin kIx (dVar 1) (dC (.int 2)))) (dCons (dCall S_p_lead_point (dCons (dVar 1) (dCons (dBin kIx (dVar 0) (dC (.int 3))) dNil))) dNil))))))
/-! back_by -/
abbrev s_p_back_by : Stmt := topS 56
abbrev N_p_back_by : List Str := ["lead", "under", "shift"]
theorem sc_p_back_by : FnScope N_p_back_by ["lead"] (defScope s_p_back_by) := ⟨rfl, rfl, rfl, by decide +kernel, rfl, by decide +kernel, by decide +kernel⟩
def m_p_back_by : MS :=
    (dSeq (dAsg (dCall S_p_under_one (dCons (dCut none (some 2) (dVar 0)) dNil)) (gdName 1))
    (dSeq (dAsg (dCall S_p_product_of (dCons (dVar 1) (dCons (dBin kIx (dVar 0) (dC (.int 3))) dNil))) (gdName 2))
    (dRet (dTup (dStar (dCall S_p_flipped_if (dCons (dBin kIx (dVar 0) (dC (.int 2))) (dCons (dVar 1) dNil))) (dCons (dBin kIx (dVar 0) (dC (.int 2))) (dCons (dCall S_p_scaled_by (dCons (dCall S_p_flipped_if (dCons (dBin kIx (dVar 0) (dC (.int 2))) (dCons (dVar 2) dNil))) (dCons (dTup (dCons (dNeg (dC (.int 1))) (dCons (dC (.int 1)) dNil))) dNil))) dNil)))))))
/-! move_by -/
abbrev s_p_move_by : Stmt := topS 57
abbrev N_p_move_by : List Str := ["shift"]
theorem sc_p_move_by : FnScope N_p_move_by ["shift"] (defScope s_p_move_by) := ⟨rfl, rfl, rfl, by decide +kernel, rfl, by decide +kernel, by decide +kernel⟩
def m_p_move_by : MS :=
    (dRet (dTup (dCons (dC dOne) (dCons (dC dZero) (dCons (dC (.bool false)) (dCons (dVar 0) dNil))))))
/-! turn_by -/
abbrev s_p_turn_by : Stmt := topS 58
abbrev N_p_turn_by : List Str := ["way", "squared"]
theorem sc_p_turn_by : FnScope N_p_turn_by ["way"] (defScope s_p_turn_by) := ⟨rfl, rfl, rfl, by decide +kernel, rfl, by decide +kernel, by decide +kernel⟩
def m_p_turn_by : MS :=
    (dSeq (dAsg (dCall S_p_product_of (dCons (dVar 0) (dCons (dVar 0) dNil))) (gdName 1))
    (dRet (dTup (dStar (dCall S_p_scaled_by (dCons (dVar 1) (dCons (dCall S_p_over (dCons (dC dOne) (dCons (dCall S_p_dot_of (dCons (dVar 0) (dCons (dVar 0) dNil))) dNil))) dNil))) (dCons (dC (.bool false)) (dCons (dC dStart) dNil))))))
/-! mirror_by -/
abbrev s_p_mirror_by : Stmt := topS 59
abbrev N_p_mirror_by : List Str := ["line", "upright", "size", "turned"]
theorem sc_p_mirror_by : FnScope N_p_mirror_by ["line"] (defScope s_p_mirror_by) := ⟨rfl, rfl, rfl, by decide +kernel, rfl, by decide +kernel, by decide +kernel⟩
def m_p_mirror_by : MS :=
    (dSeq (dAsg (dCut (some 1) (some 3) (dVar 0)) (gdName 1))
    (dSeq (dAsg (dCall S_p_dot_of (dCons (dVar 1) (dCons (dVar 1) dNil))) (gdName 2))
    (dSeq (dAsg (dCall S_p_scaled_by (dCons (dCall S_p_product_of (dCons (dVar 1) (dCons (dVar 1) dNil))) (dCons (dCall S_p_over (dCons (dTup (dCons (dNeg (dC (.int 1))) (dCons (dC (.int 1)) dNil))) (dCons (dVar 2) dNil))) dNil))) (gdName 3))
    (dRet (dTup (dStar (dVar 3) (dCons (dC (.bool true)) (dCons (dCall S_p_scaled_by (dCons (dVar 1) (dCons (dCall S_p_over (dCons (dCall S_p_times (dCons (dC dTwo) (dCons (dBin kIx (dVar 0) (dC (.int 3))) dNil))) (dCons (dVar 2) dNil))) dNil))) dNil))))))))
/-! check_point -/
abbrev s_p_check_point : Stmt := topS 61
abbrev N_p_check_point : List Str := ["value"]
theorem sc_p_check_point : FnScope N_p_check_point ["value"] (defScope s_p_check_point) := ⟨rfl, rfl, rfl, by decide +kernel, rfl, by decide +kernel, by decide +kernel⟩
def m_p_check_point : MS :=
    (dIfS (dtNot (dtVal (dCall S_p_is_pointed (dCons (dVar 0) dNil)))) dNever dNext)
/-! check_place -/
abbrev s_p_check_place : Stmt := topS 62
abbrev N_p_check_place : List Str := ["value"]
theorem sc_p_check_place : FnScope N_p_check_place ["value"] (defScope s_p_check_place) := ⟨rfl, rfl, rfl, by decide +kernel, rfl, by decide +kernel, by decide +kernel⟩
def m_p_check_place : MS :=
    (dIfS (dtNot (dtVal (dCall S_p_is_placed (dCons (dVar 0) dNil)))) dNever dNext)
/-! check_curve -/
abbrev s_p_check_curve : Stmt := topS 63
abbrev N_p_check_curve : List Str := ["value"]
theorem sc_p_check_curve : FnScope N_p_check_curve ["value"] (defScope s_p_check_curve) := ⟨rfl, rfl, rfl, by decide +kernel, rfl, by decide +kernel, by decide +kernel⟩
def m_p_check_curve : MS :=
    (dIfS (dtNot (dtVal (dCall S_p_is_curved (dCons (dVar 0) dNil)))) dNever dNext)
/-! check_lead -/
abbrev s_p_check_lead : Stmt := topS 65
abbrev N_p_check_lead : List Str := ["value"]
theorem sc_p_check_lead : FnScope N_p_check_lead ["value"] (defScope s_p_check_lead) := ⟨rfl, rfl, rfl, by decide +kernel, rfl, by decide +kernel, by decide +kernel⟩
def m_p_check_lead : MS :=
    (dIfS (dtNot (dtVal (dCall S_p_is_led (dCons (dVar 0) dNil)))) dNever dNext)
/-! is_lead -/
abbrev s_p_is_lead : Stmt := topS 67
abbrev N_p_is_lead : List Str := ["value"]
theorem sc_p_is_lead : FnScope N_p_is_lead ["value"] (defScope s_p_is_lead) := ⟨rfl, rfl, rfl, by decide +kernel, rfl, by decide +kernel, by decide +kernel⟩
def m_p_is_lead : MS :=
    (dRet (dCall S_p_is_led (dCons (dVar 0) dNil)))
/-! led_place -/
abbrev s_p_led_place : Stmt := topS 68
abbrev N_p_led_place : List Str := ["lead", "place"]
theorem sc_p_led_place : FnScope N_p_led_place ["lead", "place"] (defScope s_p_led_place) := ⟨rfl, rfl, rfl, by decide +kernel, rfl, by decide +kernel, by decide +kernel⟩
def m_p_led_place : MS :=
    (dSeq (dDrop (dCall S_p_check_lead (dCons (dVar 0) dNil)))
    (dSeq (dDrop (dCall S_p_check_place (dCons (dVar 1) dNil)))
    (dRet (dCall S_p_lead_place (dCons (dVar 0) (dCons (dVar 1) dNil))))))
/-! led_curve -/
abbrev s_p_led_curve : Stmt := topS 69
abbrev N_p_led_curve : List Str := ["lead", "curve"]
theorem sc_p_led_curve : FnScope N_p_led_curve ["lead", "curve"] (defScope s_p_led_curve) := ⟨rfl, rfl, rfl, by decide +kernel, rfl, by decide +kernel, by decide +kernel⟩
def m_p_led_curve : MS :=
    (dSeq (dDrop (dCall S_p_check_lead (dCons (dVar 0) dNil)))
    (dSeq (dDrop (dCall S_p_check_curve (dCons (dVar 1) dNil)))
    (dRet (dCall S_p_lead_curve (dCons (dVar 0) (dCons (dVar 1) dNil))))))
/-! behind -/
abbrev s_p_behind : Stmt := topS 70
abbrev N_p_behind : List Str := ["lead", "later"]
theorem sc_p_behind : FnScope N_p_behind ["lead", "later"] (defScope s_p_behind) := ⟨rfl, rfl, rfl, by decide +kernel, rfl, by decide +kernel, by decide +kernel⟩
def m_p_behind : MS :=
    (dSeq (dDrop (dCall S_p_check_lead (dCons (dVar 0) dNil)))
    (dSeq (dDrop (dCall S_p_check_lead (dCons (dVar 1) dNil)))
    (dRet (dCall S_p_lead_behind (dCons (dVar 0) (dCons (dVar 1) dNil))))))
/-! back -/
abbrev s_p_back : Stmt := topS 71
abbrev N_p_back : List Str := ["lead"]
theorem sc_p_back : FnScope N_p_back ["lead"] (defScope s_p_back) := ⟨rfl, rfl, rfl, by decide +kernel, rfl, by decide +kernel, by decide +kernel⟩
def m_p_back : MS :=
    (dSeq (dDrop (dCall S_p_check_lead (dCons (dVar 0) dNil)))
    (dRet (dCall S_p_back_by (dCons (dVar 0) dNil))))
/-! is_rigid -/
abbrev s_p_is_rigid : Stmt := topS 72
abbrev N_p_is_rigid : List Str := ["lead"]
theorem sc_p_is_rigid : FnScope N_p_is_rigid ["lead"] (defScope s_p_is_rigid) := ⟨rfl, rfl, rfl, by decide +kernel, rfl, by decide +kernel, by decide +kernel⟩
def m_p_is_rigid : MS :=
    (dSeq (dDrop (dCall S_p_check_lead (dCons (dVar 0) dNil)))
    (dRet (dCall S_p_is_rigid_by (dCons (dVar 0) dNil))))
/-! move -/
abbrev s_p_move : Stmt := topS 73
abbrev N_p_move : List Str := ["shift"]
theorem sc_p_move : FnScope N_p_move ["shift"] (defScope s_p_move) := ⟨rfl, rfl, rfl, by decide +kernel, rfl, by decide +kernel, by decide +kernel⟩
def m_p_move : MS :=
    (dSeq (dDrop (dCall S_p_check_point (dCons (dVar 0) dNil)))
    (dRet (dCall S_p_move_by (dCons (dVar 0) dNil))))
/-! turn -/
abbrev s_p_turn : Stmt := topS 74
abbrev N_p_turn : List Str := ["way"]
theorem sc_p_turn : FnScope N_p_turn ["way"] (defScope s_p_turn) := ⟨rfl, rfl, rfl, by decide +kernel, rfl, by decide +kernel, by decide +kernel⟩
def m_p_turn : MS :=
    (dSeq (dIfS (dtNot (dtVal (dCall S_p_is_wayed (dCons (dVar 0) dNil)))) dNever dNext)
    (dRet (dCall S_p_turn_by (dCons (dVar 0) dNil))))
/-! mirror -/
abbrev s_p_mirror : Stmt := topS 75
abbrev N_p_mirror : List Str := ["curve"]
theorem sc_p_mirror : FnScope N_p_mirror ["curve"] (defScope s_p_mirror) := ⟨rfl, rfl, rfl, by decide +kernel, rfl, by decide +kernel, by decide +kernel⟩
def m_p_mirror : MS :=
    (dSeq (dDrop (dCall S_p_check_curve (dCons (dVar 0) dNil)))
    (dSeq (dIfS (dtNot (dtVal (dCall S_p_is_line (dCons (dVar 0) dNil)))) dNever dNext)
    (dRet (dCall S_p_mirror_by (dCons (dVar 0) dNil)))))
/-! sign_at -/
abbrev s_p_sign_at : Stmt := topS 77
abbrev N_p_sign_at : List Str := ["curve", "place"]
theorem sc_p_sign_at : FnScope N_p_sign_at ["curve", "place"] (defScope s_p_sign_at) := ⟨rfl, rfl, rfl, by decide +kernel, rfl, by decide +kernel, by decide +kernel⟩
def m_p_sign_at : MS :=
    (dSeq (dDrop (dCall S_p_check_curve (dCons (dVar 0) dNil)))
    (dSeq (dDrop (dCall S_p_check_place (dCons (dVar 1) dNil)))
    (dRet (dCall S_p_sign_by (dCons (dVar 0) (dCons (dVar 1) dNil))))))
end GD
end

section
set_option Elab.async false
set_option linter.all false
set_option maxRecDepth 100000
set_option maxHeartbeats 4000000
/-! GBp: the derivations of the program's defs (printed by gen.py). -/
namespace GD
open PySem PySem.Spec PyProof.Rows L2
section
variable {P : Program} {w : World} {K : PySem.W.Frag} {mg : Str → Option Value} {base : Heap} {f : Addr}
theorem b_p_is_whole (B : BF mg)  (cdv : Value) (A : Around) (outer : List Env) (s : Shared) (H : Hp) (hr : Room 0 (A.deeper (envOfC "is_whole" (defScope s_p_is_whole) s.heap.objs.size f cdv))) (hgd : (A.deeper (envOfC "is_whole" (defScope s_p_is_whole) s.heap.objs.size f cdv)).guards = some []) : DSs (cxOf CX0 P w K mg base N_p_is_whole "is_whole" (defScope s_p_is_whole) f cdv A outer s H E0).nox (defBody s_p_is_whole) m_p_is_whole :=
    (dss_one (ds_ret (de_and (de_isi (T := "int") (de_var (pv 0)) (by decide) rfl B.isinstance B.int_ PyProof.Rows.boot_int) (de_one (de_not (de_isi (T := "bool") (de_var (pv 0)) (by decide) rfl B.isinstance B.bool_ PyProof.Rows.boot_bool))))))
theorem b_p_is_truth (B : BF mg)  (cdv : Value) (A : Around) (outer : List Env) (s : Shared) (H : Hp) (hr : Room 0 (A.deeper (envOfC "is_truth" (defScope s_p_is_truth) s.heap.objs.size f cdv))) (hgd : (A.deeper (envOfC "is_truth" (defScope s_p_is_truth) s.heap.objs.size f cdv)).guards = some []) : DSs (cxOf CX0 P w K mg base N_p_is_truth "is_truth" (defScope s_p_is_truth) f cdv A outer s H E0).nox (defBody s_p_is_truth) m_p_is_truth :=
    (dss_one (ds_ret (de_isi (T := "bool") (de_var (pv 0)) (by decide) rfl B.isinstance B.bool_ PyProof.Rows.boot_bool)))
theorem b_p_are_wholes (B : BF mg) (k_p_is_whole : Kn P w K mg base "is_whole" 1 1 S_p_is_whole) (cdv : Value) (A : Around) (outer : List Env) (s : Shared) (H : Hp) (hr : Room 1 (A.deeper (envOfC "are_wholes" (defScope s_p_are_wholes) s.heap.objs.size f cdv))) (hgd : (A.deeper (envOfC "are_wholes" (defScope s_p_are_wholes) s.heap.objs.size f cdv)).guards = some []) : DSs (cxOf CX0 P w K mg base N_p_are_wholes "are_wholes" (defScope s_p_are_wholes) f cdv A outer s H E0).nox (defBody s_p_are_wholes) m_p_are_wholes :=
    (dss_one (ds_ret (de_and (de_isi (T := "tuple") (de_var (pv 0)) (by decide) rfl B.isinstance B.tuple_ PyProof.Rows.boot_tuple) (de_and (de_cmp od_eqI (de_callB cd_len B.len PySem.boot_len (da_cons (de_var (pv 0)) da_nil)) (de_var (pv 1))) (de_one (de_callB (cd_all rfl) B.all PyProof.Rows.boot_all (da_cons (de_lcT rfl sc_p_are_wholes.nd (de_var (pv 0)) (blkOk_by (own := [("each", 2)]) (N := N_p_are_wholes) (sc := defScope s_p_are_wholes) (by decide +kernel)) (fun _ _ _ _ _ => pg_name (i := 2) sc_p_are_wholes.nd rfl (Or.inl rfl)) (fun _ _ _ _ _ => dts_nil) (fun _ _ _ _ _ => (de_call (k_p_is_whole.up (by decide)) hr hgd (da_cons (de_var (pv 2)) da_nil))) s) da_nil)))))))
theorem b_p_is_ratio (B : BF mg) (k_p_are_wholes : Kn P w K mg base "are_wholes" 2 2 S_p_are_wholes) (cdv : Value) (A : Around) (outer : List Env) (s : Shared) (H : Hp) (hr : Room 2 (A.deeper (envOfC "is_ratio" (defScope s_p_is_ratio) s.heap.objs.size f cdv))) (hgd : (A.deeper (envOfC "is_ratio" (defScope s_p_is_ratio) s.heap.objs.size f cdv)).guards = some []) : DSs (cxOf CX0 P w K mg base N_p_is_ratio "is_ratio" (defScope s_p_is_ratio) f cdv A outer s H E0).nox (defBody s_p_is_ratio) m_p_is_ratio :=
    (dss_one (ds_ret (de_and (de_call (k_p_are_wholes.up (by decide)) hr hgd (da_cons (de_var (pv 0)) (da_cons de_int da_nil))) (de_and (de_cmp od_gt (de_ix (de_var (pv 0)) de_int) de_int) (de_one (de_cmp od_eqI (de_callF cd_gcd B.gcd (da_cons (de_ix (de_var (pv 0)) de_int) (da_cons (de_ix (de_var (pv 0)) de_int) da_nil))) de_int))))))
theorem b_p_ratio (B : BF mg)  (cdv : Value) (A : Around) (outer : List Env) (s : Shared) (H : Hp) (hr : Room 0 (A.deeper (envOfC "ratio" (defScope s_p_ratio) s.heap.objs.size f cdv))) (hgd : (A.deeper (envOfC "ratio" (defScope s_p_ratio) s.heap.objs.size f cdv)).guards = some []) : DSs (cxOf CX0 P w K mg base N_p_ratio "ratio" (defScope s_p_ratio) f cdv A outer s H E0).nox (defBody s_p_ratio) m_p_ratio :=
    (dss_cons (ds_set (i := 2) sc_p_ratio.nd rfl (.inl rfl) (de_if (dt_cmp od_gt (de_var (pv 1)) de_int) (de_callF cd_gcd B.gcd (da_cons (de_var (pv 0)) (da_cons (de_var (pv 1)) da_nil))) (de_neg (de_callF cd_gcd B.gcd (da_cons (de_var (pv 0)) (da_cons (de_var (pv 1)) da_nil))))))
    (dss_one (ds_ret (de_tup (da_cons (de_bin od_fdiv (de_var (pv 0)) (de_var (pv 2))) (da_cons (de_bin od_fdiv (de_var (pv 1)) (de_var (pv 2))) da_nil))))))
theorem b_p_plus (B : BF mg) (k_p_ratio : Kn P w K mg base "ratio" 2 1 S_p_ratio) (cdv : Value) (A : Around) (outer : List Env) (s : Shared) (H : Hp) (hr : Room 1 (A.deeper (envOfC "plus" (defScope s_p_plus) s.heap.objs.size f cdv))) (hgd : (A.deeper (envOfC "plus" (defScope s_p_plus) s.heap.objs.size f cdv)).guards = some []) : DSs (cxOf CX0 P w K mg base N_p_plus "plus" (defScope s_p_plus) f cdv A outer s H E0).nox (defBody s_p_plus) m_p_plus :=
    (dss_one (ds_ret (de_call (k_p_ratio.up (by decide)) hr hgd (da_cons (de_bin od_add (de_bin od_mul (de_ix (de_var (pv 0)) de_int) (de_ix (de_var (pv 1)) de_int)) (de_bin od_mul (de_ix (de_var (pv 1)) de_int) (de_ix (de_var (pv 0)) de_int))) (da_cons (de_bin od_mul (de_ix (de_var (pv 0)) de_int) (de_ix (de_var (pv 1)) de_int)) da_nil)))))
theorem b_p_minus (B : BF mg) (k_p_ratio : Kn P w K mg base "ratio" 2 1 S_p_ratio) (cdv : Value) (A : Around) (outer : List Env) (s : Shared) (H : Hp) (hr : Room 1 (A.deeper (envOfC "minus" (defScope s_p_minus) s.heap.objs.size f cdv))) (hgd : (A.deeper (envOfC "minus" (defScope s_p_minus) s.heap.objs.size f cdv)).guards = some []) : DSs (cxOf CX0 P w K mg base N_p_minus "minus" (defScope s_p_minus) f cdv A outer s H E0).nox (defBody s_p_minus) m_p_minus :=
    (dss_one (ds_ret (de_call (k_p_ratio.up (by decide)) hr hgd (da_cons (de_bin od_sub (de_bin od_mul (de_ix (de_var (pv 0)) de_int) (de_ix (de_var (pv 1)) de_int)) (de_bin od_mul (de_ix (de_var (pv 1)) de_int) (de_ix (de_var (pv 0)) de_int))) (da_cons (de_bin od_mul (de_ix (de_var (pv 0)) de_int) (de_ix (de_var (pv 1)) de_int)) da_nil)))))
theorem b_p_times (B : BF mg) (k_p_ratio : Kn P w K mg base "ratio" 2 1 S_p_ratio) (cdv : Value) (A : Around) (outer : List Env) (s : Shared) (H : Hp) (hr : Room 1 (A.deeper (envOfC "times" (defScope s_p_times) s.heap.objs.size f cdv))) (hgd : (A.deeper (envOfC "times" (defScope s_p_times) s.heap.objs.size f cdv)).guards = some []) : DSs (cxOf CX0 P w K mg base N_p_times "times" (defScope s_p_times) f cdv A outer s H E0).nox (defBody s_p_times) m_p_times :=
    (dss_one (ds_ret (de_call (k_p_ratio.up (by decide)) hr hgd (da_cons (de_bin od_mul (de_ix (de_var (pv 0)) de_int) (de_ix (de_var (pv 1)) de_int)) (da_cons (de_bin od_mul (de_ix (de_var (pv 0)) de_int) (de_ix (de_var (pv 1)) de_int)) da_nil)))))
theorem b_p_over (B : BF mg) (k_p_ratio : Kn P w K mg base "ratio" 2 1 S_p_ratio) (cdv : Value) (A : Around) (outer : List Env) (s : Shared) (H : Hp) (hr : Room 1 (A.deeper (envOfC "over" (defScope s_p_over) s.heap.objs.size f cdv))) (hgd : (A.deeper (envOfC "over" (defScope s_p_over) s.heap.objs.size f cdv)).guards = some []) : DSs (cxOf CX0 P w K mg base N_p_over "over" (defScope s_p_over) f cdv A outer s H E0).nox (defBody s_p_over) m_p_over :=
    (dss_one (ds_ret (de_call (k_p_ratio.up (by decide)) hr hgd (da_cons (de_bin od_mul (de_ix (de_var (pv 0)) de_int) (de_ix (de_var (pv 1)) de_int)) (da_cons (de_bin od_mul (de_ix (de_var (pv 0)) de_int) (de_ix (de_var (pv 1)) de_int)) da_nil)))))
theorem b_p_opposite (B : BF mg)  (cdv : Value) (A : Around) (outer : List Env) (s : Shared) (H : Hp) (hr : Room 0 (A.deeper (envOfC "opposite" (defScope s_p_opposite) s.heap.objs.size f cdv))) (hgd : (A.deeper (envOfC "opposite" (defScope s_p_opposite) s.heap.objs.size f cdv)).guards = some []) : DSs (cxOf CX0 P w K mg base N_p_opposite "opposite" (defScope s_p_opposite) f cdv A outer s H E0).nox (defBody s_p_opposite) m_p_opposite :=
    (dss_one (ds_ret (de_tup (da_cons (de_neg (de_ix (de_var (pv 0)) de_int)) (da_cons (de_ix (de_var (pv 0)) de_int) da_nil)))))
theorem b_p_sign_of (B : BF mg)  (cdv : Value) (A : Around) (outer : List Env) (s : Shared) (H : Hp) (hr : Room 0 (A.deeper (envOfC "sign_of" (defScope s_p_sign_of) s.heap.objs.size f cdv))) (hgd : (A.deeper (envOfC "sign_of" (defScope s_p_sign_of) s.heap.objs.size f cdv)).guards = some []) : DSs (cxOf CX0 P w K mg base N_p_sign_of "sign_of" (defScope s_p_sign_of) f cdv A outer s H E0).nox (defBody s_p_sign_of) m_p_sign_of :=
    (dss_one (ds_ret (de_bin od_subB (de_cmp od_gt (de_ix (de_var (pv 0)) de_int) de_int) (de_cmp od_lt (de_ix (de_var (pv 0)) de_int) de_int))))
theorem b_p_shared_under (B : BF mg)  (cdv : Value) (A : Around) (outer : List Env) (s : Shared) (H : Hp) (hr : Room 0 (A.deeper (envOfC "shared_under" (defScope s_p_shared_under) s.heap.objs.size f cdv))) (hgd : (A.deeper (envOfC "shared_under" (defScope s_p_shared_under) s.heap.objs.size f cdv)).guards = some []) : DSs (cxOf CX0 P w K mg base N_p_shared_under "shared_under" (defScope s_p_shared_under) f cdv A outer s H E0).nox (defBody s_p_shared_under) m_p_shared_under :=
    (dss_cons (ds_set (i := 1) sc_p_shared_under.nd rfl (.inl rfl) de_int)
    (dss_cons (ds_forT PassesOwn.never rfl (de_var (pv 0)) (pg_name (i := 2) sc_p_shared_under.nd rfl (.inl rfl)) (dss_one (ds_set (i := 1) sc_p_shared_under.nd rfl (.inl rfl) (de_bin od_mul (de_bin od_fdiv (de_var (pv 1)) (de_callF cd_gcd B.gcd (da_cons (de_var (pv 1)) (da_cons (de_ix (de_var (pv 2)) de_int) da_nil)))) (de_ix (de_var (pv 2)) de_int)))))
    (dss_one (ds_ret (de_var (pv 1))))))
theorem b_p_is_square (B : BF mg)  (cdv : Value) (A : Around) (outer : List Env) (s : Shared) (H : Hp) (hr : Room 0 (A.deeper (envOfC "is_square" (defScope s_p_is_square) s.heap.objs.size f cdv))) (hgd : (A.deeper (envOfC "is_square" (defScope s_p_is_square) s.heap.objs.size f cdv)).guards = some []) : DSs (cxOf CX0 P w K mg base N_p_is_square "is_square" (defScope s_p_is_square) f cdv A outer s H E0).nox (defBody s_p_is_square) m_p_is_square :=
    (dss_one (ds_ret (de_cmp od_eqI (de_bin od_pow (de_callF cd_isqrt B.isqrt (da_cons (de_var (pv 0)) da_nil)) de_int) (de_var (pv 0)))))
theorem b_p_is_rooted (B : BF mg) (k_p_are_wholes : Kn P w K mg base "are_wholes" 2 2 S_p_are_wholes) (k_p_is_square : Kn P w K mg base "is_square" 1 1 S_p_is_square) (k_p_is_truth : Kn P w K mg base "is_truth" 1 1 S_p_is_truth) (cdv : Value) (A : Around) (outer : List Env) (s : Shared) (H : Hp) (hr : Room 2 (A.deeper (envOfC "is_rooted" (defScope s_p_is_rooted) s.heap.objs.size f cdv))) (hgd : (A.deeper (envOfC "is_rooted" (defScope s_p_is_rooted) s.heap.objs.size f cdv)).guards = some []) : DSs (cxOf CX0 P w K mg base N_p_is_rooted "is_rooted" (defScope s_p_is_rooted) f cdv A outer s H E0).nox (defBody s_p_is_rooted) m_p_is_rooted :=
    (dss_cons (ds_if (DW.dt (dw_or (dt_not (dt_val (de_isi (T := "tuple") (de_var (pv 0)) (by decide) rfl B.isinstance B.tuple_ PyProof.Rows.boot_tuple))) (dw_or (dt_cmp od_neI (de_callB cd_len B.len PySem.boot_len (da_cons (de_var (pv 0)) da_nil)) de_int) (dw_or (dt_not (dt_val (de_call (k_p_are_wholes.up (by decide)) hr hgd (da_cons (de_cut (de_var (pv 0)) end_none (end_some (i := 3))) (da_cons de_int da_nil))))) (dw_or1 (dt_not (dt_val (de_call (k_p_is_truth.up (by decide)) hr hgd (da_cons (de_ix (de_var (pv 0)) de_int) da_nil))))))))) (dss_one (ds_ret de_bl)) dss_nil)
    (dss_cons (ds_asg (de_cut (de_var (pv 0)) end_none (end_some (i := 3))) (dg_tup rfl (dgs_cons (dg_name (pg_name (i := 1) sc_p_is_rooted.nd rfl (.inl rfl))) (dgs_cons (dg_name (pg_name (i := 2) sc_p_is_rooted.nd rfl (.inl rfl))) (dgs_cons (dg_name (pg_name (i := 3) sc_p_is_rooted.nd rfl (.inl rfl))) dgs_nil)))))
    (dss_cons (ds_set (i := 4) sc_p_is_rooted.nd rfl (.inl rfl) (de_bin od_sub (de_bin od_mul (de_var (pv 2)) (de_var (pv 2))) (de_bin od_mul (de_bin od_mul de_int (de_var (pv 1))) (de_var (pv 3)))))
    (dss_one (ds_ret (de_and (de_cmp od_gt (de_var (pv 1)) de_int) (de_and (de_cmp od_eqI (de_callF cd_gcd B.gcd (da_cons (de_callF cd_gcd B.gcd (da_cons (de_var (pv 1)) (da_cons (de_var (pv 2)) da_nil))) (da_cons (de_var (pv 3)) da_nil))) de_int) (de_and (de_cmp od_gt (de_var (pv 4)) de_int) (de_one (de_not (de_call (k_p_is_square.up (by decide)) hr hgd (da_cons (de_var (pv 4)) da_nil))))))))))))
theorem b_p_is_numbered (B : BF mg) (k_p_is_ratio : Kn P w K mg base "is_ratio" 1 3 S_p_is_ratio) (k_p_is_rooted : Kn P w K mg base "is_rooted" 1 3 S_p_is_rooted) (cdv : Value) (A : Around) (outer : List Env) (s : Shared) (H : Hp) (hr : Room 3 (A.deeper (envOfC "is_numbered" (defScope s_p_is_numbered) s.heap.objs.size f cdv))) (hgd : (A.deeper (envOfC "is_numbered" (defScope s_p_is_numbered) s.heap.objs.size f cdv)).guards = some []) : DSs (cxOf CX0 P w K mg base N_p_is_numbered "is_numbered" (defScope s_p_is_numbered) f cdv A outer s H E0).nox (defBody s_p_is_numbered) m_p_is_numbered :=
    (dss_one (ds_ret (de_or (de_call (k_p_is_ratio.up (by decide)) hr hgd (da_cons (de_var (pv 0)) da_nil)) (de_one (de_call (k_p_is_rooted.up (by decide)) hr hgd (da_cons (de_var (pv 0)) da_nil))))))
theorem b_p_parts_of (B : BF mg) (g_ZERO : GVal K mg "ZERO" dZero) (k_p_ratio : Kn P w K mg base "ratio" 2 1 S_p_ratio) (cdv : Value) (A : Around) (outer : List Env) (s : Shared) (H : Hp) (hr : Room 1 (A.deeper (envOfC "parts_of" (defScope s_p_parts_of) s.heap.objs.size f cdv))) (hgd : (A.deeper (envOfC "parts_of" (defScope s_p_parts_of) s.heap.objs.size f cdv)).guards = some []) : DSs (cxOf CX0 P w K mg base N_p_parts_of "parts_of" (defScope s_p_parts_of) f cdv A outer s H E0).nox (defBody s_p_parts_of) m_p_parts_of :=
    (dss_cons (ds_if (dt_cmp od_eqI (de_callB cd_len B.len PySem.boot_len (da_cons (de_var (pv 0)) da_nil)) de_int) (dss_one (ds_ret (de_tup (da_cons (de_var (pv 0)) (da_cons (de_glob g_ZERO) (da_cons de_int da_nil)))))) dss_nil)
    (dss_cons (ds_asg (de_var (pv 0)) (dg_tup rfl (dgs_cons (dg_name (pg_name (i := 1) sc_p_parts_of.nd rfl (.inl rfl))) (dgs_cons (dg_name (pg_name (i := 2) sc_p_parts_of.nd rfl (.inl rfl))) (dgs_cons (dg_name (pg_name (i := 3) sc_p_parts_of.nd rfl (.inl rfl))) (dgs_cons (dg_name (pg_name (i := 4) sc_p_parts_of.nd rfl (.inl rfl))) dgs_nil))))))
    (dss_one (ds_ret (de_tup (da_cons (de_call (k_p_ratio.up (by decide)) hr hgd (da_cons (de_neg (de_var (pv 2))) (da_cons (de_bin od_mul de_int (de_var (pv 1))) da_nil))) (da_cons (de_call (k_p_ratio.up (by decide)) hr hgd (da_cons (de_if (dt_val (de_var (pv 4))) de_int (de_neg de_int)) (da_cons (de_bin od_mul de_int (de_var (pv 1))) da_nil))) (da_cons (de_bin od_sub (de_bin od_mul (de_var (pv 2)) (de_var (pv 2))) (de_bin od_mul (de_bin od_mul de_int (de_var (pv 1))) (de_var (pv 3)))) da_nil))))))))
theorem b_p_number_from (B : BF mg) (g_TWO : GVal K mg "TWO" dTwo) (g_ZERO : GVal K mg "ZERO" dZero) (k_p_is_square : Kn P w K mg base "is_square" 1 1 S_p_is_square) (k_p_minus : Kn P w K mg base "minus" 2 2 S_p_minus) (k_p_opposite : Kn P w K mg base "opposite" 1 1 S_p_opposite) (k_p_plus : Kn P w K mg base "plus" 2 2 S_p_plus) (k_p_shared_under : Kn P w K mg base "shared_under" 1 1 S_p_shared_under) (k_p_times : Kn P w K mg base "times" 2 2 S_p_times) (cdv : Value) (A : Around) (outer : List Env) (s : Shared) (H : Hp) (hr : Room 2 (A.deeper (envOfC "number_from" (defScope s_p_number_from) s.heap.objs.size f cdv))) (hgd : (A.deeper (envOfC "number_from" (defScope s_p_number_from) s.heap.objs.size f cdv)).guards = some []) : DSs (cxOf CX0 P w K mg base N_p_number_from "number_from" (defScope s_p_number_from) f cdv A outer s H E0).nox (defBody s_p_number_from) m_p_number_from :=
    (dss_cons (ds_if (DW.dt (dw_or (dt_cmp (od_eq hr) (de_var (pv 1)) (de_glob g_ZERO)) (dw_or1 (dt_val (de_call (k_p_is_square.up (by decide)) hr hgd (da_cons (de_var (pv 2)) da_nil)))))) (dss_one (ds_ret (de_call (k_p_plus.up (by decide)) hr hgd (da_cons (de_var (pv 0)) (da_cons (de_call (k_p_times.up (by decide)) hr hgd (da_cons (de_var (pv 1)) (da_cons (de_tup (da_cons (de_callF cd_isqrt B.isqrt (da_cons (de_var (pv 2)) da_nil)) (da_cons de_int da_nil))) da_nil))) da_nil))))) dss_nil)
    (dss_cons (ds_set (i := 3) sc_p_number_from.nd rfl (.inl rfl) (de_call (k_p_opposite.up (by decide)) hr hgd (da_cons (de_call (k_p_times.up (by decide)) hr hgd (da_cons (de_glob g_TWO) (da_cons (de_var (pv 0)) da_nil))) da_nil)))
    (dss_cons (ds_set (i := 4) sc_p_number_from.nd rfl (.inl rfl) (de_call (k_p_minus.up (by decide)) hr hgd (da_cons (de_call (k_p_times.up (by decide)) hr hgd (da_cons (de_var (pv 0)) (da_cons (de_var (pv 0)) da_nil))) (da_cons (de_call (k_p_times.up (by decide)) hr hgd (da_cons (de_call (k_p_times.up (by decide)) hr hgd (da_cons (de_var (pv 1)) (da_cons (de_var (pv 1)) da_nil))) (da_cons (de_tup (da_cons (de_var (pv 2)) (da_cons de_int da_nil))) da_nil))) da_nil))))
    (dss_cons (ds_set (i := 5) sc_p_number_from.nd rfl (.inl rfl) (de_call (k_p_shared_under.up (by decide)) hr hgd (da_cons (de_tup (da_cons (de_var (pv 3)) (da_cons (de_var (pv 4)) da_nil))) da_nil)))
    (dss_cons (ds_set (i := 6) sc_p_number_from.nd rfl (.inl rfl) (de_tup (da_cons (de_var (pv 5)) (da_cons (de_bin od_mul (de_ix (de_var (pv 3)) de_int) (de_bin od_fdiv (de_var (pv 5)) (de_ix (de_var (pv 3)) de_int))) (da_cons (de_bin od_mul (de_ix (de_var (pv 4)) de_int) (de_bin od_fdiv (de_var (pv 5)) (de_ix (de_var (pv 4)) de_int))) da_nil)))))
    (dss_cons (ds_set (i := 7) sc_p_number_from.nd rfl (.inr rfl) (de_callF cd_gcd B.gcd (da_cons (de_callF cd_gcd B.gcd (da_cons (de_ix (de_var (pv 6)) de_int) (da_cons (de_ix (de_var (pv 6)) de_int) da_nil))) (da_cons (de_ix (de_var (pv 6)) de_int) da_nil))))
    (dss_one (ds_ret (de_tup (da_star (de_lcT rfl sc_p_number_from.nd (de_var (pv 6)) (blkOk_by (own := [("each", 8)]) (N := N_p_number_from) (sc := defScope s_p_number_from) (by decide +kernel)) (fun _ _ _ _ _ => pg_name (i := 8) sc_p_number_from.nd rfl (Or.inl rfl)) (fun _ _ _ _ _ => dts_nil) (fun _ _ _ _ _ => (de_bin od_fdiv (de_var (pv 8)) (de_var (pv 7)))) s) (da_cons (de_cmp od_gt (de_ix (de_var (pv 1)) de_int) de_int) da_nil)))))))))))
theorem b_p_sign_one (B : BF mg) (k_p_minus : Kn P w K mg base "minus" 2 2 S_p_minus) (k_p_sign_of : Kn P w K mg base "sign_of" 1 1 S_p_sign_of) (k_p_times : Kn P w K mg base "times" 2 2 S_p_times) (cdv : Value) (A : Around) (outer : List Env) (s : Shared) (H : Hp) (hr : Room 2 (A.deeper (envOfC "sign_one" (defScope s_p_sign_one) s.heap.objs.size f cdv))) (hgd : (A.deeper (envOfC "sign_one" (defScope s_p_sign_one) s.heap.objs.size f cdv)).guards = some []) : DSs (cxOf CX0 P w K mg base N_p_sign_one "sign_one" (defScope s_p_sign_one) f cdv A outer s H E0).nox (defBody s_p_sign_one) m_p_sign_one :=
    (dss_cons (ds_par (i := 3) (j := 4) rfl sc_p_sign_one.nd rfl rfl (by decide) rfl rfl (da_cons (de_call (k_p_sign_of.up (by decide)) hr hgd (da_cons (de_var (pv 0)) da_nil)) (da_cons (de_if (dt_cmp od_neI (de_var (pv 2)) de_int) (de_call (k_p_sign_of.up (by decide)) hr hgd (da_cons (de_var (pv 1)) da_nil)) de_int) da_nil)))
    (dss_cons (ds_if (dt_cmp od_ge (de_bin od_mul (de_var (pv 3)) (de_var (pv 4))) de_int) (dss_one (ds_ret (de_if (dt_cmp od_neI (de_var (pv 3)) de_int) (de_var (pv 3)) (de_var (pv 4))))) dss_nil)
    (dss_cons (ds_set (i := 5) sc_p_sign_one.nd rfl (.inl rfl) (de_call (k_p_sign_of.up (by decide)) hr hgd (da_cons (de_call (k_p_minus.up (by decide)) hr hgd (da_cons (de_call (k_p_times.up (by decide)) hr hgd (da_cons (de_var (pv 0)) (da_cons (de_var (pv 0)) da_nil))) (da_cons (de_call (k_p_times.up (by decide)) hr hgd (da_cons (de_call (k_p_times.up (by decide)) hr hgd (da_cons (de_var (pv 1)) (da_cons (de_var (pv 1)) da_nil))) (da_cons (de_tup (da_cons (de_var (pv 2)) (da_cons de_int da_nil))) da_nil))) da_nil))) da_nil)))
    (dss_one (ds_ret (de_if (dt_cmp od_gt (de_var (pv 5)) de_int) (de_var (pv 3)) (de_if (dt_cmp od_lt (de_var (pv 5)) de_int) (de_var (pv 4)) de_int)))))))
theorem b_p_do_lie_in_one (B : BF mg) (k_p_is_square : Kn P w K mg base "is_square" 1 1 S_p_is_square) (k_p_parts_of : Kn P w K mg base "parts_of" 1 2 S_p_parts_of) (cdv : Value) (A : Around) (outer : List Env) (s : Shared) (H : Hp) (hr : Room 2 (A.deeper (envOfC "do_lie_in_one" (defScope s_p_do_lie_in_one) s.heap.objs.size f cdv))) (hgd : (A.deeper (envOfC "do_lie_in_one" (defScope s_p_do_lie_in_one) s.heap.objs.size f cdv)).guards = some []) : DSs (cxOf CX0 P w K mg base N_p_do_lie_in_one "do_lie_in_one" (defScope s_p_do_lie_in_one) f cdv A outer s H E0).nox (defBody s_p_do_lie_in_one) m_p_do_lie_in_one :=
    (dss_cons (ds_if (DW.dt (dw_or (dt_cmp od_eqI (de_callB cd_len B.len PySem.boot_len (da_cons (de_var (pv 0)) da_nil)) de_int) (dw_or1 (dt_cmp od_eqI (de_callB cd_len B.len PySem.boot_len (da_cons (de_var (pv 1)) da_nil)) de_int)))) (dss_one (ds_ret de_bl)) dss_nil)
    (dss_one (ds_ret (de_call (k_p_is_square.up (by decide)) hr hgd (da_cons (de_bin od_mul (de_ix (de_call (k_p_parts_of.up (by decide)) hr hgd (da_cons (de_var (pv 0)) da_nil)) de_int) (de_ix (de_call (k_p_parts_of.up (by decide)) hr hgd (da_cons (de_var (pv 1)) da_nil)) de_int)) da_nil)))))
theorem b_p_in_one (B : BF mg) (g_ONE : GVal K mg "ONE" dOne) (g_ZERO : GVal K mg "ZERO" dZero) (k_p_parts_of : Kn P w K mg base "parts_of" 1 2 S_p_parts_of) (k_p_ratio : Kn P w K mg base "ratio" 2 1 S_p_ratio) (k_p_times : Kn P w K mg base "times" 2 2 S_p_times) (cdv : Value) (A : Around) (outer : List Env) (s : Shared) (H : Hp) (hr : Room 2 (A.deeper (envOfC "in_one" (defScope s_p_in_one) s.heap.objs.size f cdv))) (hgd : (A.deeper (envOfC "in_one" (defScope s_p_in_one) s.heap.objs.size f cdv)).guards = some []) : DSs (cxOf CX0 P w K mg base N_p_in_one "in_one" (defScope s_p_in_one) f cdv A outer s H E0).nox (defBody s_p_in_one) m_p_in_one :=
    (dss_cons (ds_asg (de_tup (da_cons (de_call (k_p_parts_of.up (by decide)) hr hgd (da_cons (de_var (pv 0)) da_nil)) (da_cons (de_call (k_p_parts_of.up (by decide)) hr hgd (da_cons (de_var (pv 1)) da_nil)) da_nil))) (dg_tup rfl (dgs_cons (dg_tup rfl (dgs_cons (dg_name (pg_name (i := 2) sc_p_in_one.nd rfl (.inl rfl))) (dgs_cons (dg_name (pg_name (i := 3) sc_p_in_one.nd rfl (.inl rfl))) (dgs_cons (dg_name (pg_name (i := 4) sc_p_in_one.nd rfl (.inl rfl))) dgs_nil)))) (dgs_cons (dg_tup rfl (dgs_cons (dg_name (pg_name (i := 5) sc_p_in_one.nd rfl (.inl rfl))) (dgs_cons (dg_name (pg_name (i := 6) sc_p_in_one.nd rfl (.inl rfl))) (dgs_cons (dg_name (pg_name (i := 7) sc_p_in_one.nd rfl (.inl rfl))) dgs_nil)))) dgs_nil))))
    (dss_cons (ds_if (dt_cmp (od_eq hr) (de_var (pv 3)) (de_glob g_ZERO)) (dss_one (ds_ret (de_tup (da_cons (de_var (pv 2)) (da_cons (de_glob g_ZERO) (da_cons (de_var (pv 5)) (da_cons (de_var (pv 6)) (da_cons (de_var (pv 7)) da_nil)))))))) dss_nil)
    (dss_cons (ds_set (i := 8) sc_p_in_one.nd rfl (.inl rfl) (de_if (dt_cmp (od_ne hr) (de_var (pv 6)) (de_glob g_ZERO)) (de_call (k_p_ratio.up (by decide)) hr hgd (da_cons (de_callF cd_isqrt B.isqrt (da_cons (de_bin od_mul (de_var (pv 4)) (de_var (pv 7))) da_nil)) (da_cons (de_var (pv 4)) da_nil))) (de_glob g_ONE)))
    (dss_one (ds_ret (de_tup (da_cons (de_var (pv 2)) (da_cons (de_var (pv 3)) (da_cons (de_var (pv 5)) (da_cons (de_call (k_p_times.up (by decide)) hr hgd (da_cons (de_var (pv 6)) (da_cons (de_var (pv 8)) da_nil))) (da_cons (de_var (pv 4)) da_nil)))))))))))
theorem b_p_is_pointed (B : BF mg) (k_p_is_ratio : Kn P w K mg base "is_ratio" 1 3 S_p_is_ratio) (cdv : Value) (A : Around) (outer : List Env) (s : Shared) (H : Hp) (hr : Room 3 (A.deeper (envOfC "is_pointed" (defScope s_p_is_pointed) s.heap.objs.size f cdv))) (hgd : (A.deeper (envOfC "is_pointed" (defScope s_p_is_pointed) s.heap.objs.size f cdv)).guards = some []) : DSs (cxOf CX0 P w K mg base N_p_is_pointed "is_pointed" (defScope s_p_is_pointed) f cdv A outer s H E0).nox (defBody s_p_is_pointed) m_p_is_pointed :=
    (dss_one (ds_ret (de_and (de_isi (T := "tuple") (de_var (pv 0)) (by decide) rfl B.isinstance B.tuple_ PyProof.Rows.boot_tuple) (de_and (de_cmp od_eqI (de_callB cd_len B.len PySem.boot_len (da_cons (de_var (pv 0)) da_nil)) de_int) (de_one (de_callB (cd_all rfl) B.all PyProof.Rows.boot_all (da_cons (de_lcT rfl sc_p_is_pointed.nd (de_var (pv 0)) (blkOk_by (own := [("each", 1)]) (N := N_p_is_pointed) (sc := defScope s_p_is_pointed) (by decide +kernel)) (fun _ _ _ _ _ => pg_name (i := 1) sc_p_is_pointed.nd rfl (Or.inl rfl)) (fun _ _ _ _ _ => dts_nil) (fun _ _ _ _ _ => (de_call (k_p_is_ratio.up (by decide)) hr hgd (da_cons (de_var (pv 1)) da_nil))) s) da_nil)))))))
theorem b_p_is_placed (B : BF mg) (k_p_do_lie_in_one : Kn P w K mg base "do_lie_in_one" 2 3 S_p_do_lie_in_one) (k_p_is_numbered : Kn P w K mg base "is_numbered" 1 4 S_p_is_numbered) (cdv : Value) (A : Around) (outer : List Env) (s : Shared) (H : Hp) (hr : Room 4 (A.deeper (envOfC "is_placed" (defScope s_p_is_placed) s.heap.objs.size f cdv))) (hgd : (A.deeper (envOfC "is_placed" (defScope s_p_is_placed) s.heap.objs.size f cdv)).guards = some []) : DSs (cxOf CX0 P w K mg base N_p_is_placed "is_placed" (defScope s_p_is_placed) f cdv A outer s H E0).nox (defBody s_p_is_placed) m_p_is_placed :=
    (dss_cons (ds_if (DW.dt (dw_or (dt_not (dt_val (de_isi (T := "tuple") (de_var (pv 0)) (by decide) rfl B.isinstance B.tuple_ PyProof.Rows.boot_tuple))) (dw_or (dt_cmp od_neI (de_callB cd_len B.len PySem.boot_len (da_cons (de_var (pv 0)) da_nil)) de_int) (dw_or1 (dt_not (dt_val (de_callB (cd_all rfl) B.all PyProof.Rows.boot_all (da_cons (de_lcT rfl sc_p_is_placed.nd (de_var (pv 0)) (blkOk_by (own := [("each", 1)]) (N := N_p_is_placed) (sc := defScope s_p_is_placed) (by decide +kernel)) (fun _ _ _ _ _ => pg_name (i := 1) sc_p_is_placed.nd rfl (Or.inl rfl)) (fun _ _ _ _ _ => dts_nil) (fun _ _ _ _ _ => (de_call (k_p_is_numbered.up (by decide)) hr hgd (da_cons (de_var (pv 1)) da_nil))) s) da_nil)))))))) (dss_one (ds_ret de_bl)) dss_nil)
    (dss_one (ds_ret (de_call (k_p_do_lie_in_one.up (by decide)) hr hgd (da_cons (de_ix (de_var (pv 0)) de_int) (da_cons (de_ix (de_var (pv 0)) de_int) da_nil))))))
theorem b_p_is_curved (B : BF mg) (g_ZERO : GVal K mg "ZERO" dZero) (k_p_is_ratio : Kn P w K mg base "is_ratio" 1 3 S_p_is_ratio) (cdv : Value) (A : Around) (outer : List Env) (s : Shared) (H : Hp) (hr : Room 3 (A.deeper (envOfC "is_curved" (defScope s_p_is_curved) s.heap.objs.size f cdv))) (hgd : (A.deeper (envOfC "is_curved" (defScope s_p_is_curved) s.heap.objs.size f cdv)).guards = some []) : DSs (cxOf CX0 P w K mg base N_p_is_curved "is_curved" (defScope s_p_is_curved) f cdv A outer s H E0).nox (defBody s_p_is_curved) m_p_is_curved :=
    (dss_cons (ds_if (DW.dt (dw_or (dt_not (dt_val (de_isi (T := "tuple") (de_var (pv 0)) (by decide) rfl B.isinstance B.tuple_ PyProof.Rows.boot_tuple))) (dw_or (dt_cmp od_neI (de_callB cd_len B.len PySem.boot_len (da_cons (de_var (pv 0)) da_nil)) de_int) (dw_or1 (dt_not (dt_val (de_isi (T := "str") (de_ix (de_var (pv 0)) de_int) (by decide) rfl B.isinstance B.str_ PyProof.Rows.boot_str))))))) (dss_one (ds_ret de_bl)) dss_nil)
    (dss_cons (ds_if (dt_not (dt_val (de_callB (cd_all rfl) B.all PyProof.Rows.boot_all (da_cons (de_lcT rfl sc_p_is_curved.nd (de_cut (de_var (pv 0)) (end_some (i := 1)) end_none) (blkOk_by (own := [("each", 1)]) (N := N_p_is_curved) (sc := defScope s_p_is_curved) (by decide +kernel)) (fun _ _ _ _ _ => pg_name (i := 1) sc_p_is_curved.nd rfl (Or.inl rfl)) (fun _ _ _ _ _ => dts_nil) (fun _ _ _ _ _ => (de_call (k_p_is_ratio.up (by decide)) hr hgd (da_cons (de_var (pv 1)) da_nil))) s) da_nil)))) (dss_one (ds_ret de_bl)) dss_nil)
    (dss_cons (ds_if (dt_cmp od_eqS (de_ix (de_var (pv 0)) de_int) de_str) (dss_one (ds_ret (de_or (de_cmp (od_ne hr) (de_ix (de_var (pv 0)) de_int) (de_glob g_ZERO)) (de_one (de_cmp (od_ne hr) (de_ix (de_var (pv 0)) de_int) (de_glob g_ZERO)))))) dss_nil)
    (dss_one (ds_ret (de_and (de_cmp od_eqS (de_ix (de_var (pv 0)) de_int) de_str) (de_one (de_cmp od_gt (de_ix (de_ix (de_var (pv 0)) de_int) de_int) de_int))))))))
theorem b_p_is_line (B : BF mg)  (cdv : Value) (A : Around) (outer : List Env) (s : Shared) (H : Hp) (hr : Room 0 (A.deeper (envOfC "is_line" (defScope s_p_is_line) s.heap.objs.size f cdv))) (hgd : (A.deeper (envOfC "is_line" (defScope s_p_is_line) s.heap.objs.size f cdv)).guards = some []) : DSs (cxOf CX0 P w K mg base N_p_is_line "is_line" (defScope s_p_is_line) f cdv A outer s H E0).nox (defBody s_p_is_line) m_p_is_line :=
    (dss_one (ds_ret (de_cmp od_eqS (de_ix (de_var (pv 0)) de_int) de_str)))
theorem b_p_sign_by (B : BF mg) (g_TWO : GVal K mg "TWO" dTwo) (k_p_in_one : Kn P w K mg base "in_one" 2 3 S_p_in_one) (k_p_is_line : Kn P w K mg base "is_line" 1 1 S_p_is_line) (k_p_minus : Kn P w K mg base "minus" 2 2 S_p_minus) (k_p_plus : Kn P w K mg base "plus" 2 2 S_p_plus) (k_p_sign_one : Kn P w K mg base "sign_one" 3 3 S_p_sign_one) (k_p_times : Kn P w K mg base "times" 2 2 S_p_times) (cdv : Value) (A : Around) (outer : List Env) (s : Shared) (H : Hp) (hr : Room 3 (A.deeper (envOfC "sign_by" (defScope s_p_sign_by) s.heap.objs.size f cdv))) (hgd : (A.deeper (envOfC "sign_by" (defScope s_p_sign_by) s.heap.objs.size f cdv)).guards = some []) : DSs (cxOf CX0 P w K mg base N_p_sign_by "sign_by" (defScope s_p_sign_by) f cdv A outer s H E0).nox (defBody s_p_sign_by) m_p_sign_by :=
    (dss_cons (ds_asg (de_call (k_p_in_one.up (by decide)) hr hgd (da_cons (de_ix (de_var (pv 1)) de_int) (da_cons (de_ix (de_var (pv 1)) de_int) da_nil))) (dg_tup rfl (dgs_cons (dg_name (pg_name (i := 2) sc_p_sign_by.nd rfl (.inl rfl))) (dgs_cons (dg_name (pg_name (i := 3) sc_p_sign_by.nd rfl (.inl rfl))) (dgs_cons (dg_name (pg_name (i := 4) sc_p_sign_by.nd rfl (.inl rfl))) (dgs_cons (dg_name (pg_name (i := 5) sc_p_sign_by.nd rfl (.inl rfl))) (dgs_cons (dg_name (pg_name (i := 6) sc_p_sign_by.nd rfl (.inl rfl))) dgs_nil)))))))
    (dss_cons (ds_asg (de_cut (de_var (pv 0)) (end_some (i := 1)) (end_some (i := 3))) (dg_tup rfl (dgs_cons (dg_name (pg_name (i := 7) sc_p_sign_by.nd rfl (.inl rfl))) (dgs_cons (dg_name (pg_name (i := 8) sc_p_sign_by.nd rfl (.inl rfl))) dgs_nil))))
    (dss_cons (ds_if (dt_val (de_call (k_p_is_line.up (by decide)) hr hgd (da_cons (de_var (pv 0)) da_nil))) (dss_cons (ds_set (i := 9) sc_p_sign_by.nd rfl (.inl rfl) (de_call (k_p_minus.up (by decide)) hr hgd (da_cons (de_call (k_p_plus.up (by decide)) hr hgd (da_cons (de_call (k_p_times.up (by decide)) hr hgd (da_cons (de_var (pv 7)) (da_cons (de_var (pv 2)) da_nil))) (da_cons (de_call (k_p_times.up (by decide)) hr hgd (da_cons (de_var (pv 8)) (da_cons (de_var (pv 4)) da_nil))) da_nil))) (da_cons (de_ix (de_var (pv 0)) de_int) da_nil))))
    (dss_one (ds_ret (de_call (k_p_sign_one.up (by decide)) hr hgd (da_cons (de_var (pv 9)) (da_cons (de_call (k_p_plus.up (by decide)) hr hgd (da_cons (de_call (k_p_times.up (by decide)) hr hgd (da_cons (de_var (pv 7)) (da_cons (de_var (pv 3)) da_nil))) (da_cons (de_call (k_p_times.up (by decide)) hr hgd (da_cons (de_var (pv 8)) (da_cons (de_var (pv 5)) da_nil))) da_nil))) (da_cons (de_var (pv 6)) da_nil))))))) dss_nil)
    (dss_cons (ds_par (i := 10) (j := 11) rfl sc_p_sign_by.nd rfl rfl (by decide) rfl rfl (da_cons (de_call (k_p_minus.up (by decide)) hr hgd (da_cons (de_var (pv 2)) (da_cons (de_var (pv 7)) da_nil))) (da_cons (de_call (k_p_minus.up (by decide)) hr hgd (da_cons (de_var (pv 4)) (da_cons (de_var (pv 8)) da_nil))) da_nil)))
    (dss_cons (ds_set (i := 12) sc_p_sign_by.nd rfl (.inl rfl) (de_call (k_p_plus.up (by decide)) hr hgd (da_cons (de_call (k_p_plus.up (by decide)) hr hgd (da_cons (de_call (k_p_times.up (by decide)) hr hgd (da_cons (de_var (pv 10)) (da_cons (de_var (pv 10)) da_nil))) (da_cons (de_call (k_p_times.up (by decide)) hr hgd (da_cons (de_var (pv 11)) (da_cons (de_var (pv 11)) da_nil))) da_nil))) (da_cons (de_call (k_p_times.up (by decide)) hr hgd (da_cons (de_call (k_p_plus.up (by decide)) hr hgd (da_cons (de_call (k_p_times.up (by decide)) hr hgd (da_cons (de_var (pv 3)) (da_cons (de_var (pv 3)) da_nil))) (da_cons (de_call (k_p_times.up (by decide)) hr hgd (da_cons (de_var (pv 5)) (da_cons (de_var (pv 5)) da_nil))) da_nil))) (da_cons (de_tup (da_cons (de_var (pv 6)) (da_cons de_int da_nil))) da_nil))) da_nil))))
    (dss_cons (ds_set (i := 13) sc_p_sign_by.nd rfl (.inl rfl) (de_call (k_p_times.up (by decide)) hr hgd (da_cons (de_glob g_TWO) (da_cons (de_call (k_p_plus.up (by decide)) hr hgd (da_cons (de_call (k_p_times.up (by decide)) hr hgd (da_cons (de_var (pv 10)) (da_cons (de_var (pv 3)) da_nil))) (da_cons (de_call (k_p_times.up (by decide)) hr hgd (da_cons (de_var (pv 11)) (da_cons (de_var (pv 5)) da_nil))) da_nil))) da_nil))))
    (dss_one (ds_ret (de_call (k_p_sign_one.up (by decide)) hr hgd (da_cons (de_call (k_p_minus.up (by decide)) hr hgd (da_cons (de_var (pv 12)) (da_cons (de_ix (de_var (pv 0)) de_int) da_nil))) (da_cons (de_var (pv 13)) (da_cons (de_var (pv 6)) da_nil))))))))))))
theorem b_p_is_led (B : BF mg) (g_START : GVal K mg "START" dStart) (k_p_is_pointed : Kn P w K mg base "is_pointed" 1 4 S_p_is_pointed) (k_p_is_truth : Kn P w K mg base "is_truth" 1 1 S_p_is_truth) (cdv : Value) (A : Around) (outer : List Env) (s : Shared) (H : Hp) (hr : Room 4 (A.deeper (envOfC "is_led" (defScope s_p_is_led) s.heap.objs.size f cdv))) (hgd : (A.deeper (envOfC "is_led" (defScope s_p_is_led) s.heap.objs.size f cdv)).guards = some []) : DSs (cxOf CX0 P w K mg base N_p_is_led "is_led" (defScope s_p_is_led) f cdv A outer s H E0).nox (defBody s_p_is_led) m_p_is_led :=
    (dss_cons (ds_if (DW.dt (dw_or (dt_not (dt_val (de_isi (T := "tuple") (de_var (pv 0)) (by decide) rfl B.isinstance B.tuple_ PyProof.Rows.boot_tuple))) (dw_or (dt_cmp od_neI (de_callB cd_len B.len PySem.boot_len (da_cons (de_var (pv 0)) da_nil)) de_int) (dw_or1 (dt_not (dt_val (de_call (k_p_is_pointed.up (by decide)) hr hgd (da_cons (de_cut (de_var (pv 0)) end_none (end_some (i := 2))) da_nil)))))))) (dss_one (ds_ret de_bl)) dss_nil)
    (dss_one (ds_ret (de_and (de_cmp (od_ne hr) (de_cut (de_var (pv 0)) end_none (end_some (i := 2))) (de_glob g_START)) (de_and (de_call (k_p_is_truth.up (by decide)) hr hgd (da_cons (de_ix (de_var (pv 0)) de_int) da_nil)) (de_one (de_call (k_p_is_pointed.up (by decide)) hr hgd (da_cons (de_ix (de_var (pv 0)) de_int) da_nil))))))))
theorem b_p_is_wayed (B : BF mg) (g_START : GVal K mg "START" dStart) (k_p_is_pointed : Kn P w K mg base "is_pointed" 1 4 S_p_is_pointed) (cdv : Value) (A : Around) (outer : List Env) (s : Shared) (H : Hp) (hr : Room 4 (A.deeper (envOfC "is_wayed" (defScope s_p_is_wayed) s.heap.objs.size f cdv))) (hgd : (A.deeper (envOfC "is_wayed" (defScope s_p_is_wayed) s.heap.objs.size f cdv)).guards = some []) : DSs (cxOf CX0 P w K mg base N_p_is_wayed "is_wayed" (defScope s_p_is_wayed) f cdv A outer s H E0).nox (defBody s_p_is_wayed) m_p_is_wayed :=
    (dss_one (ds_ret (de_and (de_call (k_p_is_pointed.up (by decide)) hr hgd (da_cons (de_var (pv 0)) da_nil)) (de_one (de_cmp (od_ne hr) (de_var (pv 0)) (de_glob g_START))))))
theorem b_p_sum_of (B : BF mg) (k_p_plus : Kn P w K mg base "plus" 2 2 S_p_plus) (cdv : Value) (A : Around) (outer : List Env) (s : Shared) (H : Hp) (hr : Room 2 (A.deeper (envOfC "sum_of" (defScope s_p_sum_of) s.heap.objs.size f cdv))) (hgd : (A.deeper (envOfC "sum_of" (defScope s_p_sum_of) s.heap.objs.size f cdv)).guards = some []) : DSs (cxOf CX0 P w K mg base N_p_sum_of "sum_of" (defScope s_p_sum_of) f cdv A outer s H E0).nox (defBody s_p_sum_of) m_p_sum_of :=
    (dss_one (ds_ret (de_tup (da_cons (de_call (k_p_plus.up (by decide)) hr hgd (da_cons (de_ix (de_var (pv 0)) de_int) (da_cons (de_ix (de_var (pv 1)) de_int) da_nil))) (da_cons (de_call (k_p_plus.up (by decide)) hr hgd (da_cons (de_ix (de_var (pv 0)) de_int) (da_cons (de_ix (de_var (pv 1)) de_int) da_nil))) da_nil)))))
theorem b_p_scaled_by (B : BF mg) (k_p_times : Kn P w K mg base "times" 2 2 S_p_times) (cdv : Value) (A : Around) (outer : List Env) (s : Shared) (H : Hp) (hr : Room 2 (A.deeper (envOfC "scaled_by" (defScope s_p_scaled_by) s.heap.objs.size f cdv))) (hgd : (A.deeper (envOfC "scaled_by" (defScope s_p_scaled_by) s.heap.objs.size f cdv)).guards = some []) : DSs (cxOf CX0 P w K mg base N_p_scaled_by "scaled_by" (defScope s_p_scaled_by) f cdv A outer s H E0).nox (defBody s_p_scaled_by) m_p_scaled_by :=
    (dss_one (ds_ret (de_tup (da_cons (de_call (k_p_times.up (by decide)) hr hgd (da_cons (de_ix (de_var (pv 0)) de_int) (da_cons (de_var (pv 1)) da_nil))) (da_cons (de_call (k_p_times.up (by decide)) hr hgd (da_cons (de_ix (de_var (pv 0)) de_int) (da_cons (de_var (pv 1)) da_nil))) da_nil)))))
theorem b_p_dot_of (B : BF mg) (k_p_plus : Kn P w K mg base "plus" 2 2 S_p_plus) (k_p_times : Kn P w K mg base "times" 2 2 S_p_times) (cdv : Value) (A : Around) (outer : List Env) (s : Shared) (H : Hp) (hr : Room 2 (A.deeper (envOfC "dot_of" (defScope s_p_dot_of) s.heap.objs.size f cdv))) (hgd : (A.deeper (envOfC "dot_of" (defScope s_p_dot_of) s.heap.objs.size f cdv)).guards = some []) : DSs (cxOf CX0 P w K mg base N_p_dot_of "dot_of" (defScope s_p_dot_of) f cdv A outer s H E0).nox (defBody s_p_dot_of) m_p_dot_of :=
    (dss_one (ds_ret (de_call (k_p_plus.up (by decide)) hr hgd (da_cons (de_call (k_p_times.up (by decide)) hr hgd (da_cons (de_ix (de_var (pv 0)) de_int) (da_cons (de_ix (de_var (pv 1)) de_int) da_nil))) (da_cons (de_call (k_p_times.up (by decide)) hr hgd (da_cons (de_ix (de_var (pv 0)) de_int) (da_cons (de_ix (de_var (pv 1)) de_int) da_nil))) da_nil)))))
theorem b_p_product_of (B : BF mg) (k_p_minus : Kn P w K mg base "minus" 2 2 S_p_minus) (k_p_plus : Kn P w K mg base "plus" 2 2 S_p_plus) (k_p_times : Kn P w K mg base "times" 2 2 S_p_times) (cdv : Value) (A : Around) (outer : List Env) (s : Shared) (H : Hp) (hr : Room 2 (A.deeper (envOfC "product_of" (defScope s_p_product_of) s.heap.objs.size f cdv))) (hgd : (A.deeper (envOfC "product_of" (defScope s_p_product_of) s.heap.objs.size f cdv)).guards = some []) : DSs (cxOf CX0 P w K mg base N_p_product_of "product_of" (defScope s_p_product_of) f cdv A outer s H E0).nox (defBody s_p_product_of) m_p_product_of :=
    (dss_one (ds_ret (de_tup (da_cons (de_call (k_p_minus.up (by decide)) hr hgd (da_cons (de_call (k_p_times.up (by decide)) hr hgd (da_cons (de_ix (de_var (pv 0)) de_int) (da_cons (de_ix (de_var (pv 1)) de_int) da_nil))) (da_cons (de_call (k_p_times.up (by decide)) hr hgd (da_cons (de_ix (de_var (pv 0)) de_int) (da_cons (de_ix (de_var (pv 1)) de_int) da_nil))) da_nil))) (da_cons (de_call (k_p_plus.up (by decide)) hr hgd (da_cons (de_call (k_p_times.up (by decide)) hr hgd (da_cons (de_ix (de_var (pv 0)) de_int) (da_cons (de_ix (de_var (pv 1)) de_int) da_nil))) (da_cons (de_call (k_p_times.up (by decide)) hr hgd (da_cons (de_ix (de_var (pv 0)) de_int) (da_cons (de_ix (de_var (pv 1)) de_int) da_nil))) da_nil))) da_nil)))))
theorem b_p_flipped_if (B : BF mg) (k_p_opposite : Kn P w K mg base "opposite" 1 1 S_p_opposite) (cdv : Value) (A : Around) (outer : List Env) (s : Shared) (H : Hp) (hr : Room 1 (A.deeper (envOfC "flipped_if" (defScope s_p_flipped_if) s.heap.objs.size f cdv))) (hgd : (A.deeper (envOfC "flipped_if" (defScope s_p_flipped_if) s.heap.objs.size f cdv)).guards = some []) : DSs (cxOf CX0 P w K mg base N_p_flipped_if "flipped_if" (defScope s_p_flipped_if) f cdv A outer s H E0).nox (defBody s_p_flipped_if) m_p_flipped_if :=
    (dss_one (ds_ret (de_if (dt_val (de_var (pv 0))) (de_tup (da_cons (de_ix (de_var (pv 1)) de_int) (da_cons (de_call (k_p_opposite.up (by decide)) hr hgd (da_cons (de_ix (de_var (pv 1)) de_int) da_nil)) da_nil))) (de_var (pv 1)))))
theorem b_p_under_one (B : BF mg) (g_ONE : GVal K mg "ONE" dOne) (k_p_dot_of : Kn P w K mg base "dot_of" 2 3 S_p_dot_of) (k_p_opposite : Kn P w K mg base "opposite" 1 1 S_p_opposite) (k_p_over : Kn P w K mg base "over" 2 2 S_p_over) (k_p_scaled_by : Kn P w K mg base "scaled_by" 2 3 S_p_scaled_by) (cdv : Value) (A : Around) (outer : List Env) (s : Shared) (H : Hp) (hr : Room 3 (A.deeper (envOfC "under_one" (defScope s_p_under_one) s.heap.objs.size f cdv))) (hgd : (A.deeper (envOfC "under_one" (defScope s_p_under_one) s.heap.objs.size f cdv)).guards = some []) : DSs (cxOf CX0 P w K mg base N_p_under_one "under_one" (defScope s_p_under_one) f cdv A outer s H E0).nox (defBody s_p_under_one) m_p_under_one :=
    (dss_one (ds_ret (de_call (k_p_scaled_by.up (by decide)) hr hgd (da_cons (de_tup (da_cons (de_ix (de_var (pv 0)) de_int) (da_cons (de_call (k_p_opposite.up (by decide)) hr hgd (da_cons (de_ix (de_var (pv 0)) de_int) da_nil)) da_nil))) (da_cons (de_call (k_p_over.up (by decide)) hr hgd (da_cons (de_glob g_ONE) (da_cons (de_call (k_p_dot_of.up (by decide)) hr hgd (da_cons (de_var (pv 0)) (da_cons (de_var (pv 0)) da_nil))) da_nil))) da_nil)))))
theorem b_p_is_rigid_by (B : BF mg) (g_ONE : GVal K mg "ONE" dOne) (k_p_dot_of : Kn P w K mg base "dot_of" 2 3 S_p_dot_of) (cdv : Value) (A : Around) (outer : List Env) (s : Shared) (H : Hp) (hr : Room 3 (A.deeper (envOfC "is_rigid_by" (defScope s_p_is_rigid_by) s.heap.objs.size f cdv))) (hgd : (A.deeper (envOfC "is_rigid_by" (defScope s_p_is_rigid_by) s.heap.objs.size f cdv)).guards = some []) : DSs (cxOf CX0 P w K mg base N_p_is_rigid_by "is_rigid_by" (defScope s_p_is_rigid_by) f cdv A outer s H E0).nox (defBody s_p_is_rigid_by) m_p_is_rigid_by :=
    (dss_one (ds_ret (de_cmp (od_eq hr) (de_call (k_p_dot_of.up (by decide)) hr hgd (da_cons (de_cut (de_var (pv 0)) end_none (end_some (i := 2))) (da_cons (de_cut (de_var (pv 0)) end_none (end_some (i := 2))) da_nil))) (de_glob g_ONE))))
theorem b_p_led_way (B : BF mg) (k_p_flipped_if : Kn P w K mg base "flipped_if" 2 2 S_p_flipped_if) (k_p_product_of : Kn P w K mg base "product_of" 2 3 S_p_product_of) (cdv : Value) (A : Around) (outer : List Env) (s : Shared) (H : Hp) (hr : Room 3 (A.deeper (envOfC "led_way" (defScope s_p_led_way) s.heap.objs.size f cdv))) (hgd : (A.deeper (envOfC "led_way" (defScope s_p_led_way) s.heap.objs.size f cdv)).guards = some []) : DSs (cxOf CX0 P w K mg base N_p_led_way "led_way" (defScope s_p_led_way) f cdv A outer s H E0).nox (defBody s_p_led_way) m_p_led_way :=
    (dss_one (ds_ret (de_call (k_p_product_of.up (by decide)) hr hgd (da_cons (de_cut (de_var (pv 0)) end_none (end_some (i := 2))) (da_cons (de_call (k_p_flipped_if.up (by decide)) hr hgd (da_cons (de_ix (de_var (pv 0)) de_int) (da_cons (de_var (pv 1)) da_nil))) da_nil)))))
theorem b_p_lead_point (B : BF mg) (k_p_led_way : Kn P w K mg base "led_way" 2 4 S_p_led_way) (k_p_sum_of : Kn P w K mg base "sum_of" 2 3 S_p_sum_of) (cdv : Value) (A : Around) (outer : List Env) (s : Shared) (H : Hp) (hr : Room 4 (A.deeper (envOfC "lead_point" (defScope s_p_lead_point) s.heap.objs.size f cdv))) (hgd : (A.deeper (envOfC "lead_point" (defScope s_p_lead_point) s.heap.objs.size f cdv)).guards = some []) : DSs (cxOf CX0 P w K mg base N_p_lead_point "lead_point" (defScope s_p_lead_point) f cdv A outer s H E0).nox (defBody s_p_lead_point) m_p_lead_point :=
    (dss_one (ds_ret (de_call (k_p_sum_of.up (by decide)) hr hgd (da_cons (de_call (k_p_led_way.up (by decide)) hr hgd (da_cons (de_var (pv 0)) (da_cons (de_var (pv 1)) da_nil))) (da_cons (de_ix (de_var (pv 0)) de_int) da_nil)))))
theorem b_p_lead_place (B : BF mg) (k_p_in_one : Kn P w K mg base "in_one" 2 3 S_p_in_one) (k_p_lead_point : Kn P w K mg base "lead_point" 2 5 S_p_lead_point) (k_p_led_way : Kn P w K mg base "led_way" 2 4 S_p_led_way) (k_p_number_from : Kn P w K mg base "number_from" 3 3 S_p_number_from) (cdv : Value) (A : Around) (outer : List Env) (s : Shared) (H : Hp) (hr : Room 5 (A.deeper (envOfC "lead_place" (defScope s_p_lead_place) s.heap.objs.size f cdv))) (hgd : (A.deeper (envOfC "lead_place" (defScope s_p_lead_place) s.heap.objs.size f cdv)).guards = some []) : DSs (cxOf CX0 P w K mg base N_p_lead_place "lead_place" (defScope s_p_lead_place) f cdv A outer s H E0).nox (defBody s_p_lead_place) m_p_lead_place :=
    (dss_cons (ds_asg (de_call (k_p_in_one.up (by decide)) hr hgd (da_cons (de_ix (de_var (pv 1)) de_int) (da_cons (de_ix (de_var (pv 1)) de_int) da_nil))) (dg_tup rfl (dgs_cons (dg_name (pg_name (i := 2) sc_p_lead_place.nd rfl (.inl rfl))) (dgs_cons (dg_name (pg_name (i := 3) sc_p_lead_place.nd rfl (.inl rfl))) (dgs_cons (dg_name (pg_name (i := 4) sc_p_lead_place.nd rfl (.inl rfl))) (dgs_cons (dg_name (pg_name (i := 5) sc_p_lead_place.nd rfl (.inl rfl))) (dgs_cons (dg_name (pg_name (i := 6) sc_p_lead_place.nd rfl (.inl rfl))) dgs_nil)))))))
    (dss_cons (ds_asg (de_call (k_p_lead_point.up (by decide)) hr hgd (da_cons (de_var (pv 0)) (da_cons (de_tup (da_cons (de_var (pv 2)) (da_cons (de_var (pv 4)) da_nil))) da_nil))) (dg_tup rfl (dgs_cons (dg_name (pg_name (i := 7) sc_p_lead_place.nd rfl (.inl rfl))) (dgs_cons (dg_name (pg_name (i := 8) sc_p_lead_place.nd rfl (.inl rfl))) dgs_nil))))
    (dss_cons (ds_asg (de_call (k_p_led_way.up (by decide)) hr hgd (da_cons (de_var (pv 0)) (da_cons (de_tup (da_cons (de_var (pv 3)) (da_cons (de_var (pv 5)) da_nil))) da_nil))) (dg_tup rfl (dgs_cons (dg_name (pg_name (i := 9) sc_p_lead_place.nd rfl (.inl rfl))) (dgs_cons (dg_name (pg_name (i := 10) sc_p_lead_place.nd rfl (.inl rfl))) dgs_nil))))
    (dss_one (ds_ret (de_tup (da_cons (de_call (k_p_number_from.up (by decide)) hr hgd (da_cons (de_var (pv 7)) (da_cons (de_var (pv 9)) (da_cons (de_var (pv 6)) da_nil)))) (da_cons (de_call (k_p_number_from.up (by decide)) hr hgd (da_cons (de_var (pv 8)) (da_cons (de_var (pv 10)) (da_cons (de_var (pv 6)) da_nil)))) da_nil))))))))
theorem b_p_lead_curve (B : BF mg) (k_p_dot_of : Kn P w K mg base "dot_of" 2 3 S_p_dot_of) (k_p_is_line : Kn P w K mg base "is_line" 1 1 S_p_is_line) (k_p_lead_point : Kn P w K mg base "lead_point" 2 5 S_p_lead_point) (k_p_led_way : Kn P w K mg base "led_way" 2 4 S_p_led_way) (k_p_plus : Kn P w K mg base "plus" 2 2 S_p_plus) (k_p_times : Kn P w K mg base "times" 2 2 S_p_times) (cdv : Value) (A : Around) (outer : List Env) (s : Shared) (H : Hp) (hr : Room 5 (A.deeper (envOfC "lead_curve" (defScope s_p_lead_curve) s.heap.objs.size f cdv))) (hgd : (A.deeper (envOfC "lead_curve" (defScope s_p_lead_curve) s.heap.objs.size f cdv)).guards = some []) : DSs (cxOf CX0 P w K mg base N_p_lead_curve "lead_curve" (defScope s_p_lead_curve) f cdv A outer s H E0).nox (defBody s_p_lead_curve) m_p_lead_curve :=
    (dss_cons (ds_set (i := 2) sc_p_lead_curve.nd rfl (.inl rfl) (de_call (k_p_dot_of.up (by decide)) hr hgd (da_cons (de_cut (de_var (pv 0)) end_none (end_some (i := 2))) (da_cons (de_cut (de_var (pv 0)) end_none (end_some (i := 2))) da_nil))))
    (dss_cons (ds_if (dt_not (dt_val (de_call (k_p_is_line.up (by decide)) hr hgd (da_cons (de_var (pv 1)) da_nil)))) (dss_one (ds_ret (de_tup (da_cons de_str (da_star (de_call (k_p_lead_point.up (by decide)) hr hgd (da_cons (de_var (pv 0)) (da_cons (de_cut (de_var (pv 1)) (end_some (i := 1)) (end_some (i := 3))) da_nil))) (da_cons (de_call (k_p_times.up (by decide)) hr hgd (da_cons (de_var (pv 2)) (da_cons (de_ix (de_var (pv 1)) de_int) da_nil))) da_nil)))))) dss_nil)
    (dss_cons (ds_set (i := 3) sc_p_lead_curve.nd rfl (.inl rfl) (de_call (k_p_led_way.up (by decide)) hr hgd (da_cons (de_var (pv 0)) (da_cons (de_cut (de_var (pv 1)) (end_some (i := 1)) (end_some (i := 3))) da_nil))))
    (dss_one (ds_ret (de_tup (da_cons de_str (da_star (de_var (pv 3)) (da_cons (de_call (k_p_plus.up (by decide)) hr hgd (da_cons (de_call (k_p_times.up (by decide)) hr hgd (da_cons (de_var (pv 2)) (da_cons (de_ix (de_var (pv 1)) de_int) da_nil))) (da_cons (de_call (k_p_dot_of.up (by decide)) hr hgd (da_cons (de_var (pv 3)) (da_cons (de_ix (de_var (pv 0)) de_int) da_nil))) da_nil))) da_nil)))))))))
theorem b_p_lead_behind (B : BF mg) (k_p_flipped_if : Kn P w K mg base "flipped_if" 2 2 S_p_flipped_if) (k_p_lead_point : Kn P w K mg base "lead_point" 2 5 S_p_lead_point) (k_p_product_of : Kn P w K mg base "product_of" 2 3 S_p_product_of) (cdv : Value) (A : Around) (outer : List Env) (s : Shared) (H : Hp) (hr : Room 5 (A.deeper (envOfC "lead_behind" (defScope s_p_lead_behind) s.heap.objs.size f cdv))) (hgd : (A.deeper (envOfC "lead_behind" (defScope s_p_lead_behind) s.heap.objs.size f cdv)).guards = some []) : DSs (cxOf CX0 P w K mg base N_p_lead_behind "lead_behind" (defScope s_p_lead_behind) f cdv A outer s H E0).nox (defBody s_p_lead_behind) m_p_lead_behind :=
    (dss_cons (ds_set (i := 2) sc_p_lead_behind.nd rfl (.inl rfl) (de_call (k_p_product_of.up (by decide)) hr hgd (da_cons (de_cut (de_var (pv 1)) end_none (end_some (i := 2))) (da_cons (de_call (k_p_flipped_if.up (by decide)) hr hgd (da_cons (de_ix (de_var (pv 1)) de_int) (da_cons (de_cut (de_var (pv 0)) end_none (end_some (i := 2))) da_nil))) da_nil))))
    (dss_one (ds_ret (de_tup (da_star (de_var (pv 2)) (da_cons (de_cmp (od_ne hr) (de_ix (de_var (pv 0)) de_int) (de_ix (de_var (pv 1)) de_int)) (da_cons (de_call (k_p_lead_point.up (by decide)) hr hgd (da_cons (de_var (pv 1)) (da_cons (de_ix (de_var (pv 0)) de_int) da_nil))) da_nil)))))))
theorem b_p_back_by (B : BF mg) (k_p_flipped_if : Kn P w K mg base "flipped_if" 2 2 S_p_flipped_if) (k_p_product_of : Kn P w K mg base "product_of" 2 3 S_p_product_of) (k_p_scaled_by : Kn P w K mg base "scaled_by" 2 3 S_p_scaled_by) (k_p_under_one : Kn P w K mg base "under_one" 1 4 S_p_under_one) (cdv : Value) (A : Around) (outer : List Env) (s : Shared) (H : Hp) (hr : Room 4 (A.deeper (envOfC "back_by" (defScope s_p_back_by) s.heap.objs.size f cdv))) (hgd : (A.deeper (envOfC "back_by" (defScope s_p_back_by) s.heap.objs.size f cdv)).guards = some []) : DSs (cxOf CX0 P w K mg base N_p_back_by "back_by" (defScope s_p_back_by) f cdv A outer s H E0).nox (defBody s_p_back_by) m_p_back_by :=
    (dss_cons (ds_set (i := 1) sc_p_back_by.nd rfl (.inl rfl) (de_call (k_p_under_one.up (by decide)) hr hgd (da_cons (de_cut (de_var (pv 0)) end_none (end_some (i := 2))) da_nil)))
    (dss_cons (ds_set (i := 2) sc_p_back_by.nd rfl (.inl rfl) (de_call (k_p_product_of.up (by decide)) hr hgd (da_cons (de_var (pv 1)) (da_cons (de_ix (de_var (pv 0)) de_int) da_nil))))
    (dss_one (ds_ret (de_tup (da_star (de_call (k_p_flipped_if.up (by decide)) hr hgd (da_cons (de_ix (de_var (pv 0)) de_int) (da_cons (de_var (pv 1)) da_nil))) (da_cons (de_ix (de_var (pv 0)) de_int) (da_cons (de_call (k_p_scaled_by.up (by decide)) hr hgd (da_cons (de_call (k_p_flipped_if.up (by decide)) hr hgd (da_cons (de_ix (de_var (pv 0)) de_int) (da_cons (de_var (pv 2)) da_nil))) (da_cons (de_tup (da_cons (de_neg de_int) (da_cons de_int da_nil))) da_nil))) da_nil))))))))
theorem b_p_move_by (B : BF mg) (g_ONE : GVal K mg "ONE" dOne) (g_ZERO : GVal K mg "ZERO" dZero) (cdv : Value) (A : Around) (outer : List Env) (s : Shared) (H : Hp) (hr : Room 0 (A.deeper (envOfC "move_by" (defScope s_p_move_by) s.heap.objs.size f cdv))) (hgd : (A.deeper (envOfC "move_by" (defScope s_p_move_by) s.heap.objs.size f cdv)).guards = some []) : DSs (cxOf CX0 P w K mg base N_p_move_by "move_by" (defScope s_p_move_by) f cdv A outer s H E0).nox (defBody s_p_move_by) m_p_move_by :=
    (dss_one (ds_ret (de_tup (da_cons (de_glob g_ONE) (da_cons (de_glob g_ZERO) (da_cons de_bl (da_cons (de_var (pv 0)) da_nil)))))))
theorem b_p_turn_by (B : BF mg) (g_ONE : GVal K mg "ONE" dOne) (g_START : GVal K mg "START" dStart) (k_p_dot_of : Kn P w K mg base "dot_of" 2 3 S_p_dot_of) (k_p_over : Kn P w K mg base "over" 2 2 S_p_over) (k_p_product_of : Kn P w K mg base "product_of" 2 3 S_p_product_of) (k_p_scaled_by : Kn P w K mg base "scaled_by" 2 3 S_p_scaled_by) (cdv : Value) (A : Around) (outer : List Env) (s : Shared) (H : Hp) (hr : Room 3 (A.deeper (envOfC "turn_by" (defScope s_p_turn_by) s.heap.objs.size f cdv))) (hgd : (A.deeper (envOfC "turn_by" (defScope s_p_turn_by) s.heap.objs.size f cdv)).guards = some []) : DSs (cxOf CX0 P w K mg base N_p_turn_by "turn_by" (defScope s_p_turn_by) f cdv A outer s H E0).nox (defBody s_p_turn_by) m_p_turn_by :=
    (dss_cons (ds_set (i := 1) sc_p_turn_by.nd rfl (.inl rfl) (de_call (k_p_product_of.up (by decide)) hr hgd (da_cons (de_var (pv 0)) (da_cons (de_var (pv 0)) da_nil))))
    (dss_one (ds_ret (de_tup (da_star (de_call (k_p_scaled_by.up (by decide)) hr hgd (da_cons (de_var (pv 1)) (da_cons (de_call (k_p_over.up (by decide)) hr hgd (da_cons (de_glob g_ONE) (da_cons (de_call (k_p_dot_of.up (by decide)) hr hgd (da_cons (de_var (pv 0)) (da_cons (de_var (pv 0)) da_nil))) da_nil))) da_nil))) (da_cons de_bl (da_cons (de_glob g_START) da_nil)))))))
theorem b_p_mirror_by (B : BF mg) (g_TWO : GVal K mg "TWO" dTwo) (k_p_dot_of : Kn P w K mg base "dot_of" 2 3 S_p_dot_of) (k_p_over : Kn P w K mg base "over" 2 2 S_p_over) (k_p_product_of : Kn P w K mg base "product_of" 2 3 S_p_product_of) (k_p_scaled_by : Kn P w K mg base "scaled_by" 2 3 S_p_scaled_by) (k_p_times : Kn P w K mg base "times" 2 2 S_p_times) (cdv : Value) (A : Around) (outer : List Env) (s : Shared) (H : Hp) (hr : Room 3 (A.deeper (envOfC "mirror_by" (defScope s_p_mirror_by) s.heap.objs.size f cdv))) (hgd : (A.deeper (envOfC "mirror_by" (defScope s_p_mirror_by) s.heap.objs.size f cdv)).guards = some []) : DSs (cxOf CX0 P w K mg base N_p_mirror_by "mirror_by" (defScope s_p_mirror_by) f cdv A outer s H E0).nox (defBody s_p_mirror_by) m_p_mirror_by :=
    (dss_cons (ds_set (i := 1) sc_p_mirror_by.nd rfl (.inl rfl) (de_cut (de_var (pv 0)) (end_some (i := 1)) (end_some (i := 3))))
    (dss_cons (ds_set (i := 2) sc_p_mirror_by.nd rfl (.inl rfl) (de_call (k_p_dot_of.up (by decide)) hr hgd (da_cons (de_var (pv 1)) (da_cons (de_var (pv 1)) da_nil))))
    (dss_cons (ds_set (i := 3) sc_p_mirror_by.nd rfl (.inl rfl) (de_call (k_p_scaled_by.up (by decide)) hr hgd (da_cons (de_call (k_p_product_of.up (by decide)) hr hgd (da_cons (de_var (pv 1)) (da_cons (de_var (pv 1)) da_nil))) (da_cons (de_call (k_p_over.up (by decide)) hr hgd (da_cons (de_tup (da_cons (de_neg de_int) (da_cons de_int da_nil))) (da_cons (de_var (pv 2)) da_nil))) da_nil))))
    (dss_one (ds_ret (de_tup (da_star (de_var (pv 3)) (da_cons de_bl (da_cons (de_call (k_p_scaled_by.up (by decide)) hr hgd (da_cons (de_var (pv 1)) (da_cons (de_call (k_p_over.up (by decide)) hr hgd (da_cons (de_call (k_p_times.up (by decide)) hr hgd (da_cons (de_glob g_TWO) (da_cons (de_ix (de_var (pv 0)) de_int) da_nil))) (da_cons (de_var (pv 2)) da_nil))) da_nil))) da_nil)))))))))
theorem b_p_check_point (B : BF mg) (k_p_is_pointed : Kn P w K mg base "is_pointed" 1 4 S_p_is_pointed) (cdv : Value) (A : Around) (outer : List Env) (s : Shared) (H : Hp) (hr : Room 4 (A.deeper (envOfC "check_point" (defScope s_p_check_point) s.heap.objs.size f cdv))) (hgd : (A.deeper (envOfC "check_point" (defScope s_p_check_point) s.heap.objs.size f cdv)).guards = some []) : DSs (cxOf CX0 P w K mg base N_p_check_point "check_point" (defScope s_p_check_point) f cdv A outer s H E0).nox (defBody s_p_check_point) m_p_check_point :=
    (dss_one (ds_if (dt_not (dt_val (de_call (k_p_is_pointed.up (by decide)) hr hgd (da_cons (de_var (pv 0)) da_nil)))) (dss_one ds_never) dss_nil))
theorem b_p_check_place (B : BF mg) (k_p_is_placed : Kn P w K mg base "is_placed" 1 5 S_p_is_placed) (cdv : Value) (A : Around) (outer : List Env) (s : Shared) (H : Hp) (hr : Room 5 (A.deeper (envOfC "check_place" (defScope s_p_check_place) s.heap.objs.size f cdv))) (hgd : (A.deeper (envOfC "check_place" (defScope s_p_check_place) s.heap.objs.size f cdv)).guards = some []) : DSs (cxOf CX0 P w K mg base N_p_check_place "check_place" (defScope s_p_check_place) f cdv A outer s H E0).nox (defBody s_p_check_place) m_p_check_place :=
    (dss_one (ds_if (dt_not (dt_val (de_call (k_p_is_placed.up (by decide)) hr hgd (da_cons (de_var (pv 0)) da_nil)))) (dss_one ds_never) dss_nil))
theorem b_p_check_curve (B : BF mg) (k_p_is_curved : Kn P w K mg base "is_curved" 1 4 S_p_is_curved) (cdv : Value) (A : Around) (outer : List Env) (s : Shared) (H : Hp) (hr : Room 4 (A.deeper (envOfC "check_curve" (defScope s_p_check_curve) s.heap.objs.size f cdv))) (hgd : (A.deeper (envOfC "check_curve" (defScope s_p_check_curve) s.heap.objs.size f cdv)).guards = some []) : DSs (cxOf CX0 P w K mg base N_p_check_curve "check_curve" (defScope s_p_check_curve) f cdv A outer s H E0).nox (defBody s_p_check_curve) m_p_check_curve :=
    (dss_one (ds_if (dt_not (dt_val (de_call (k_p_is_curved.up (by decide)) hr hgd (da_cons (de_var (pv 0)) da_nil)))) (dss_one ds_never) dss_nil))
theorem b_p_check_lead (B : BF mg) (k_p_is_led : Kn P w K mg base "is_led" 1 5 S_p_is_led) (cdv : Value) (A : Around) (outer : List Env) (s : Shared) (H : Hp) (hr : Room 5 (A.deeper (envOfC "check_lead" (defScope s_p_check_lead) s.heap.objs.size f cdv))) (hgd : (A.deeper (envOfC "check_lead" (defScope s_p_check_lead) s.heap.objs.size f cdv)).guards = some []) : DSs (cxOf CX0 P w K mg base N_p_check_lead "check_lead" (defScope s_p_check_lead) f cdv A outer s H E0).nox (defBody s_p_check_lead) m_p_check_lead :=
    (dss_one (ds_if (dt_not (dt_val (de_call (k_p_is_led.up (by decide)) hr hgd (da_cons (de_var (pv 0)) da_nil)))) (dss_one ds_never) dss_nil))
theorem b_p_is_lead (B : BF mg) (k_p_is_led : Kn P w K mg base "is_led" 1 5 S_p_is_led) (cdv : Value) (A : Around) (outer : List Env) (s : Shared) (H : Hp) (hr : Room 5 (A.deeper (envOfC "is_lead" (defScope s_p_is_lead) s.heap.objs.size f cdv))) (hgd : (A.deeper (envOfC "is_lead" (defScope s_p_is_lead) s.heap.objs.size f cdv)).guards = some []) : DSs (cxOf CX0 P w K mg base N_p_is_lead "is_lead" (defScope s_p_is_lead) f cdv A outer s H E0).nox (defBody s_p_is_lead) m_p_is_lead :=
    (dss_one (ds_ret (de_call (k_p_is_led.up (by decide)) hr hgd (da_cons (de_var (pv 0)) da_nil))))
theorem b_p_led_place (B : BF mg) (k_p_check_lead : Kn P w K mg base "check_lead" 1 6 S_p_check_lead) (k_p_check_place : Kn P w K mg base "check_place" 1 6 S_p_check_place) (k_p_lead_place : Kn P w K mg base "lead_place" 2 6 S_p_lead_place) (cdv : Value) (A : Around) (outer : List Env) (s : Shared) (H : Hp) (hr : Room 6 (A.deeper (envOfC "led_place" (defScope s_p_led_place) s.heap.objs.size f cdv))) (hgd : (A.deeper (envOfC "led_place" (defScope s_p_led_place) s.heap.objs.size f cdv)).guards = some []) : DSs (cxOf CX0 P w K mg base N_p_led_place "led_place" (defScope s_p_led_place) f cdv A outer s H E0).nox (defBody s_p_led_place) m_p_led_place :=
    (dss_cons (ds_expr (de_call (k_p_check_lead.up (by decide)) hr hgd (da_cons (de_var (pv 0)) da_nil)))
    (dss_cons (ds_expr (de_call (k_p_check_place.up (by decide)) hr hgd (da_cons (de_var (pv 1)) da_nil)))
    (dss_one (ds_ret (de_call (k_p_lead_place.up (by decide)) hr hgd (da_cons (de_var (pv 0)) (da_cons (de_var (pv 1)) da_nil)))))))
theorem b_p_led_curve (B : BF mg) (k_p_check_curve : Kn P w K mg base "check_curve" 1 5 S_p_check_curve) (k_p_check_lead : Kn P w K mg base "check_lead" 1 6 S_p_check_lead) (k_p_lead_curve : Kn P w K mg base "lead_curve" 2 6 S_p_lead_curve) (cdv : Value) (A : Around) (outer : List Env) (s : Shared) (H : Hp) (hr : Room 6 (A.deeper (envOfC "led_curve" (defScope s_p_led_curve) s.heap.objs.size f cdv))) (hgd : (A.deeper (envOfC "led_curve" (defScope s_p_led_curve) s.heap.objs.size f cdv)).guards = some []) : DSs (cxOf CX0 P w K mg base N_p_led_curve "led_curve" (defScope s_p_led_curve) f cdv A outer s H E0).nox (defBody s_p_led_curve) m_p_led_curve :=
    (dss_cons (ds_expr (de_call (k_p_check_lead.up (by decide)) hr hgd (da_cons (de_var (pv 0)) da_nil)))
    (dss_cons (ds_expr (de_call (k_p_check_curve.up (by decide)) hr hgd (da_cons (de_var (pv 1)) da_nil)))
    (dss_one (ds_ret (de_call (k_p_lead_curve.up (by decide)) hr hgd (da_cons (de_var (pv 0)) (da_cons (de_var (pv 1)) da_nil)))))))
theorem b_p_behind (B : BF mg) (k_p_check_lead : Kn P w K mg base "check_lead" 1 6 S_p_check_lead) (k_p_lead_behind : Kn P w K mg base "lead_behind" 2 6 S_p_lead_behind) (cdv : Value) (A : Around) (outer : List Env) (s : Shared) (H : Hp) (hr : Room 6 (A.deeper (envOfC "behind" (defScope s_p_behind) s.heap.objs.size f cdv))) (hgd : (A.deeper (envOfC "behind" (defScope s_p_behind) s.heap.objs.size f cdv)).guards = some []) : DSs (cxOf CX0 P w K mg base N_p_behind "behind" (defScope s_p_behind) f cdv A outer s H E0).nox (defBody s_p_behind) m_p_behind :=
    (dss_cons (ds_expr (de_call (k_p_check_lead.up (by decide)) hr hgd (da_cons (de_var (pv 0)) da_nil)))
    (dss_cons (ds_expr (de_call (k_p_check_lead.up (by decide)) hr hgd (da_cons (de_var (pv 1)) da_nil)))
    (dss_one (ds_ret (de_call (k_p_lead_behind.up (by decide)) hr hgd (da_cons (de_var (pv 0)) (da_cons (de_var (pv 1)) da_nil)))))))
theorem b_p_back (B : BF mg) (k_p_back_by : Kn P w K mg base "back_by" 1 5 S_p_back_by) (k_p_check_lead : Kn P w K mg base "check_lead" 1 6 S_p_check_lead) (cdv : Value) (A : Around) (outer : List Env) (s : Shared) (H : Hp) (hr : Room 6 (A.deeper (envOfC "back" (defScope s_p_back) s.heap.objs.size f cdv))) (hgd : (A.deeper (envOfC "back" (defScope s_p_back) s.heap.objs.size f cdv)).guards = some []) : DSs (cxOf CX0 P w K mg base N_p_back "back" (defScope s_p_back) f cdv A outer s H E0).nox (defBody s_p_back) m_p_back :=
    (dss_cons (ds_expr (de_call (k_p_check_lead.up (by decide)) hr hgd (da_cons (de_var (pv 0)) da_nil)))
    (dss_one (ds_ret (de_call (k_p_back_by.up (by decide)) hr hgd (da_cons (de_var (pv 0)) da_nil)))))
theorem b_p_is_rigid (B : BF mg) (k_p_check_lead : Kn P w K mg base "check_lead" 1 6 S_p_check_lead) (k_p_is_rigid_by : Kn P w K mg base "is_rigid_by" 1 4 S_p_is_rigid_by) (cdv : Value) (A : Around) (outer : List Env) (s : Shared) (H : Hp) (hr : Room 6 (A.deeper (envOfC "is_rigid" (defScope s_p_is_rigid) s.heap.objs.size f cdv))) (hgd : (A.deeper (envOfC "is_rigid" (defScope s_p_is_rigid) s.heap.objs.size f cdv)).guards = some []) : DSs (cxOf CX0 P w K mg base N_p_is_rigid "is_rigid" (defScope s_p_is_rigid) f cdv A outer s H E0).nox (defBody s_p_is_rigid) m_p_is_rigid :=
    (dss_cons (ds_expr (de_call (k_p_check_lead.up (by decide)) hr hgd (da_cons (de_var (pv 0)) da_nil)))
    (dss_one (ds_ret (de_call (k_p_is_rigid_by.up (by decide)) hr hgd (da_cons (de_var (pv 0)) da_nil)))))
theorem b_p_move (B : BF mg) (k_p_check_point : Kn P w K mg base "check_point" 1 5 S_p_check_point) (k_p_move_by : Kn P w K mg base "move_by" 1 1 S_p_move_by) (cdv : Value) (A : Around) (outer : List Env) (s : Shared) (H : Hp) (hr : Room 5 (A.deeper (envOfC "move" (defScope s_p_move) s.heap.objs.size f cdv))) (hgd : (A.deeper (envOfC "move" (defScope s_p_move) s.heap.objs.size f cdv)).guards = some []) : DSs (cxOf CX0 P w K mg base N_p_move "move" (defScope s_p_move) f cdv A outer s H E0).nox (defBody s_p_move) m_p_move :=
    (dss_cons (ds_expr (de_call (k_p_check_point.up (by decide)) hr hgd (da_cons (de_var (pv 0)) da_nil)))
    (dss_one (ds_ret (de_call (k_p_move_by.up (by decide)) hr hgd (da_cons (de_var (pv 0)) da_nil)))))
theorem b_p_turn (B : BF mg) (k_p_is_wayed : Kn P w K mg base "is_wayed" 1 5 S_p_is_wayed) (k_p_turn_by : Kn P w K mg base "turn_by" 1 4 S_p_turn_by) (cdv : Value) (A : Around) (outer : List Env) (s : Shared) (H : Hp) (hr : Room 5 (A.deeper (envOfC "turn" (defScope s_p_turn) s.heap.objs.size f cdv))) (hgd : (A.deeper (envOfC "turn" (defScope s_p_turn) s.heap.objs.size f cdv)).guards = some []) : DSs (cxOf CX0 P w K mg base N_p_turn "turn" (defScope s_p_turn) f cdv A outer s H E0).nox (defBody s_p_turn) m_p_turn :=
    (dss_cons (ds_if (dt_not (dt_val (de_call (k_p_is_wayed.up (by decide)) hr hgd (da_cons (de_var (pv 0)) da_nil)))) (dss_one ds_never) dss_nil)
    (dss_one (ds_ret (de_call (k_p_turn_by.up (by decide)) hr hgd (da_cons (de_var (pv 0)) da_nil)))))
theorem b_p_mirror (B : BF mg) (k_p_check_curve : Kn P w K mg base "check_curve" 1 5 S_p_check_curve) (k_p_is_line : Kn P w K mg base "is_line" 1 1 S_p_is_line) (k_p_mirror_by : Kn P w K mg base "mirror_by" 1 4 S_p_mirror_by) (cdv : Value) (A : Around) (outer : List Env) (s : Shared) (H : Hp) (hr : Room 5 (A.deeper (envOfC "mirror" (defScope s_p_mirror) s.heap.objs.size f cdv))) (hgd : (A.deeper (envOfC "mirror" (defScope s_p_mirror) s.heap.objs.size f cdv)).guards = some []) : DSs (cxOf CX0 P w K mg base N_p_mirror "mirror" (defScope s_p_mirror) f cdv A outer s H E0).nox (defBody s_p_mirror) m_p_mirror :=
    (dss_cons (ds_expr (de_call (k_p_check_curve.up (by decide)) hr hgd (da_cons (de_var (pv 0)) da_nil)))
    (dss_cons (ds_if (dt_not (dt_val (de_call (k_p_is_line.up (by decide)) hr hgd (da_cons (de_var (pv 0)) da_nil)))) (dss_one ds_never) dss_nil)
    (dss_one (ds_ret (de_call (k_p_mirror_by.up (by decide)) hr hgd (da_cons (de_var (pv 0)) da_nil))))))
theorem b_p_sign_at (B : BF mg) (k_p_check_curve : Kn P w K mg base "check_curve" 1 5 S_p_check_curve) (k_p_check_place : Kn P w K mg base "check_place" 1 6 S_p_check_place) (k_p_sign_by : Kn P w K mg base "sign_by" 2 4 S_p_sign_by) (cdv : Value) (A : Around) (outer : List Env) (s : Shared) (H : Hp) (hr : Room 6 (A.deeper (envOfC "sign_at" (defScope s_p_sign_at) s.heap.objs.size f cdv))) (hgd : (A.deeper (envOfC "sign_at" (defScope s_p_sign_at) s.heap.objs.size f cdv)).guards = some []) : DSs (cxOf CX0 P w K mg base N_p_sign_at "sign_at" (defScope s_p_sign_at) f cdv A outer s H E0).nox (defBody s_p_sign_at) m_p_sign_at :=
    (dss_cons (ds_expr (de_call (k_p_check_curve.up (by decide)) hr hgd (da_cons (de_var (pv 0)) da_nil)))
    (dss_cons (ds_expr (de_call (k_p_check_place.up (by decide)) hr hgd (da_cons (de_var (pv 1)) da_nil)))
    (dss_one (ds_ret (de_call (k_p_sign_by.up (by decide)) hr hgd (da_cons (de_var (pv 0)) (da_cons (de_var (pv 1)) da_nil)))))))
end
end GD
end

section
set_option Elab.async false
set_option linter.all false
set_option maxRecDepth 100000
/-! GT: what the program's defs compute: whole numbers, fractions. -/
namespace GD
open PySem PySem.Spec PyProof.Rows L2 GQ
theorem isqrt_sq {r : Int} : ((Float64.isqrt r.toNat : Nat) : Int) = sq r := by
  obtain ⟨h1, h2⟩ := Float64.isqrt_spec r.toNat
  unfold sq
  rw [nsqrt_uniq h1 h2]
theorem le1000 {n : Nat} (h : Nat.ble n 1000 = true) : n ≤ 1000 := Nat.le_of_ble_eq_true h
theorem sem_p_is_whole {ds : List PyData} {P : PyData → Prop} : S_p_is_whole ds P → m_p_is_whole (startD N_p_is_whole ds) (fun _ => P .none) P := by
  rintro ⟨i, rfl, _, h⟩
  exact h
theorem sem_p_is_truth {ds : List PyData} {P : PyData → Prop} : S_p_is_truth ds P → m_p_is_truth (startD N_p_is_truth ds) (fun _ => P .none) P := by
  rintro ⟨i, rfl, _, h⟩
  exact h
theorem sem_p_are_wholes {ds : List PyData} {P : PyData → Prop} : S_p_are_wholes ds P → m_p_are_wholes (startD N_p_are_wholes ds) (fun _ => P .none) P := by
  rintro ⟨w, rfl, _, h⟩
  cases w with
  | two a b => exact ⟨le1000 rfl, ⟨_, rfl, trivial, ⟨_, rfl, trivial, le1000 rfl, h⟩⟩⟩
  | three a b c => exact ⟨le1000 rfl, ⟨_, rfl, trivial, ⟨_, rfl, trivial, ⟨_, rfl, trivial, le1000 rfl, h⟩⟩⟩⟩
  | four a b c d => exact h
theorem sem_p_is_ratio {ds : List PyData} {P : PyData → Prop} : S_p_is_ratio ds P → m_p_is_ratio (startD N_p_is_ratio ds) (fun _ => P .none) P := by
  rintro ⟨n, rfl, _, h⟩
  cases n with
  | q x =>
    refine ⟨.two _ _, rfl, trivial, ?_⟩
    refine cho_t (c := decide ((0 : Int) < (x.den : Int))) (decide_eq_true (den_pos' x)) ?_
    show P (.bool (decide (((Nat.gcd x.num.natAbs (x.den : Int).natAbs : Nat) : Int) = 1)))
    have : ((Nat.gcd x.num.natAbs (x.den : Int).natAbs : Nat) : Int) = 1 := by
      rw [Int.natAbs_natCast]
      exact congrArg Int.ofNat x.reduced
    rw [decide_eq_true this]
    exact h
  | r A B C u => exact ⟨.four _ _ _ _, rfl, trivial, h⟩
theorem gcd_dv {t l : Int} (h0 : 0 < l) (hl : Bi 9000 l) : Dv ((Nat.gcd t.natAbs l.natAbs : Nat) : Int) := by
  have p : 0 < Nat.gcd t.natAbs l.natAbs := Nat.gcd_pos_of_pos_right _ (by omega)
  have q : Nat.gcd t.natAbs l.natAbs ≤ l.natAbs := Nat.gcd_le_right _ (by omega)
  refine ⟨by omega, ?_⟩
  rw [Int.natAbs_natCast]
  exact Nat.lt_of_le_of_lt q hl
theorem sem_p_ratio {ds : List PyData} {P : PyData → Prop} : S_p_ratio ds P → m_p_ratio (startD N_p_ratio ds) (fun _ => P .none) P := by
  rintro ⟨⟨t, l⟩, rfl, ⟨h0, hb⟩, h⟩
  have h0 : (0 : Int) < l := h0
  have hb : Bi 9000 l := hb
  refine cho_t (c := decide ((0 : Int) < l)) (decide_eq_true h0) ?_
  refine ⟨gcd_dv h0 hb, gcd_dv h0 hb, le1000 rfl, ?_⟩
  show P (.tuple [.int (t.fdiv ((Nat.gcd t.natAbs l.natAbs : Nat) : Int)), .int (l.fdiv ((Nat.gcd t.natAbs l.natAbs : Nat) : Int))])
  rw [low_num h0, low_den h0]
  exact h
theorem Ok2.parts {p q : Rat} (h : Ok2 p q) : (0 < ((p.den : Int) * q.den) ∧ Bi 9000 ((p.den : Int) * q.den)) ∧ (Sm p.num ∧ Sm p.den) ∧ Sm q.num ∧ Sm q.den := by
  obtain ⟨n, d, m, e, ⟨h, k⟩, h1, h2, h3⟩ := h
  exact ⟨⟨Int.mul_pos (den_pos' p) (den_pos' q), (h.den.mul k.den).mono h3⟩, ⟨h.num.sm (by omega), h.den.sm (by omega)⟩, k.num.sm (by omega), k.den.sm (by omega)⟩
theorem sem_p_plus {ds : List PyData} {P : PyData → Prop} : S_p_plus ds P → m_p_plus (startD N_p_plus ds) (fun _ => P .none) P := by
  rintro ⟨⟨p, q⟩, rfl, hk, h⟩
  obtain ⟨hd, ⟨a, b⟩, c, d⟩ := Ok2.parts hk
  refine ⟨⟨a, d⟩, ⟨c, b⟩, ⟨b, d⟩, (_, _), rfl, hd, ?_⟩
  show P (encQ (Rat.divInt _ _))
  rw [fr_add]
  exact h
theorem sem_p_minus {ds : List PyData} {P : PyData → Prop} : S_p_minus ds P → m_p_minus (startD N_p_minus ds) (fun _ => P .none) P := by
  rintro ⟨⟨p, q⟩, rfl, hk, h⟩
  obtain ⟨hd, ⟨a, b⟩, c, d⟩ := Ok2.parts hk
  refine ⟨⟨a, d⟩, ⟨c, b⟩, ⟨b, d⟩, (_, _), rfl, hd, ?_⟩
  show P (encQ (Rat.divInt _ _))
  rw [fr_sub]
  exact h
theorem sem_p_times {ds : List PyData} {P : PyData → Prop} : S_p_times ds P → m_p_times (startD N_p_times ds) (fun _ => P .none) P := by
  rintro ⟨⟨p, q⟩, rfl, hk, h⟩
  obtain ⟨hd, ⟨a, b⟩, c, d⟩ := Ok2.parts hk
  refine ⟨⟨a, c⟩, ⟨b, d⟩, (_, _), rfl, hd, ?_⟩
  show P (encQ (Rat.divInt _ _))
  rw [fr_mul]
  exact h
theorem sem_p_over {ds : List PyData} {P : PyData → Prop} : S_p_over ds P → m_p_over (startD N_p_over ds) (fun _ => P .none) P := by
  rintro ⟨⟨p, q⟩, rfl, ⟨h0, hp, hq⟩, h⟩
  have h0 : 0 < q := h0
  have hp : B 4000 4000 p := hp
  have hq : B 4000 4000 q := hq
  refine ⟨⟨hp.num.sm (by decide), hq.den.sm (by decide)⟩, ⟨hp.den.sm (by decide), hq.num.sm (by decide)⟩, (_, _), rfl, ⟨Int.mul_pos (den_pos' p) (num_pos' h0), (hp.den.mul hq.num).mono (by decide)⟩, ?_⟩
  show P (encQ (Rat.divInt _ _))
  rw [fr_div]
  exact h
theorem sem_p_opposite {ds : List PyData} {P : PyData → Prop} : S_p_opposite ds P → m_p_opposite (startD N_p_opposite ds) (fun _ => P .none) P := by
  rintro ⟨q, rfl, hk, h⟩
  refine ⟨le1000 rfl, ?_⟩
  show P (.tuple [.int (-q.num), .int q.den])
  rw [← Rat.neg_num]
  exact h
theorem num_neg' {q : Rat} (h : q < 0) : q.num < 0 := by
  have := num_pos' (q := -q) (by grind)
  rw [Rat.neg_num] at this
  omega
theorem sg_num (q : Rat) : (if 0 < q.num then 1 else 0) - (if q.num < 0 then 1 else 0) = sg q := by
  unfold sg
  by_cases h : 0 < q
  · have := num_pos' h
    rw [if_pos h, if_pos this, if_neg (by omega)]
    rfl
  · by_cases k : q < 0
    · have := num_neg' k
      rw [if_neg h, if_pos k, if_pos this, if_neg (by omega)]
      rfl
    · have z : q = 0 := by grind
      subst z
      rfl
theorem sem_p_sign_of {ds : List PyData} {P : PyData → Prop} : S_p_sign_of ds P → m_p_sign_of (startD N_p_sign_of ds) (fun _ => P .none) P := by
  rintro ⟨q, rfl, hk, h⟩
  show P (.int _)
  have e := sg_num q
  have h : P (.int (sg q)) := h
  rw [← e] at h
  by_cases a : 0 < q.num <;> by_cases b : q.num < 0 <;> simp only [a, b, if_true, if_false] at h ⊢ <;> exact h
theorem gcd1 (n : Nat) : ((Nat.gcd (Int.natAbs 1) (n : Int).natAbs : Nat) : Int) = 1 := by
  rw [show Int.natAbs 1 = 1 from rfl, Nat.gcd_one_left]
  rfl
theorem lcm_of (n m : Nat) : ((1 : Int).fdiv ((Nat.gcd (Int.natAbs 1) (n : Int).natAbs : Nat) : Int) * (n : Int)).fdiv ((Nat.gcd ((1 : Int).fdiv ((Nat.gcd (Int.natAbs 1) (n : Int).natAbs : Nat) : Int) * (n : Int)).natAbs (m : Int).natAbs : Nat) : Int) * (m : Int) = (Nat.lcm n m : Nat) := by
  rw [gcd1, show (1 : Int).fdiv 1 = 1 from rfl, Int.one_mul, Int.natAbs_natCast, Int.natAbs_natCast, Int.fdiv_eq_ediv_of_nonneg _ (Int.natCast_nonneg _), ← Int.natCast_ediv, ← Int.natCast_mul]
  congr 1
  unfold Nat.lcm
  rw [Nat.div_mul_right_comm (Nat.gcd_dvd_left n m)]
theorem sem_p_shared_under {ds : List PyData} {P : PyData → Prop} : S_p_shared_under ds P → m_p_shared_under (startD N_p_shared_under ds) (fun _ => P .none) P := by
  rintro ⟨⟨p, q⟩, rfl, ⟨hp, hq⟩, h⟩
  have hp : p.den < 2 ^ 9000 := hp
  have hq : q.den < 2 ^ 9000 := hq
  have h : P (.int (Nat.lcm p.den q.den : Nat)) := h
  rw [← lcm_of] at h
  have g1 : Dv ((Nat.gcd (Int.natAbs 1) (p.den : Int).natAbs : Nat) : Int) := gcd_dv (den_pos' p) (Bi.nat hp)
  have g2 : Dv ((Nat.gcd ((1 : Int).fdiv ((Nat.gcd (Int.natAbs 1) (p.den : Int).natAbs : Nat) : Int) * (p.den : Int)).natAbs (q.den : Int).natAbs : Nat) : Int) := gcd_dv (den_pos' q) (Bi.nat hq)
  have e1 : (1 : Int).fdiv ((Nat.gcd (Int.natAbs 1) (p.den : Int).natAbs : Nat) : Int) * (p.den : Int) = p.den := by
    rw [gcd1, show (1 : Int).fdiv 1 = 1 from rfl, Int.one_mul]
  have s1 : Sm ((1 : Int).fdiv ((Nat.gcd (Int.natAbs 1) (p.den : Int).natAbs : Nat) : Int)) := by
    rw [gcd1]
    exact (Bi.lit (n := 1) (by decide)).sm (by decide)
  have s2 : Sm (((1 : Int).fdiv ((Nat.gcd (Int.natAbs 1) (p.den : Int).natAbs : Nat) : Int) * (p.den : Int)).fdiv ((Nat.gcd ((1 : Int).fdiv ((Nat.gcd (Int.natAbs 1) (p.den : Int).natAbs : Nat) : Int) * (p.den : Int)).natAbs (q.den : Int).natAbs : Nat) : Int)) := by
    rw [e1, Int.fdiv_eq_ediv_of_nonneg _ (Int.natCast_nonneg _)]
    exact Nat.lt_of_le_of_lt (Int.natAbs_ediv_le_natAbs _ _) ((Bi.nat hp).sm (by decide))
  exact ⟨g1, ⟨s1, (Bi.nat hp).sm (by decide)⟩, g2, ⟨s2, (Bi.nat hq).sm (by decide)⟩, h⟩
theorem sem_p_is_square {ds : List PyData} {P : PyData → Prop} : S_p_is_square ds P → m_p_is_square (startD N_p_is_square ds) (fun _ => P .none) P := by
  rintro ⟨r, rfl, ⟨h0, hb⟩, h⟩
  have h0 : (0 : Int) ≤ r := h0
  have hb : Bi 13000 r := hb
  have h : P (.bool (decide (IsSq r))) := h
  have e := isqrt_sq (r := r)
  have s : Sm (sq r) := by
    unfold sq Sm
    have h1 : Nat.sqrt r.toNat ≤ r.toNat := Nat.le_trans (Nat.le_mul_self _) (Nat.sqrt_le _)
    have h2 : r.natAbs < 2 ^ 13000 := hb
    have h3 : 2 ^ 13000 ≤ 2 ^ 400000 := pow_le (by decide)
    generalize 2 ^ 13000 = X at *
    generalize 2 ^ 400000 = Y at *
    omega
  refine ⟨⟨h0, hb⟩, ⟨rfl, ?_⟩, ?_⟩
  · show Sm ((Float64.isqrt r.toNat : Nat) : Int)
    rw [e]
    exact s
  · show P (.bool (decide (((Float64.isqrt r.toNat : Nat) : Int) ^ 2 = r)))
    rw [e]
    have : decide (sq r ^ 2 = r) = decide (IsSq r) := by
      apply decide_eq_decide.mpr
      unfold IsSq
      rw [Int.pow_succ, Int.pow_succ, Int.pow_zero, Int.one_mul]
    rw [this]
    exact h
end GD
end

section
set_option Elab.async false
set_option linter.all false
set_option maxRecDepth 100000
set_option exponentiation.threshold 500
/-! GU: what the program's defs compute: numbers of one root. -/
namespace GD
open PySem PySem.Spec PyProof.Rows L2 GQ
theorem eqv_encQ (p q : Rat) : PyData.eqv (encQ p) (encQ q) = decide (p = q) := by
  have e : PyData.eqv (encQ p) (encQ q) = (p.num == q.num && ((p.den : Int) == (q.den : Int) && true)) := by
    simp [encQ, PyData.eqv, PyData.eqvAll]
  rw [e]
  by_cases h : p = q
  · subst h
    simp
  · rw [decide_eq_false h]
    by_cases a : p.num = q.num
    · by_cases b : p.den = q.den
      · exact absurd (Rat.ext a b) h
      · have : ((p.den : Int) == (q.den : Int)) = false := beq_false_of_ne (by omega)
        rw [this]
        simp
    · have : (p.num == q.num) = false := beq_false_of_ne a
      rw [this]
      simp
theorem eqv_enc2 (p q r s : Rat) : PyData.eqv (encP p q) (encP r s) = decide (p = r ∧ q = s) := by
  have e : PyData.eqv (encP p q) (encP r s) = (PyData.eqv (encQ p) (encQ r) && (PyData.eqv (encQ q) (encQ s) && true)) := by
    simp [encP, PyData.eqv, PyData.eqvAll]
  rw [e, eqv_encQ, eqv_encQ, Bool.and_true, Bool.decide_and]
theorem cutR {a b : Nat} {A : Prop} (h : Nat.beq a b = false) : A ∨ a ≠ b := .inr (Nat.ne_of_beq_eq_false h)
theorem cutL {a b : Nat} {A : Prop} (h : Nat.beq a b = false) : a ≠ b ∨ A := .inl (Nat.ne_of_beq_eq_false h)
theorem shQ (p : Rat) : SeqAt.shaped (encQ p) = true := by rfl
theorem shP (p q : Rat) : SeqAt.shaped (encP p q) = true := by rfl
theorem bi2 {n : Nat} {i : Int} (h : Bi n i) : Bi (n + 1) (2 * i) := by
  unfold Bi at *
  rw [Nat.pow_succ]
  omega
theorem NB.d {n : Num} (h : NB n) : Bi 2025 n.d := by
  cases n with
  | q x => exact Bi.mono (n := 1) (by show 1 < 2 ^ 1; decide) (by decide)
  | r P Q S u =>
    obtain ⟨⟨h0, hP⟩, hQ, hS⟩ := h
    exact ((hQ.mul hQ).sub ((Bi.mul (Bi.lit (n := 3) (i := 4) (by decide)) hP).mul hS)).mono (by decide)
theorem NB.pa {n : Num} (h : NB n) : B 981 961 n.a := by
  cases n with
  | q x => exact B.mono h (by decide) (by decide)
  | r P Q S u =>
    obtain ⟨⟨h0, hP⟩, hQ, hS⟩ := h
    exact B.fr hQ.neg (bi2 hP) (by omega)
theorem NB.pb {n : Num} (h : NB n) : B 1 961 n.b := by
  cases n with
  | q x => exact ⟨by show 0 < 2 ^ 1; decide, by show 1 < 2 ^ 961; exact Nat.one_lt_two_pow (by decide)⟩
  | r P Q S u =>
    obtain ⟨⟨h0, hP⟩, hQ, hS⟩ := h
    refine B.fr ?_ (bi2 hP) (by omega)
    cases u <;> exact Bi.lit (by decide)
theorem bi3 : Bi 3 4 := Bi.lit (by decide)
theorem sem_p_is_rooted {ds : List PyData} {P : PyData → Prop} : S_p_is_rooted ds P → m_p_is_rooted (startD N_p_is_rooted ds) (fun _ => P .none) P := by
  rintro ⟨⟨n, a, b, r⟩, rfl, ⟨hr, ⟨hn, h0⟩, hb⟩, h⟩
  cases n with
  | q x => exact absurd hr id
  | r A B C u =>
    have hn : NumIs a b r (.r A B C u) := hn
    have h0 : 0 ≤ r := h0
    have hb : NB (.r A B C u) := hb
    have h : P (.bool true) := h
    have p1 := parts_pos h0 hn
    have p2 := parts_nsq hn
    have bd := NB.d hb
    obtain ⟨⟨g0, hA⟩, hB, hC⟩ := hb
    refine ⟨cutR rfl, .three A B C, rfl, trivial, ⟨u, rfl, trivial, cutR rfl, rfl, ?_⟩⟩
    refine ⟨⟨hB.sm (by decide), hB.sm (by decide)⟩, ⟨bi3.sm (by decide), hA.sm (by decide)⟩, ⟨(bi3.mul hA).sm (by decide), hC.sm (by decide)⟩, ?_⟩
    refine cho_t (c := decide (0 < A)) (decide_eq_true g0) ?_
    refine cho_t (c := decide (((Nat.gcd ((Nat.gcd A.natAbs B.natAbs : Nat) : Int).natAbs C.natAbs : Nat) : Int) = 1)) ?_ ?_
    · rw [Int.natAbs_natCast, hn.2.1.2]
      rfl
    refine cho_t (c := decide (0 < B * B - 4 * A * C)) (decide_eq_true p1) ?_
    refine ⟨_, rfl, ⟨Int.le_of_lt p1, bd.mono (by decide)⟩, ?_⟩
    show P (.bool (!decide (IsSq (Num.r A B C u).d)))
    rw [decide_eq_false p2]
    exact h
theorem sem_p_is_numbered {ds : List PyData} {P : PyData → Prop} : S_p_is_numbered ds P → m_p_is_numbered (startD N_p_is_numbered ds) (fun _ => P .none) P := by
  rintro ⟨⟨n, a, b, r⟩, rfl, hk, h⟩
  cases n with
  | q x => exact ⟨.q x, rfl, trivial, h⟩
  | r A B C u => exact ⟨.r A B C u, rfl, trivial, ⟨⟨.r A B C u, a, b, r⟩, rfl, ⟨trivial, hk⟩, h⟩⟩
theorem sem_p_parts_of {ds : List PyData} {P : PyData → Prop} : S_p_parts_of ds P → m_p_parts_of (startD N_p_parts_of ds) (fun _ => P .none) P := by
  rintro ⟨n, rfl, hb, h⟩
  have hb : NB n := hb
  have h : P (.tuple [encQ n.a, encQ n.b, .int n.d]) := h
  cases n with
  | q x => exact ⟨le1000 rfl, h⟩
  | r A B C u =>
    have hd := NB.d hb
    obtain ⟨⟨g0, hA⟩, hB, hC⟩ := hb
    have b2 : Bi 9000 (2 * A) := (bi2 hA).mono (by decide)
    have s2 : Sm 2 := (Bi.lit (n := 2) (i := 2) (by decide)).sm (by decide)
    refine ⟨rfl, ⟨s2, hA.sm (by decide)⟩, (_, _), rfl, ⟨by show 0 < 2 * A; omega, b2⟩, ?_⟩
    cases u with
    | true =>
      refine ⟨⟨s2, hA.sm (by decide)⟩, (_, _), rfl, ⟨by show 0 < 2 * A; omega, b2⟩, ?_⟩
      exact ⟨⟨hB.sm (by decide), hB.sm (by decide)⟩, ⟨bi3.sm (by decide), hA.sm (by decide)⟩, ⟨(bi3.mul hA).sm (by decide), hC.sm (by decide)⟩, le1000 rfl, h⟩
    | false =>
      refine ⟨⟨s2, hA.sm (by decide)⟩, (_, _), rfl, ⟨by show 0 < 2 * A; omega, b2⟩, ?_⟩
      exact ⟨⟨hB.sm (by decide), hB.sm (by decide)⟩, ⟨bi3.sm (by decide), hA.sm (by decide)⟩, ⟨(bi3.mul hA).sm (by decide), hC.sm (by decide)⟩, le1000 rfl, h⟩
theorem two_b : B 2 1 (2 : Rat) := ⟨by decide, by decide⟩
theorem B.i {n : Nat} {i : Int} (h : Bi n i) : B n 1 (i : Rat) := B.int h
theorem wit1 {nm L dm g k c j : Int} (h1 : dm * c = L) (h2 : L = g * k) (h3 : nm * c = g * j) (hg : g ≠ 0) : nm * k = j * dm := by
  have : g * (nm * k) = g * (j * dm) := by grind
  exact Int.eq_of_mul_eq_mul_left hg this
theorem part_one {nm nl : Int} {dm dl : Nat} (pm : 0 < dm) (pl : 0 < dl) (cm : Nat.gcd nm.natAbs dm = 1) (cl : Nat.gcd nl.natAbs dl = 1) {L c e : Nat} (hL : L = Nat.lcm dm dl) (hc : dm * c = L) (he : dl * e = L) :
    Nat.gcd (Nat.gcd L (nm * (c : Int)).natAbs) (nl * (e : Int)).natAbs = 1 := by
  have Lp : 0 < L := by
    rw [hL]
    exact Nat.lcm_pos pm pl
  generalize hg : Nat.gcd (Nat.gcd L (nm * (c : Int)).natAbs) (nl * (e : Int)).natAbs = g
  obtain ⟨d0, d1, d2⟩ := gcd3_dvd L (nm * (c : Int)).natAbs (nl * (e : Int)).natAbs
  rw [hg] at d0 d1 d2
  obtain ⟨k, hk⟩ := d0
  have gp : 0 < g := Nat.pos_of_ne_zero fun z => by rw [z] at hk; omega
  have kp : 0 < k := Nat.pos_of_ne_zero fun z => by rw [z] at hk; omega
  have q1 : dm ∣ k := by
    obtain ⟨j, hj⟩ := d1
    rw [Int.natAbs_mul, Int.natAbs_natCast] at hj
    have : dm ∣ nm.natAbs * k := by
      refine ⟨j, Nat.eq_of_mul_eq_mul_left gp ?_⟩
      calc g * (nm.natAbs * k) = nm.natAbs * (g * k) := by rw [Nat.mul_left_comm]
        _ = nm.natAbs * (dm * c) := by rw [← hk, hc]
        _ = dm * (nm.natAbs * c) := by rw [Nat.mul_left_comm]
        _ = dm * (g * j) := by rw [hj]
        _ = g * (dm * j) := by rw [Nat.mul_left_comm]
    exact Nat.Coprime.dvd_of_dvd_mul_left (Nat.Coprime.symm cm) this
  have q2 : dl ∣ k := by
    obtain ⟨j, hj⟩ := d2
    rw [Int.natAbs_mul, Int.natAbs_natCast] at hj
    have : dl ∣ nl.natAbs * k := by
      refine ⟨j, Nat.eq_of_mul_eq_mul_left gp ?_⟩
      calc g * (nl.natAbs * k) = nl.natAbs * (g * k) := by rw [Nat.mul_left_comm]
        _ = nl.natAbs * (dl * e) := by rw [← hk, he]
        _ = dl * (nl.natAbs * e) := by rw [Nat.mul_left_comm]
        _ = dl * (g * j) := by rw [hj]
        _ = g * (dl * j) := by rw [Nat.mul_left_comm]
    exact Nat.Coprime.dvd_of_dvd_mul_left (Nat.Coprime.symm cl) this
  have q3 : L ∣ k := by
    rw [hL]
    exact Nat.lcm_dvd q1 q2
  have q4 := Nat.le_of_dvd kp q3
  rw [hk] at q4
  by_cases z : g = 1
  · exact z
  · have : 2 * k ≤ g * k := Nat.mul_le_mul_right k (by omega)
    omega
theorem fd_nat (L d : Nat) : ((L : Int).fdiv (d : Int)) = ((L / d : Nat) : Int) := by
  rw [Int.fdiv_eq_ediv_of_nonneg _ (Int.natCast_nonneg _), Int.natCast_ediv]
theorem scaled (q : Rat) {L c : Nat} (h : q.den * c = L) : ((q.num * (c : Int) : Int) : Rat) = q * (L : Int) := by
  have hd : (q.den : Rat) ≠ 0 := fun z => by
    have := Rat.natCast_eq_zero_iff.mp z
    have := q.den_pos
    omega
  have e : (q.num : Rat) = q * (q.den : Rat) := by
    have := fr_eq q.num q.den
    rw [Rat.num_divInt_den, Rat.intCast_natCast] at this
    generalize (q.num : Rat) = x at *
    generalize (q.den : Rat) = y at *
    grind
  rw [Rat.intCast_mul, ← h, e, Int.natCast_mul, Rat.intCast_mul, Rat.intCast_natCast, Rat.intCast_natCast]
  grind
structure NfFin (a b : Rat) (r : Int) (m l : Rat) (L : Nat) (g : Nat) : Prop where
  dm : Dv (m.den : Int)
  dl : Dv (l.den : Int)
  sm : Sm m.num
  sl : Sm l.num
  cm : Sm ((L : Int).fdiv (m.den : Int))
  cl : Sm ((L : Int).fdiv (l.den : Int))
  dg : Dv (g : Int)
  is : NumIs a b r (.r ((L : Int).fdiv (g : Int)) ((m.num * ((L : Int).fdiv (m.den : Int))).fdiv (g : Int)) ((l.num * ((L : Int).fdiv (l.den : Int))).fdiv (g : Int)) (decide (0 < b.num)))
theorem nf_fin {a b : Rat} {r : Int} {m l : Rat} {L : Nat} {n e : Nat} (em : -(2 * a) = m) (el : a * a - b * b * r = l) (hb : b ≠ 0) (hr : ¬ IsSq r) (bm : B n 8000 m) (bl : B e 9000 l) (hn : n ≤ 100000) (he : e ≤ 100000) (hL : L = Nat.lcm m.den l.den) :
    NfFin a b r m l L (Nat.gcd (Nat.gcd (L : Int).natAbs (m.num * ((L : Int).fdiv (m.den : Int))).natAbs) (l.num * ((L : Int).fdiv (l.den : Int))).natAbs) := by
  have hdm : m.den ∣ L := hL ▸ Nat.dvd_lcm_left _ _
  have hdl : l.den ∣ L := hL ▸ Nat.dvd_lcm_right _ _
  have c1 : m.den * (L / m.den) = L := Nat.mul_div_cancel' hdm
  have c2 : l.den * (L / l.den) = L := Nat.mul_div_cancel' hdl
  have g1 := part_one m.den_pos l.den_pos m.reduced l.reduced hL c1 c2
  have Lp : 0 < L := by
    rw [hL]
    exact Nat.lcm_pos m.den_pos l.den_pos
  have Lb : L < 2 ^ (8000 + 9000) := by
    rw [hL, Nat.pow_add]
    exact Nat.lt_of_le_of_lt (Nat.le_of_dvd (Nat.mul_pos m.den_pos l.den_pos) (Nat.lcm_dvd_mul _ _)) (Nat.mul_lt_mul'' bm.2 bl.2)
  have hq : ∀ d : Nat, Sm ((L : Int).fdiv (d : Int)) := fun d => by
    rw [fd_nat]
    exact (Bi.nat (Nat.lt_of_le_of_lt (Nat.div_le_self _ _) Lb)).sm (by decide)
  have f1 := scaled m c1
  have f2 := scaled l c2
  have d0 : (0 : Int) < (L : Int) := by omega
  have k0 := fd_nat L m.den
  have k1 := fd_nat L l.den
  have k2 : Int.natAbs (L : Int) = L := Int.natAbs_natCast L
  have n0 := numIs_of (a := a) (b := b) (r := r) (w0 := (L : Int)) (w1 := m.num * ((L : Int).fdiv (m.den : Int))) (w2 := l.num * ((L : Int).fdiv (l.den : Int))) d0 hb hr (by rw [k0, em]; exact f1) (by rw [k1, el]; exact f2) rfl
  have hb2 : decide (0 < b) = decide (0 < b.num) := decide_eq_decide.mpr (⟨num_pos', fun z => by
    by_cases y : b < 0
    · have := num_neg' y
      omega
    · grind⟩)
  rw [hb2] at n0
  refine ⟨⟨Int.ne_of_gt (den_pos' m), bm.den.mono (by decide)⟩, ⟨Int.ne_of_gt (den_pos' l), bl.den⟩, bm.num.sm (by omega), bl.num.sm (by omega), hq _, hq _, ?_, n0⟩
  rw [k0, k1, k2, g1]
  exact ⟨by decide, Nat.one_lt_two_pow (by decide)⟩
theorem lcm_fin (m l : Rat) : ((Nat.lcm m.den l.den : Nat) : Int) = (Nat.lcm m.den l.den : Nat) := rfl
theorem sem_p_number_from {ds : List PyData} {P : PyData → Prop} : S_p_number_from ds P → m_p_number_from (startD N_p_number_from ds) (fun _ => P .none) P := by
  rintro ⟨⟨a, b, r⟩, rfl, ⟨h0, hr, ha, hb⟩, h⟩
  have h0 : 0 ≤ r := h0
  have hr : Bi 2050 r := hr
  have ha : B 2200 2100 a := ha
  have hb : B 1400 2250 b := hb
  have h : ∀ d, (∃ n, NumIs a b r n ∧ d = encN n) → P d := h
  have hs : Bi 2050 (sq r) := by
    have h1 : Nat.sqrt r.toNat ≤ r.toNat := Nat.le_trans (Nat.le_mul_self _) (Nat.sqrt_le _)
    unfold sq Bi at *
    generalize 2 ^ 2050 = X at *
    omega
  have fin : b = 0 ∨ IsSq r → kIsqrt [.int r] (fun d => dTup (dCons (dC d) (dCons (dC (.int 1)) dNil)) [] fun d => S_p_times [encQ b, d] fun d => S_p_plus [encQ a, d] P) := by
    intro hz
    refine ⟨⟨h0, hr.mono (by decide)⟩, le1000 rfl, ?_⟩
    refine ⟨(b, (sq r : Rat)), ?_, Ok2.of hb (B.int hs) (by decide) (by decide) (by decide), ?_⟩
    · show [encQ b, .tuple [.int ((Float64.isqrt r.toNat : Nat) : Int), .int 1]] = _
      rw [isqrt_sq]
      rfl
    exact ⟨(a, b * (sq r : Rat)), rfl, Ok2.of ha (hb.mul (B.int hs)) (by decide) (by decide) (by decide), h _ ⟨.q _, ⟨hz, rfl⟩, rfl⟩⟩
  refine ⟨⟨shQ b, shQ 0⟩, ?_⟩
  refine cho_2 (c := PyData.eqv (encQ b) (encQ 0)) ?_ ?_
  · intro e
    rw [eqv_encQ] at e
    exact fin (.inl (of_decide_eq_true e))
  intro e
  rw [eqv_encQ] at e
  have hb0 := of_decide_eq_false e
  refine ⟨r, rfl, ⟨h0, hr.mono (by decide)⟩, ?_⟩
  refine cho_2 (c := decide (IsSq r)) (fun e => fin (.inr (of_decide_eq_true e))) ?_
  intro e
  have hnr := of_decide_eq_false e
  have baa := ha.mul ha
  have bbb := hb.mul hb
  have bbr := bbb.mul (B.int hr)
  have bm := (two_b.mul ha).neg
  have bl := baa.sub bbr
  refine ⟨(2, a), rfl, Ok2.of two_b ha (by decide) (by decide) (by decide), 2 * a, rfl, trivial, ?_⟩
  refine ⟨(a, a), rfl, Ok2.of ha ha (by decide) (by decide) (by decide), (b, b), rfl, Ok2.of hb hb (by decide) (by decide) (by decide), le1000 rfl, (b * b, (r : Rat)), rfl, Ok2.of bbb (B.int hr) (by decide) (by decide) (by decide), (a * a, b * b * r), rfl, Ok2.of baa bbr (by decide) (by decide) (by decide), ?_⟩
  have f := nf_fin (L := Nat.lcm (-(2 * a)).den (a * a - b * b * (r : Rat)).den) rfl rfl hb0 hnr (bm.mono (Nat.le_refl _) (by decide)) (bl.mono (Nat.le_refl _) (by decide)) (by decide) (by decide) rfl
  refine ⟨le1000 rfl, (-(2 * a), a * a - b * b * (r : Rat)), rfl, ⟨Nat.lt_of_lt_of_le bm.2 (pow_le (by decide)), Nat.lt_of_lt_of_le bl.2 (pow_le (by decide))⟩, ?_⟩
  exact ⟨f.dm, ⟨f.sm, f.cm⟩, f.dl, ⟨f.sl, f.cl⟩, le1000 rfl, le1000 rfl, f.dg, f.dg, f.dg, le1000 rfl, le1000 rfl, h _ ⟨_, f.is, rfl⟩⟩
end GD
end

section
set_option Elab.async false
set_option linter.all false
set_option maxRecDepth 100000
set_option exponentiation.threshold 500
/-! GV: signs; two numbers of one root. -/
namespace GD
open PySem PySem.Spec PyProof.Rows L2 GQ
theorem sg_cases (q : Rat) : (0 < q ∧ sg q = 1) ∨ (q < 0 ∧ sg q = -1) ∨ (q = 0 ∧ sg q = 0) := by
  by_cases h : 0 < q
  · exact .inl ⟨h, sg_pos h⟩
  · by_cases k : q < 0
    · exact .inr (.inl ⟨k, sg_neg k⟩)
    · have z : q = 0 := by grind
      exact .inr (.inr ⟨z, by rw [z]; exact sg_zero⟩)
theorem sg_bi (q : Rat) : Bi 1 (sg q) := by
  rcases sg_cases q with ⟨_, e⟩ | ⟨_, e⟩ | ⟨_, e⟩ <;> rw [e] <;> exact Bi.lit (by decide)
/-- the second sign of sign_one -/
def sg2 (b : Rat) (r : Int) : Int := if r ≠ 0 then sg b else 0
theorem sg1_a {a b : Rat} {r : Int} (h0 : 0 ≤ r) (h : 0 ≤ sg a * sg2 b r) : (if sg a ≠ 0 then sg a else sg2 b r) = sgQ a b r := by
  unfold sg2 sgQ at *
  by_cases hr : r = 0
  · subst hr
    rw [if_neg (c := (0 : Int) ≠ 0) (by decide), if_pos (c := (0 : Int) ≤ 0 ∨ b = 0) (.inl (by decide))]
    split
    · rfl
    · omega
  rw [if_pos hr] at *
  have hr1 : ¬ r ≤ 0 := by omega
  rcases sg_cases a with ⟨ha, ea⟩ | ⟨ha, ea⟩ | ⟨ha, ea⟩
  · rcases sg_cases b with ⟨hb, eb⟩ | ⟨hb, eb⟩ | ⟨hb, eb⟩
    · rw [ea, if_pos (by decide), if_neg (by grind), if_pos hb, if_pos (.inl ha)]
    · rw [ea, eb] at h
      exact absurd h (by decide)
    · rw [ea, if_pos (by decide), if_pos (.inr hb)]
  · rcases sg_cases b with ⟨hb, eb⟩ | ⟨hb, eb⟩ | ⟨hb, eb⟩
    · rw [ea, eb] at h
      exact absurd h (by decide)
    · rw [ea, if_pos (by decide), if_neg (by grind), if_neg (by grind), if_pos (.inl ha)]
    · rw [ea, if_pos (by decide), if_pos (.inr hb)]
  · rw [ea, if_neg (by decide)]
    subst ha
    have rp : (0 : Rat) < (r : Rat) := Rat.intCast_pos.mpr (by omega)
    rcases sg_cases b with ⟨hb, eb⟩ | ⟨hb, eb⟩ | ⟨hb, eb⟩
    · rw [eb, if_neg (by grind), if_pos hb, if_pos]
      have := Rat.mul_pos (Rat.mul_pos hb hb) rp
      exact .inr (by grind)
    · rw [eb, if_neg (by grind), if_neg (by grind), if_pos]
      have hb' : 0 < -b := by grind
      have := Rat.mul_pos (Rat.mul_pos hb' hb') rp
      exact .inr (by grind)
    · rw [eb, if_pos (.inr hb)]
theorem sg1_b {a b : Rat} {r : Int} (h0 : 0 ≤ r) (h : ¬ 0 ≤ sg a * sg2 b r) : (if 0 < sg (a * a - b * b * r) then sg a else if sg (a * a - b * b * r) < 0 then sg2 b r else 0) = sgQ a b r := by
  unfold sg2 sgQ at *
  by_cases hr : r = 0
  · subst hr
    rw [if_neg (by decide), Int.mul_zero] at h
    exact absurd (Int.le_refl 0) h
  rw [if_pos hr] at *
  have hr1 : ¬ r ≤ 0 := by omega
  have rp : (0 : Rat) < (r : Rat) := Rat.intCast_pos.mpr (by omega)
  rcases sg_cases a with ⟨ha, ea⟩ | ⟨ha, ea⟩ | ⟨ha, ea⟩
  · rcases sg_cases b with ⟨hb, eb⟩ | ⟨hb, eb⟩ | ⟨hb, eb⟩
    · rw [ea, eb] at h
      exact absurd (by decide) h
    · rw [if_neg (c := r ≤ 0 ∨ b = 0) (by grind), if_neg (c := 0 < b) (by grind), ea, eb]
      generalize a * a = s at *
      generalize b * b * (r : Rat) = t at *
      rcases sg_cases (s - t) with ⟨hz, ez⟩ | ⟨hz, ez⟩ | ⟨hz, ez⟩
      · rw [ez, if_pos (by decide), if_neg (by grind), if_neg (by grind)]
      · rw [ez, if_neg (by decide), if_pos (by decide), if_pos (.inr (by grind))]
      · rw [ez, if_neg (by decide), if_neg (by decide), if_neg (by grind), if_pos (by grind)]
    · rw [eb, Int.mul_zero] at h
      exact absurd (Int.le_refl 0) h
  · rcases sg_cases b with ⟨hb, eb⟩ | ⟨hb, eb⟩ | ⟨hb, eb⟩
    · rw [if_neg (c := r ≤ 0 ∨ b = 0) (by grind), if_pos (c := 0 < b) hb, ea, eb]
      generalize a * a = s at *
      generalize b * b * (r : Rat) = t at *
      rcases sg_cases (s - t) with ⟨hz, ez⟩ | ⟨hz, ez⟩ | ⟨hz, ez⟩
      · rw [ez, if_pos (by decide), if_neg (by grind), if_neg (by grind)]
      · rw [ez, if_neg (by decide), if_pos (by decide), if_pos (.inr (by grind))]
      · rw [ez, if_neg (by decide), if_neg (by decide), if_neg (by grind), if_pos (by grind)]
    · rw [ea, eb] at h
      exact absurd (by decide) h
    · rw [eb, Int.mul_zero] at h
      exact absurd (Int.le_refl 0) h
  · rw [ea, Int.zero_mul] at h
    exact absurd (Int.le_refl 0) h
theorem cho_int {P : PyData → Prop} {p : Prop} [Decidable p] {x y : Int} (h : P (.int (if p then x else y))) : cho (decide p) (P (.int x)) (P (.int y)) := by
  by_cases e : p
  · rw [if_pos e] at h
    exact cho_t (decide_eq_true e) h
  · rw [if_neg e] at h
    exact cho_f (decide_eq_false e) h
theorem sem_p_sign_one {ds : List PyData} {P : PyData → Prop} : S_p_sign_one ds P → m_p_sign_one (startD N_p_sign_one ds) (fun _ => P .none) P := by
  rintro ⟨⟨a, b, r⟩, rfl, hk, h⟩
  have hk : SgOk a b r := hk
  have h : P (.int (sgQ a b r)) := h
  refine ⟨a, rfl, trivial, ?_⟩
  have go : (fun e : PyData => dIfS (dtVal (dBin kGe (dBin kMul (dVar 3) (dVar 4)) (dC (.int 0)))) (dRet (dIf (dtVal (dBin kNeI (dVar 3) (dC (.int 0)))) (dVar 3) (dVar 4))) dNext [some (encQ a), some (encQ b), some (.int r), some (.int (sg a)), some e, none]
      (fun en => (dSeq (dAsg (dCall S_p_sign_of (dCons (dCall S_p_minus (dCons (dCall S_p_times (dCons (dVar 0) (dCons (dVar 0) dNil))) (dCons (dCall S_p_times (dCons (dCall S_p_times (dCons (dVar 1) (dCons (dVar 1) dNil))) (dCons (dTup (dCons (dVar 2) (dCons (dC (.int 1)) dNil))) dNil))) dNil))) dNil)) (gdName 5))
    (dRet (dIf (dtVal (dBin kGt (dVar 5) (dC (.int 0)))) (dVar 3) (dIf (dtVal (dBin kLt (dVar 5) (dC (.int 0)))) (dVar 4) (dC (.int 0)))))) en (fun _ => P .none) P) P) (.int (sg2 b r)) := by
    have s1 : Sm (sg a) := (sg_bi a).sm (by decide)
    have s2 : Sm (sg2 b r) := by
      unfold sg2
      split
      · exact (sg_bi b).sm (by decide)
      · exact (Bi.lit (n := 1) (i := 0) (by decide)).sm (by decide)
    refine ⟨⟨s1, s2⟩, ?_⟩
    refine cho_2 (c := decide (0 ≤ sg a * sg2 b r)) (fun e => ?_) (fun e => ?_)
    · have e := of_decide_eq_true e
      rw [← sg1_a hk.hr0 e] at h
      show cho (!decide (sg a = 0)) (P (.int (sg a))) (P (.int (sg2 b r)))
      rw [← decide_not]
      exact cho_int h
    · have e := of_decide_eq_false e
      rw [← sg1_b hk.hr0 e] at h
      have bb : B 40000 8998 (b * b) := (hk.hb.mul hk.hb).mono (by decide) (by decide)
      refine ⟨(a, a), rfl, Ok2.of hk.ha hk.ha (by decide) (by decide) (by decide), (b, b), rfl, Ok2.of hk.hb hk.hb (by decide) (by decide) (by decide), le1000 rfl, (b * b, (r : Rat)), rfl, Ok2.of bb (B.int hk.hr) (by decide) (by decide) (by decide), (a * a, b * b * r), rfl, Ok2.of hk.haa hk.hbb (by decide) (by decide) (by decide), a * a - b * b * r, rfl, trivial, ?_⟩
      by_cases e : 0 < sg (a * a - b * b * (r : Rat))
      · rw [if_pos e] at h
        exact cho_t (c := decide (0 < sg (a * a - b * b * (r : Rat)))) (decide_eq_true e) h
      · rw [if_neg e] at h
        refine cho_f (c := decide (0 < sg (a * a - b * b * (r : Rat)))) (decide_eq_false e) ?_
        exact cho_int h
  unfold sg2 at go
  by_cases e : r = 0
  · subst e
    exact go
  · rw [if_pos e] at go
    refine cho_t (c := !decide (r = 0)) (by rw [decide_eq_false e]; rfl) ?_
    exact ⟨b, rfl, trivial, go⟩
end GD
end

section
set_option Elab.async false
set_option linter.all false
set_option maxRecDepth 100000
set_option exponentiation.threshold 500
set_option maxHeartbeats 4000000
/-! GW: two numbers of one root told in one. -/
namespace GD
open PySem PySem.Spec PyProof.Rows L2 GQ
theorem sem_p_do_lie_in_one {ds : List PyData} {P : PyData → Prop} : S_p_do_lie_in_one ds P → m_p_do_lie_in_one (startD N_p_do_lie_in_one ds) (fun _ => P .none) P := by
  rintro ⟨⟨s, n, m⟩, rfl, hk, h⟩
  have hk : Told s n m := hk
  have h : P (.bool true) := h
  obtain ⟨sb, hx, hy, nx, ny⟩ := hk
  cases n with
  | q x => exact h
  | r A B C u =>
    cases m with
    | q x => exact h
    | r A' B' C' u' =>
      have d1 := NB.d nx
      have d2 := NB.d ny
      have k := (both_sq hx hy).1
      have p1 := parts_pos sb.r0 hx
      have p2 := parts_pos sb.r0 hy
      refine ⟨_, rfl, nx, ?_⟩
      refine ⟨_, rfl, ny, ?_⟩
      refine ⟨⟨d1.sm (by decide), d2.sm (by decide)⟩, _, rfl, ⟨Int.le_of_lt (Int.mul_pos p1 p2), (d1.mul d2).mono (by decide)⟩, ?_⟩
      show P (.bool (decide (IsSq ((Num.r A B C u).d * (Num.r A' B' C' u').d))))
      rw [decide_eq_true k]
      exact h
theorem b_ne {a b : Rat} {r P Q S : Int} {u : Bool} (h : NumIs a b r (.r P Q S u)) : (Num.r P Q S u).b ≠ 0 := by
  have e := parts_b h
  obtain ⟨⟨h1, h2⟩, ⟨h3, h4⟩, _⟩ := h
  have p := ab_pos h1
  have hP : (0 : Rat) < (P : Rat) := Rat.intCast_pos.mpr h3
  have hq : (0 : Rat) < 2 * P * ab b := Rat.mul_pos (Rat.mul_pos (by decide) hP) p
  rw [e]
  generalize 2 * (P : Rat) * ab b = t at *
  grind
theorem e_of {U V D κ u v b e : Rat} (hu : u = U / D) (hv : v = V / D) (hb : b = u * κ) (he : e = v * κ) (hU : U ≠ 0) (hD : D ≠ 0) : e = V / U * b := by
  subst hu hv hb he
  grind
theorem inOne_bd {s : Spot} {n m : Num} (t : Told s n m) {a b c e : Rat} {r : Int} (h : InOne s.x s.u s.y s.v s.R a b c e r) (hu : s.u ≠ 0) (hr : ¬ IsSq s.R) (hb : B 1 961 b) : B 231 1191 e := by
  rcases h.ex with ⟨z, _⟩ | ⟨_, _, _, _, _, κ, hk, eb, ee, _⟩
  · rcases z with z | z
    · exact absurd z hr
    · exact absurd z.1 hu
  · have hD : (s.D : Rat) ≠ 0 := fun z => by
      have := Rat.intCast_eq_zero_iff.mp z
      have := t.sb.d0
      omega
    have hU : s.U ≠ 0 := fun z => hu (by
      show (s.U : Rat) / (s.D : Rat) = 0
      rw [z]
      show (0 : Rat) / _ = 0
      grind)
    have hU' : (s.U : Rat) ≠ 0 := fun z => hU (Rat.intCast_eq_zero_iff.mp z)
    rw [e_of rfl rfl eb ee hU' hD, ← fr_eq]
    exact (B.fr t.sb.hV t.sb.hU hU).mul hb
theorem zero_b : B 1 1 (0 : Rat) := ⟨by decide, by decide⟩
theorem one_b : B 1 1 (1 : Rat) := ⟨by decide, by decide⟩
theorem sem_p_in_one {ds : List PyData} {P : PyData → Prop} : S_p_in_one ds P → m_p_in_one (startD N_p_in_one ds) (fun _ => P .none) P := by
  rintro ⟨⟨s, n, m⟩, rfl, hk, h⟩
  have hk : Told s n m := hk
  have h : ∀ d, (∃ a b c e r, InB s a b c e r ∧ d = .tuple [encQ a, encQ b, encQ c, encQ e, .int r]) → P d := h
  obtain ⟨sb, hx, hy, nx, ny⟩ := id hk
  refine ⟨n, rfl, nx, m, rfl, ny, le1000 rfl, rfl, rfl, rfl, ⟨shQ _, shQ 0⟩, ?_⟩
  cases n with
  | q p =>
    refine cho_t (c := PyData.eqv (encQ 0) (encQ 0)) (by rw [eqv_encQ]; exact decide_eq_true rfl) ?_
    refine ⟨le1000 rfl, h _ ?_⟩
    cases m with
    | q p' => exact ⟨_, _, _, _, _, ⟨inOne_qq p p' hx hy, nx.mono (by decide) (by decide), zero_b.mono (by decide) (by decide), ny.mono (by decide) (by decide), zero_b.mono (by decide) (by decide), NB.d ny, fun _ _ => ⟨nx, ny⟩⟩, rfl⟩
    | r A B C u => exact ⟨_, _, _, _, _, ⟨inOne_qr p sb.r0 hx hy, nx.mono (by decide) (by decide), zero_b.mono (by decide) (by decide), NB.pa ny, (NB.pb ny).mono (by decide) (by decide), NB.d ny, fun _ z => absurd z (b_ne hy)⟩, rfl⟩
  | r A B C u =>
    refine cho_f (c := PyData.eqv (encQ (Num.r A B C u).b) (encQ 0)) (by rw [eqv_encQ]; exact decide_eq_false (b_ne hx)) ?_
    refine ⟨⟨shQ _, shQ 0⟩, ?_⟩
    cases m with
    | q p =>
      refine cho_f (c := !PyData.eqv (encQ 0) (encQ 0)) (by rw [eqv_encQ, decide_eq_true rfl]; rfl) ?_
      refine ⟨(0, 1), rfl, Ok2.of zero_b one_b (by decide) (by decide) (by decide), le1000 rfl, h _ ?_⟩
      have k := inOne_rq p sb.r0 hx hy
      exact ⟨_, _, _, _, _, ⟨k, NB.pa nx, NB.pb nx, ny.mono (by decide) (by decide), zero_b.mono (by decide) (by decide), NB.d nx, fun z _ => absurd z (b_ne hx)⟩, by
        show PyData.tuple [_, _, _, encQ (0 * 1), _] = _
        rw [Rat.zero_mul]
        rfl⟩
    | r A' B' C' u' =>
      refine cho_t (c := !PyData.eqv (encQ (Num.r A' B' C' u').b) (encQ 0)) (by rw [eqv_encQ, decide_eq_false (b_ne hy)]; rfl) ?_
      have d1 := NB.d nx
      have d2 := NB.d ny
      have p1 := parts_pos sb.r0 hx
      have p2 := parts_pos sb.r0 hy
      have k := inOne_rr sb.r0 hx hy
      have be := inOne_bd hk k hx.1.1 hx.1.2 (NB.pb nx)
      refine ⟨⟨d1.sm (by decide), d2.sm (by decide)⟩, ⟨Int.le_of_lt (Int.mul_pos p1 p2), (d1.mul d2).mono (by decide)⟩, ?_⟩
      refine ⟨(sq ((Num.r A B C u).d * (Num.r A' B' C' u').d), (Num.r A B C u).d), ?_, ⟨p1, d1.mono (by decide)⟩, ?_⟩
      · show [PyData.int ((Float64.isqrt ((Num.r A B C u).d * (Num.r A' B' C' u').d).toNat : Nat) : Int), _] = _
        rw [isqrt_sq]
      have hs : Bi 4050 (sq ((Num.r A B C u).d * (Num.r A' B' C' u').d)) := by
        have h2 := (d1.mul d2)
        generalize (Num.r A B C u).d * (Num.r A' B' C' u').d = t at *
        have h1 : Nat.sqrt t.toNat ≤ t.toNat := Nat.le_trans (Nat.le_mul_self _) (Nat.sqrt_le _)
        unfold sq Bi at *
        have e : 2025 + 2025 = 4050 := rfl
        rw [e] at h2
        generalize 2 ^ 4050 = X at *
        omega
      have ok : Ok2 (Num.r A' B' C' u').b (Rat.divInt (sq ((Num.r A B C u).d * (Num.r A' B' C' u').d)) (Num.r A B C u).d) := Ok2.of (NB.pb ny) (GQ.B.fr hs d1 (Int.ne_of_gt p1)) (by decide) (by decide) (by decide)
      refine ⟨((Num.r A' B' C' u').b, Rat.divInt (sq ((Num.r A B C u).d * (Num.r A' B' C' u').d)) (Num.r A B C u).d), ?_, ok, le1000 rfl, ?_⟩
      · show [_, encQ (Rat.divInt _ _)] = [_, encQ (Rat.divInt _ _)]
        rfl
      show P (.tuple [encQ (Num.r A B C u).a, encQ (Num.r A B C u).b, encQ (Num.r A' B' C' u').a, encQ ((Num.r A' B' C' u').b * Rat.divInt (sq ((Num.r A B C u).d * (Num.r A' B' C' u').d)) (Num.r A B C u).d), .int (Num.r A B C u).d])
      exact h _ ⟨_, _, _, _, _, ⟨k, NB.pa nx, NB.pb nx, NB.pa ny, be, d1, fun z _ => absurd z (b_ne hx)⟩, rfl⟩
end GD
end

section
set_option Elab.async false
set_option linter.all false
set_option maxRecDepth 100000
set_option exponentiation.threshold 500
set_option maxHeartbeats 4000000
/-! GX: what the program's defs compute: points, leads. -/
namespace GD
open PySem PySem.Spec PyProof.Rows L2 GQ
theorem ite_b {n d : Nat} {y : Rat} {m : Bool} (h : B n d y) : B n d (if m then -y else y) := by
  cases m
  · exact h
  · exact h.neg
local macro_rules | `(tactic| walk_at "bi") => `(tactic| with_reducible first | assumption | exact zero_b | exact one_b | exact two_b | (apply GQ.B.neg; walk_at "bi") | (apply ite_b; walk_at "bi") | (apply GQ.B.add; walk_at "bi"; walk_at "bi") | (apply GQ.B.sub; walk_at "bi"; walk_at "bi") | (apply GQ.B.mul; walk_at "bi"; walk_at "bi") | (apply GQ.B.div; walk_at "bi"; walk_at "bi"; assumption))
local macro_rules | `(tactic| walk_at "bm") => `(tactic| (apply GQ.B.mono; walk_at "bi"; decide; decide))
local macro_rules | `(tactic| walk_at "ok") => `(tactic| (apply Ok2.of; walk_at "bi"; walk_at "bi"; decide; decide; decide))
theorem sem_p_sum_of {ds : List PyData} {P : PyData → Prop} : S_p_sum_of ds P → m_p_sum_of (startD N_p_sum_of ds) (fun _ => P .none) P := by
  rintro ⟨⟨⟨a, b⟩, c, d⟩, rfl, ⟨h1, h2⟩, h⟩
  exact ⟨(a, c), rfl, h1, (b, d), rfl, h2, le1000 rfl, h⟩
theorem sem_p_scaled_by {ds : List PyData} {P : PyData → Prop} : S_p_scaled_by ds P → m_p_scaled_by (startD N_p_scaled_by ds) (fun _ => P .none) P := by
  rintro ⟨⟨⟨a, b⟩, c⟩, rfl, ⟨h1, h2⟩, h⟩
  exact ⟨(a, c), rfl, h1, (b, c), rfl, h2, le1000 rfl, h⟩
theorem sem_p_dot_of {ds : List PyData} {P : PyData → Prop} : S_p_dot_of ds P → m_p_dot_of (startD N_p_dot_of ds) (fun _ => P .none) P := by
  rintro ⟨⟨⟨a, b⟩, c, d⟩, rfl, ⟨n, m, ⟨⟨h1, h2⟩, h3, h4⟩, h5, h6⟩, h⟩
  exact ⟨(a, c), rfl, Ok2.of h1 h3 (by omega) (by omega) (by omega), (b, d), rfl, Ok2.of h2 h4 (by omega) (by omega) (by omega), (a * c, b * d), rfl, Ok2.of (h1.mul h3) (h2.mul h4) (by omega) (by omega) (by omega), h⟩
theorem sem_p_product_of {ds : List PyData} {P : PyData → Prop} : S_p_product_of ds P → m_p_product_of (startD N_p_product_of ds) (fun _ => P .none) P := by
  rintro ⟨⟨⟨a, b⟩, c, d⟩, rfl, ⟨n, e, m, f, ⟨⟨h1, h2⟩, h3, h4⟩, h5, h6⟩, h⟩
  exact ⟨(a, c), rfl, Ok2.of h1 h3 (by omega) (by omega) (by omega), (b, d), rfl, Ok2.of h2 h4 (by omega) (by omega) (by omega), (a * c, b * d), rfl, Ok2.of (h1.mul h3) (h2.mul h4) (by omega) (by omega) (by omega),
    (a, d), rfl, Ok2.of h1 h4 (by omega) (by omega) (by omega), (b, c), rfl, Ok2.of h2 h3 (by omega) (by omega) (by omega), (a * d, b * c), rfl, Ok2.of (h1.mul h4) (h2.mul h3) (by omega) (by omega) (by omega), le1000 rfl, h⟩
theorem sem_p_flipped_if {ds : List PyData} {P : PyData → Prop} : S_p_flipped_if ds P → m_p_flipped_if (startD N_p_flipped_if ds) (fun _ => P .none) P := by
  rintro ⟨⟨m, a, b⟩, rfl, _, h⟩
  cases m with
  | true => exact ⟨b, rfl, trivial, le1000 rfl, h⟩
  | false => exact h
theorem norm_pos {a b : Rat} (h : a ≠ 0 ∨ b ≠ 0) : 0 < a * a + b * b := by
  have sq0 : ∀ x : Rat, 0 ≤ x * x := fun x => by
    by_cases z : 0 ≤ x
    · exact Rat.mul_nonneg z z
    · have : 0 ≤ -x := by grind
      have := Rat.mul_nonneg this this
      grind
  have sqp : ∀ x : Rat, x ≠ 0 → 0 < x * x := fun x hx => by
    have h1 := sq0 x
    have h2 : x * x ≠ 0 := fun z => by
      rcases Rat.mul_eq_zero.mp z with z | z <;> exact hx z
    grind
  have h1 := sq0 a
  have h2 := sq0 b
  rcases h with h | h
  · have := sqp a h
    grind
  · have := sqp b h
    grind
theorem sem_p_under_one {ds : List PyData} {P : PyData → Prop} : S_p_under_one ds P → m_p_under_one (startD N_p_under_one ds) (fun _ => P .none) P := by
  rintro ⟨⟨a, b⟩, rfl, ⟨⟨ha, hb⟩, hz⟩, h⟩
  have ha : B 60 60 a := ha
  have hb : B 60 60 b := hb
  have hp : 0 < a * a + b * b := norm_pos hz
  have hn : B 241 240 (a * a + b * b) := by walk_at "bm"
  have hd : B 250 250 (1 / (a * a + b * b)) := (B.div one_b hn hp).mono (by decide) (by decide)
  refine ⟨b, rfl, trivial, le1000 rfl, ((a, b), (a, b)), rfl, ⟨60, 60, ⟨⟨ha, hb⟩, ha, hb⟩, by decide, by decide⟩, (1, a * a + b * b), rfl, ⟨hp, one_b.mono (by decide) (by decide), hn.mono (by decide) (by decide)⟩, ?_⟩
  have o1 : Ok2 a (1 / (a * a + b * b)) := by walk_at "ok"
  have o2 : Ok2 (-b) (1 / (a * a + b * b)) := by walk_at "ok"
  exact ⟨((a, -b), 1 / (a * a + b * b)), rfl, ⟨o1, o2⟩, h⟩
theorem sem_p_is_rigid_by {ds : List PyData} {P : PyData → Prop} : S_p_is_rigid_by ds P → m_p_is_rigid_by (startD N_p_is_rigid_by ds) (fun _ => P .none) P := by
  rintro ⟨l, rfl, hl, h⟩
  have hl : LB l := hl
  have h : P (.bool (decide (l.n = 1))) := h
  refine ⟨cutR rfl, cutR rfl, ((l.a, l.b), (l.a, l.b)), rfl, ⟨44, 44, ⟨⟨hl.ha, hl.hb⟩, hl.ha, hl.hb⟩, by decide, by decide⟩, ⟨shQ _, shQ 1⟩, ?_⟩
  show P (.bool (PyData.eqv (encQ (l.a * l.a + l.b * l.b)) (encQ 1)))
  rw [eqv_encQ]
  exact h
theorem sem_p_led_way {ds : List PyData} {P : PyData → Prop} : S_p_led_way ds P → m_p_led_way (startD N_p_led_way ds) (fun _ => P .none) P := by
  rintro ⟨⟨l, x, y⟩, rfl, ⟨hl, hx, hy⟩, h⟩
  exact ⟨cutR rfl, (l.m, (x, y)), rfl, trivial, ((l.a, l.b), (x, if l.m then -y else y)), rfl, ⟨44, 44, 1100, 1200, ⟨⟨hl.ha, hl.hb⟩, hx, ite_b hy⟩, by decide, by decide⟩, h⟩
theorem sem_p_lead_point {ds : List PyData} {P : PyData → Prop} : S_p_lead_point ds P → m_p_lead_point (startD N_p_lead_point ds) (fun _ => P .none) P := by
  rintro ⟨⟨l, x, y⟩, rfl, ⟨hl, hx, hy⟩, h⟩
  have hl : LB l := hl
  have hx : B 1100 1000 x := hx
  have hy : B 1100 1000 y := hy
  have ha := hl.ha
  have hb := hl.hb
  have kx := hl.hx
  have ky := hl.hy
  refine ⟨(l, x, y), rfl, ⟨hl, hx.mono (by decide) (by decide), hy.mono (by decide) (by decide)⟩, ((l.cx x y, l.cy x y), (l.x, l.y)), rfl, ⟨?_, ?_⟩, h⟩
  · show Ok2 (l.cx x y) l.x
    unfold Lead.cx
    walk_at "ok"
  · show Ok2 (l.cy x y) l.y
    unfold Lead.cy
    walk_at "ok"
theorem sem_p_move_by {ds : List PyData} {P : PyData → Prop} : S_p_move_by ds P → m_p_move_by (startD N_p_move_by ds) (fun _ => P .none) P := by
  rintro ⟨⟨x, y⟩, rfl, _, h⟩
  exact ⟨le1000 rfl, h⟩
theorem sem_p_is_line {ds : List PyData} {P : PyData → Prop} : S_p_is_line ds P → m_p_is_line (startD N_p_is_line ds) (fun _ => P .none) P := by
  rintro ⟨c, rfl, _, h⟩
  cases c <;> exact h
theorem sem_p_is_pointed {ds : List PyData} {P : PyData → Prop} : S_p_is_pointed ds P → m_p_is_pointed (startD N_p_is_pointed ds) (fun _ => P .none) P := by
  rintro ⟨⟨x, y⟩, rfl, _, h⟩
  exact ⟨le1000 rfl, .q x, rfl, trivial, .q y, rfl, trivial, le1000 rfl, h⟩
theorem sem_p_is_placed {ds : List PyData} {P : PyData → Prop} : S_p_is_placed ds P → m_p_is_placed (startD N_p_is_placed ds) (fun _ => P .none) P := by
  rintro ⟨t, rfl, k, h⟩
  exact ⟨le1000 rfl, ⟨t.n, _, _, _⟩, rfl, ⟨⟨k.isX, k.sb.r0⟩, k.nbX⟩, ⟨t.m, _, _, _⟩, rfl, ⟨⟨k.isY, k.sb.r0⟩, k.nbY⟩, le1000 rfl, t, rfl, k, h⟩
theorem ne_bool (a b : Rat) : (!PyData.eqv (encQ a) (encQ b)) = decide (a ≠ b) := by
  rw [eqv_encQ, decide_not]
theorem sem_p_is_curved {ds : List PyData} {P : PyData → Prop} : S_p_is_curved ds P → m_p_is_curved (startD N_p_is_curved ds) (fun _ => P .none) P := by
  rintro ⟨c, rfl, k, h⟩
  have h : P (.bool true) := h
  cases c with
  | line a b c =>
    obtain ⟨_, hz⟩ : _ ∧ (a ≠ 0 ∨ b ≠ 0) := k
    refine ⟨cutL rfl, le1000 rfl, .q a, rfl, trivial, .q b, rfl, trivial, .q c, rfl, trivial, le1000 rfl, ⟨shQ _, shQ 0⟩, ?_⟩
    refine cho_2 (c := !PyData.eqv (encQ a) (encQ 0)) (fun _ => h) (fun e => ?_)
    rw [ne_bool] at e
    have e := of_decide_eq_false e
    have hb : b ≠ 0 := hz.resolve_left e
    refine ⟨⟨shQ _, shQ 0⟩, ?_⟩
    show P (.bool (!PyData.eqv (encQ b) (encQ 0)))
    rw [ne_bool, decide_eq_true hb]
    exact h
  | circ x y q =>
    obtain ⟨_, hz⟩ : _ ∧ 0 < q := k
    refine ⟨cutL rfl, le1000 rfl, .q x, rfl, trivial, .q y, rfl, trivial, .q q, rfl, trivial, le1000 rfl, ?_⟩
    show P (.bool (decide (0 < q.num)))
    rw [decide_eq_true (num_pos' hz)]
    exact h
theorem ne_start (a b : Rat) (h : a ≠ 0 ∨ b ≠ 0) : (!PyData.eqv (encP a b) (encP 0 0)) = true := by
  rw [eqv_enc2, decide_eq_false]
  · rfl
  · rintro ⟨h1, h2⟩
    rcases h with h | h
    · exact h h1
    · exact h h2
theorem sem_p_is_led {ds : List PyData} {P : PyData → Prop} : S_p_is_led ds P → m_p_is_led (startD N_p_is_led ds) (fun _ => P .none) P := by
  rintro ⟨l, rfl, k, h⟩
  have k : LB l := k
  refine ⟨cutR rfl, (l.a, l.b), rfl, trivial, cutR rfl, ⟨shP _ _, shP 0 0⟩, ?_⟩
  refine cho_t (c := !PyData.eqv (encP l.a l.b) (encP 0 0)) (ne_start _ _ k.nz) ?_
  exact ⟨l.m, rfl, trivial, (l.x, l.y), rfl, trivial, h⟩
theorem sem_p_is_wayed {ds : List PyData} {P : PyData → Prop} : S_p_is_wayed ds P → m_p_is_wayed (startD N_p_is_wayed ds) (fun _ => P .none) P := by
  rintro ⟨⟨x, y⟩, rfl, k, h⟩
  refine ⟨(x, y), rfl, trivial, ⟨shP _ _, shP 0 0⟩, ?_⟩
  show P (.bool (!PyData.eqv (encP x y) (encP 0 0)))
  rw [ne_start _ _ k]
  exact h
end GD
end

section
set_option Elab.async false
set_option linter.all false
set_option maxRecDepth 100000
set_option exponentiation.threshold 500
set_option maxHeartbeats 4000000
/-! GY: what the program's defs compute: places and curves led, leads. -/
namespace GD
open PySem PySem.Spec PyProof.Rows L2 GQ
local macro_rules | `(tactic| walk_at "bi") => `(tactic| with_reducible first | assumption | exact zero_b | exact one_b | exact two_b | (apply GQ.B.neg; walk_at "bi") | (apply ite_b; walk_at "bi") | (apply GQ.B.add; walk_at "bi"; walk_at "bi") | (apply GQ.B.sub; walk_at "bi"; walk_at "bi") | (apply GQ.B.mul; walk_at "bi"; walk_at "bi") | (apply GQ.B.div; walk_at "bi"; walk_at "bi"; assumption))
local macro_rules | `(tactic| walk_at "bm") => `(tactic| (apply GQ.B.mono; walk_at "bi"; decide; decide))
local macro_rules | `(tactic| walk_at "ok") => `(tactic| (apply Ok2.of; walk_at "bi"; walk_at "bi"; decide; decide; decide))

theorem LB.cx {l : Lead} {n d : Nat} {x y : Rat} (h : LB l) (hx : B n d x) (hy : B n d y) : B (n + d + 89) (d + d + 88) (l.cx x y) := by
  have ha := h.ha
  have hb := h.hb
  unfold Lead.cx
  refine GQ.B.mono (B.sub (ha.mul hx) (hb.mul (ite_b hy))) ?_ ?_ <;> omega
theorem LB.cy {l : Lead} {n d : Nat} {x y : Rat} (h : LB l) (hx : B n d x) (hy : B n d y) : B (n + d + 89) (d + d + 88) (l.cy x y) := by
  have ha := h.ha
  have hb := h.hb
  unfold Lead.cy
  refine GQ.B.mono (B.add (ha.mul (ite_b hy)) (hb.mul hx)) ?_ ?_ <;> omega
theorem LB.n {l : Lead} (h : LB l) : B 177 176 l.n := by
  have ha := h.ha
  have hb := h.hb
  unfold Lead.n
  walk_at "bm"
theorem LB.np {l : Lead} (h : LB l) : 0 < l.n := norm_pos h.nz
theorem lead_num {l : Lead} {s : Spot} {a b c e : Rat} {r : Int} (i : InB s a b c e r) (h0 : 0 ≤ s.R) {n m : Num} (hn : NumIs (l.cx a c + l.x) (l.cx b e) r n) (hm : NumIs (l.cy a c + l.y) (l.cy b e) r m) :
    NumIs (l.cx s.x s.y + l.x) (l.cx s.u s.v) s.R n ∧ NumIs (l.cy s.x s.y + l.y) (l.cy s.u s.v) s.R m := by
  have k := i.is
  unfold Lead.cx Lead.cy at *
  cases hh : l.m with
  | true =>
    simp only [hh, if_true] at *
    have e1 : ∀ p q : Rat, l.a * p - l.b * -q = l.a * p + l.b * q := fun p q => by grind
    have e2 : ∀ p q : Rat, l.a * -q + l.b * p = l.b * p + -l.a * q := fun p q => by grind
    simp only [e1, e2] at *
    exact ⟨inOne_num k h0 _ _ _ hn, inOne_num k h0 _ _ _ hm⟩
  | false =>
    simp only [hh, Bool.false_eq_true, if_false] at *
    have e1 : ∀ p q : Rat, l.a * p - l.b * q = l.a * p + -l.b * q := fun p q => by grind
    have e2 : ∀ p q : Rat, l.a * q + l.b * p = l.b * p + l.a * q := fun p q => by grind
    simp only [e1, e2] at *
    exact ⟨inOne_num k h0 _ _ _ hn, inOne_num k h0 _ _ _ hm⟩
theorem inOne_r {s : Spot} {a b c e : Rat} {r : Int} (i : InB s a b c e r) : 0 ≤ r := by
  rcases i.is.ex with ⟨_, _, _, _, _, h⟩ | ⟨_, _, _, _, h, _⟩ <;> omega
theorem sem_p_lead_place {ds : List PyData} {P : PyData → Prop} : S_p_lead_place ds P → m_p_lead_place (startD N_p_lead_place ds) (fun _ => P .none) P := by
  rintro ⟨⟨l, s, n, m⟩, rfl, ⟨hl, ht⟩, h⟩
  have hl : LB l := hl
  have ht : Told s n m := ht
  have h : ∀ d, LedIs l s d → P d := h
  refine ⟨⟨s, n, m⟩, rfl, ht, ?_⟩
  rintro _ ⟨a, b, c, e, r, i, rfl⟩
  have bx := hl.cx (i.ha.mono (Nat.le_refl _) (Nat.le_refl _)) i.hc
  have ox : B 2200 2100 (l.cx a c + l.x) := (B.add ((B.sub (hl.ha.mul i.ha) (hl.hb.mul (ite_b i.hc)))) hl.hx).mono (by decide) (by decide)
  have oy : B 2200 2100 (l.cy a c + l.y) := (B.add ((B.add (hl.ha.mul (ite_b i.hc)) (hl.hb.mul i.ha))) hl.hy).mono (by decide) (by decide)
  have ou : B 1400 2250 (l.cx b e) := (B.sub (hl.ha.mul i.hb) (hl.hb.mul (ite_b i.he))).mono (by decide) (by decide)
  have ov : B 1400 2250 (l.cy b e) := (B.add (hl.ha.mul (ite_b i.he)) (hl.hb.mul i.hb)).mono (by decide) (by decide)
  have r0 := inOne_r i
  refine ⟨rfl, le1000 rfl, (l, (a, c)), rfl, ⟨hl, i.ha.mono (by decide) (by decide), i.hc.mono (by decide) (by decide)⟩, rfl, ?_⟩
  refine ⟨le1000 rfl, (l, (b, e)), rfl, ⟨hl, i.hb.mono (by decide) (by decide), i.he.mono (by decide) (by decide)⟩, rfl, ?_⟩
  refine ⟨(_, _, _), rfl, ⟨r0, i.hr.mono (by decide), ox.mono (by decide) (by decide), ou⟩, ?_⟩
  rintro _ ⟨n', hn, rfl⟩
  refine ⟨(_, _, _), rfl, ⟨r0, i.hr.mono (by decide), oy.mono (by decide) (by decide), ov⟩, ?_⟩
  rintro _ ⟨m', hm, rfl⟩
  obtain ⟨k1, k2⟩ := lead_num i ht.sb.r0 hn hm
  exact ⟨le1000 rfl, h _ ⟨n', m', k1, k2, rfl⟩⟩
theorem sem_p_lead_curve {ds : List PyData} {P : PyData → Prop} : S_p_lead_curve ds P → m_p_lead_curve (startD N_p_lead_curve ds) (fun _ => P .none) P := by
  rintro ⟨⟨l, c⟩, rfl, ⟨hl, hc⟩, h⟩
  have hl : LB l := hl
  have hc : CB c := hc
  have h : P (encC (ledC l c)) := h
  have hn := hl.n
  have kx := hl.hx
  have ky := hl.hy
  refine ⟨cutR rfl, cutR rfl, ((l.a, l.b), (l.a, l.b)), rfl, ⟨44, 44, ⟨⟨hl.ha, hl.hb⟩, hl.ha, hl.hb⟩, by decide, by decide⟩, c, rfl, trivial, ?_⟩
  cases c with
  | line a b c =>
    obtain ⟨⟨ha, hb, hc⟩, hz⟩ := hc
    have hx := hl.cx ha hb
    have hy := hl.cy ha hb
    refine ⟨cutL rfl, (l, (a, b)), rfl, ⟨hl, ha.mono (by decide) (by decide), hb.mono (by decide) (by decide)⟩, (l.n, c), rfl, ?_, ?_⟩
    · show Ok2 l.n c
      walk_at "ok"
    refine ⟨((l.cx a b, l.cy a b), (l.x, l.y)), rfl, ⟨200, 120, ⟨⟨hx.mono (by decide) (by decide), hy.mono (by decide) (by decide)⟩, kx.mono (by decide) (by decide), ky.mono (by decide) (by decide)⟩, by decide, by decide⟩, (l.n * c, l.cx a b * l.x + l.cy a b * l.y), rfl, ?_, le1000 rfl, h⟩
    show Ok2 (l.n * c) (l.cx a b * l.x + l.cy a b * l.y)
    walk_at "ok"
  | circ x y q =>
    obtain ⟨⟨hx, hy, hq⟩, hz⟩ := hc
    refine ⟨cutL rfl, (l, (x, y)), rfl, ⟨hl, hx.mono (by decide) (by decide), hy.mono (by decide) (by decide)⟩, (l.n, q), rfl, ?_, le1000 rfl, h⟩
    show Ok2 l.n q
    walk_at "ok"
theorem sem_p_lead_behind {ds : List PyData} {P : PyData → Prop} : S_p_lead_behind ds P → m_p_lead_behind (startD N_p_lead_behind ds) (fun _ => P .none) P := by
  rintro ⟨⟨l, k⟩, rfl, ⟨hl, hk⟩, h⟩
  have hl : LB l := hl
  have hk : LB k := hk
  refine ⟨cutR rfl, cutR rfl, (k.m, (l.a, l.b)), rfl, trivial, ((k.a, k.b), (l.a, if k.m then -l.b else l.b)), rfl, ⟨44, 44, 44, 44, ⟨⟨hk.ha, hk.hb⟩, hl.ha, ite_b hl.hb⟩, by decide, by decide⟩, ?_⟩
  refine ⟨⟨rfl, rfl⟩, (k, (l.x, l.y)), rfl, ⟨hk, hl.hx.mono (by decide) (by decide), hl.hy.mono (by decide) (by decide)⟩, le1000 rfl, ?_⟩
  exact h
theorem sem_p_back_by {ds : List PyData} {P : PyData → Prop} : S_p_back_by ds P → m_p_back_by (startD N_p_back_by ds) (fun _ => P .none) P := by
  rintro ⟨l, rfl, hl, h⟩
  have hl : LB l := hl
  have h : P (encL (backL l)) := h
  have hn := hl.n
  have np := hl.np
  have ha := hl.ha
  have hb := hl.hb
  have kx := hl.hx
  have ky := hl.hy
  have hd : B 180 180 (1 / l.n) := (B.div one_b hn np).mono (by decide) (by decide)
  have h1 : B 230 230 (l.a * (1 / l.n)) := by walk_at "bm"
  have h2 : B 230 230 (-l.b * (1 / l.n)) := by walk_at "bm"
  have m1 : B 1 1 (-1 : Rat) := ⟨by decide, by decide⟩
  refine ⟨cutR rfl, (l.a, l.b), rfl, ⟨⟨ha.mono (by decide) (by decide), hb.mono (by decide) (by decide)⟩, hl.nz⟩, ?_⟩
  refine ⟨((l.a * (1 / l.n), -l.b * (1 / l.n)), (l.x, l.y)), rfl, ⟨230, 230, 60, 44, ⟨⟨h1, h2⟩, kx, ky⟩, by decide, by decide⟩, ?_⟩
  refine ⟨(l.m, (l.a * (1 / l.n), -l.b * (1 / l.n))), rfl, trivial, ?_⟩
  refine ⟨(l.m, (l.a * (1 / l.n) * l.x - -l.b * (1 / l.n) * l.y, l.a * (1 / l.n) * l.y + -l.b * (1 / l.n) * l.x)), rfl, trivial, le1000 rfl, ?_⟩
  have o1 : Ok2 (l.a * (1 / l.n) * l.x - -l.b * (1 / l.n) * l.y) (-1) := by walk_at "ok"
  have o2 : Ok2 (if l.m then -(l.a * (1 / l.n) * l.y + -l.b * (1 / l.n) * l.x) else l.a * (1 / l.n) * l.y + -l.b * (1 / l.n) * l.x) (-1) := by walk_at "ok"
  exact ⟨((l.a * (1 / l.n) * l.x - -l.b * (1 / l.n) * l.y, if l.m then -(l.a * (1 / l.n) * l.y + -l.b * (1 / l.n) * l.x) else l.a * (1 / l.n) * l.y + -l.b * (1 / l.n) * l.x), -1), rfl, ⟨o1, o2⟩, le1000 rfl, h⟩
theorem sem_p_turn_by {ds : List PyData} {P : PyData → Prop} : S_p_turn_by ds P → m_p_turn_by (startD N_p_turn_by ds) (fun _ => P .none) P := by
  rintro ⟨⟨x, y⟩, rfl, ⟨⟨hx, hy⟩, hz⟩, h⟩
  have hx : B 60 60 x := hx
  have hy : B 60 60 y := hy
  have hp : 0 < x * x + y * y := norm_pos hz
  have h : P (encL (turnL x y)) := h
  have hn : B 241 240 (x * x + y * y) := by walk_at "bm"
  have hd : B 250 250 (1 / (x * x + y * y)) := (B.div one_b hn hp).mono (by decide) (by decide)
  have o1 : Ok2 (x * x - y * y) (1 / (x * x + y * y)) := by walk_at "ok"
  have o2 : Ok2 (x * y + y * x) (1 / (x * x + y * y)) := by walk_at "ok"
  refine ⟨((x, y), (x, y)), rfl, ⟨60, 60, 60, 60, ⟨⟨hx, hy⟩, hx, hy⟩, by decide, by decide⟩, ?_⟩
  refine ⟨((x, y), (x, y)), rfl, ⟨60, 60, ⟨⟨hx, hy⟩, hx, hy⟩, by decide, by decide⟩, (1, x * x + y * y), rfl, ⟨hp, one_b.mono (by decide) (by decide), hn.mono (by decide) (by decide)⟩, ?_⟩
  exact ⟨((x * x - y * y, x * y + y * x), 1 / (x * x + y * y)), rfl, ⟨o1, o2⟩, le1000 rfl, h⟩
theorem sem_p_mirror_by {ds : List PyData} {P : PyData → Prop} : S_p_mirror_by ds P → m_p_mirror_by (startD N_p_mirror_by ds) (fun _ => P .none) P := by
  rintro ⟨⟨a, b, c⟩, rfl, hk, h⟩
  have hk : CB (.line a b c) := hk
  have h : P (encL (mirrorL a b c)) := h
  obtain ⟨⟨ha, hb, hc⟩, hz⟩ := hk
  have hp : 0 < a * a + b * b := norm_pos hz
  have m1 : B 1 1 (-1 : Rat) := ⟨by decide, by decide⟩
  have hn : B 110 100 (a * a + b * b) := by walk_at "bm"
  have hd : B 110 120 (-1 / (a * a + b * b)) := (B.div m1 hn hp).mono (by decide) (by decide)
  have hc2 : B 94 47 (2 * c) := by walk_at "bm"
  have he : B 210 170 (2 * c / (a * a + b * b)) := (B.div hc2 hn hp).mono (by decide) (by decide)
  have o0 : Ok2 2 c := by walk_at "ok"
  have o1 : Ok2 (a * a - b * b) (-1 / (a * a + b * b)) := by walk_at "ok"
  have o2 : Ok2 (a * b + b * a) (-1 / (a * a + b * b)) := by walk_at "ok"
  have o3 : Ok2 a (2 * c / (a * a + b * b)) := by walk_at "ok"
  have o4 : Ok2 b (2 * c / (a * a + b * b)) := by walk_at "ok"
  refine ⟨cutL rfl, ((a, b), (a, b)), rfl, ⟨27, 13, ⟨⟨ha, hb⟩, ha, hb⟩, by decide, by decide⟩, ?_⟩
  refine ⟨((a, b), (a, b)), rfl, ⟨27, 13, 27, 13, ⟨⟨ha, hb⟩, ha, hb⟩, by decide, by decide⟩, ?_⟩
  refine ⟨le1000 rfl, (-1, a * a + b * b), rfl, ⟨hp, m1.mono (by decide) (by decide), hn.mono (by decide) (by decide)⟩, ?_⟩
  refine ⟨((a * a - b * b, a * b + b * a), -1 / (a * a + b * b)), rfl, ⟨o1, o2⟩, ?_⟩
  refine ⟨(2, c), rfl, o0, (2 * c, a * a + b * b), rfl, ⟨hp, hc2.mono (by decide) (by decide), hn.mono (by decide) (by decide)⟩, ?_⟩
  exact ⟨((a, b), 2 * c / (a * a + b * b)), rfl, ⟨o3, o4⟩, le1000 rfl, h⟩
theorem sem_p_check_point {ds : List PyData} {P : PyData → Prop} : S_p_check_point ds P → m_p_check_point (startD N_p_check_point ds) (fun _ => P .none) P := by
  rintro ⟨a, rfl, k, h⟩
  exact ⟨a, rfl, k, h⟩
theorem sem_p_check_place {ds : List PyData} {P : PyData → Prop} : S_p_check_place ds P → m_p_check_place (startD N_p_check_place ds) (fun _ => P .none) P := by
  rintro ⟨a, rfl, k, h⟩
  exact ⟨a, rfl, k, h⟩
theorem sem_p_check_curve {ds : List PyData} {P : PyData → Prop} : S_p_check_curve ds P → m_p_check_curve (startD N_p_check_curve ds) (fun _ => P .none) P := by
  rintro ⟨a, rfl, k, h⟩
  exact ⟨a, rfl, k, h⟩
theorem sem_p_check_lead {ds : List PyData} {P : PyData → Prop} : S_p_check_lead ds P → m_p_check_lead (startD N_p_check_lead ds) (fun _ => P .none) P := by
  rintro ⟨a, rfl, k, h⟩
  exact ⟨a, rfl, k, h⟩
theorem sem_p_is_lead {ds : List PyData} {P : PyData → Prop} : S_p_is_lead ds P → m_p_is_lead (startD N_p_is_lead ds) (fun _ => P .none) P := by
  rintro ⟨l, rfl, k, h⟩
  exact ⟨l, rfl, k, h⟩
theorem sem_p_led_place {ds : List PyData} {P : PyData → Prop} : S_p_led_place ds P → m_p_led_place (startD N_p_led_place ds) (fun _ => P .none) P := by
  rintro ⟨⟨l, s, n, m⟩, rfl, k, h⟩
  exact ⟨l, rfl, k.1, ⟨s, n, m⟩, rfl, k.2, ⟨l, s, n, m⟩, rfl, k, h⟩
theorem sem_p_led_curve {ds : List PyData} {P : PyData → Prop} : S_p_led_curve ds P → m_p_led_curve (startD N_p_led_curve ds) (fun _ => P .none) P := by
  rintro ⟨⟨l, c⟩, rfl, k, h⟩
  exact ⟨l, rfl, k.1, c, rfl, k.2, (l, c), rfl, k, h⟩
theorem sem_p_behind {ds : List PyData} {P : PyData → Prop} : S_p_behind ds P → m_p_behind (startD N_p_behind ds) (fun _ => P .none) P := by
  rintro ⟨⟨l, c⟩, rfl, k, h⟩
  exact ⟨l, rfl, k.1, c, rfl, k.2, (l, c), rfl, k, h⟩
theorem sem_p_back {ds : List PyData} {P : PyData → Prop} : S_p_back ds P → m_p_back (startD N_p_back ds) (fun _ => P .none) P := by
  rintro ⟨l, rfl, k, h⟩
  exact ⟨l, rfl, k, l, rfl, k, h⟩
theorem sem_p_is_rigid {ds : List PyData} {P : PyData → Prop} : S_p_is_rigid ds P → m_p_is_rigid (startD N_p_is_rigid ds) (fun _ => P .none) P := by
  rintro ⟨l, rfl, k, h⟩
  exact ⟨l, rfl, k, l, rfl, k, h⟩
theorem sem_p_move {ds : List PyData} {P : PyData → Prop} : S_p_move ds P → m_p_move (startD N_p_move ds) (fun _ => P .none) P := by
  rintro ⟨l, rfl, k, h⟩
  exact ⟨l, rfl, k, l, rfl, k, h⟩
theorem sem_p_turn {ds : List PyData} {P : PyData → Prop} : S_p_turn ds P → m_p_turn (startD N_p_turn ds) (fun _ => P .none) P := by
  rintro ⟨l, rfl, k, h⟩
  exact ⟨l, rfl, k.2, l, rfl, k, h⟩
theorem sem_p_mirror {ds : List PyData} {P : PyData → Prop} : S_p_mirror ds P → m_p_mirror (startD N_p_mirror ds) (fun _ => P .none) P := by
  rintro ⟨⟨a, b, c⟩, rfl, k, h⟩
  exact ⟨.line a b c, rfl, k, .line a b c, rfl, trivial, (a, b, c), rfl, k, h⟩
theorem sem_p_sign_at {ds : List PyData} {P : PyData → Prop} : S_p_sign_at ds P → m_p_sign_at (startD N_p_sign_at ds) (fun _ => P .none) P := by
  rintro ⟨⟨c, s, n, m⟩, rfl, k, h⟩
  exact ⟨c, rfl, k.cb, ⟨s, n, m⟩, rfl, k.told, ⟨c, s, n, m⟩, rfl, k, h⟩
end GD
end

section
set_option Elab.async false
set_option linter.all false
set_option maxRecDepth 100000
set_option exponentiation.threshold 500
set_option maxHeartbeats 4000000
/-! GZ: the sign of a curve's value at a place. -/
namespace GD
open PySem PySem.Spec PyProof.Rows L2 GQ
local macro_rules | `(tactic| walk_at "bi") => `(tactic| with_reducible first | assumption | exact zero_b | exact one_b | exact two_b | (apply GQ.B.neg; walk_at "bi") | (apply ite_b; walk_at "bi") | (apply GQ.B.add; walk_at "bi"; walk_at "bi") | (apply GQ.B.sub; walk_at "bi"; walk_at "bi") | (apply GQ.B.mul; walk_at "bi"; walk_at "bi") | (apply GQ.B.div; walk_at "bi"; walk_at "bi"; assumption))
local macro_rules | `(tactic| walk_at "bm") => `(tactic| (apply GQ.B.mono; walk_at "bi"; decide; decide))
local macro_rules | `(tactic| walk_at "ok") => `(tactic| (apply Ok2.of; walk_at "bi"; walk_at "bi"; decide; decide; decide))

local macro_rules | `(tactic| walk_at "en") => `(tactic| try dsimp only [startD, List.cons_append, List.nil_append, dNil, List.map, List.replicate, List.length, List.set, gdCons, gdName, gdNil, cutD, List.drop, List.take, Option.getD, Nat.reduceAdd, Nat.reduceSub])
theorem circ_a {a c b e p q s r : Rat} : 1 * (a * a + c * c + (b * b + e * e) * r) + (-2 * p * a + -2 * q * c) + (p * p + q * q - s) = (a - p) * (a - p) + (c - q) * (c - q) + (b * b + e * e) * r - s := by grind
theorem circ_b {a c b e p q : Rat} : 2 * 1 * (a * b + c * e) + (-2 * p * b + -2 * q * e) = 2 * ((a - p) * b + (c - q) * e) := by grind
theorem line_a {a c b e p q s r : Rat} : 0 * (a * a + c * c + (b * b + e * e) * r) + (p * a + q * c) + -s = p * a + q * c - s := by grind
theorem line_b {a c b e p q : Rat} : 2 * 0 * (a * b + c * e) + (p * b + q * e) = p * b + q * e := by grind
theorem sg_circ {x u y v : Rat} {R : Int} {a b c e : Rat} {r : Int} (i : InOne x u y v R a b c e r) (h0 : 0 ≤ R) (p q s : Rat) :
    sgQ ((a - p) * (a - p) + (c - q) * (c - q) + (b * b + e * e) * r - s) (2 * ((a - p) * b + (c - q) * e)) r = sgQ ((x - p) * (x - p) + (y - q) * (y - q) + (u * u + v * v) * R - s) (2 * ((x - p) * u + (y - q) * v)) R := by
  have h := inOne_sg i h0 1 (-2 * p) (-2 * q) (p * p + q * q - s)
  rw [circ_a, circ_a, circ_b, circ_b] at h
  exact h
theorem sg_line {x u y v : Rat} {R : Int} {a b c e : Rat} {r : Int} (i : InOne x u y v R a b c e r) (h0 : 0 ≤ R) (p q s : Rat) :
    sgQ (p * a + q * c - s) (p * b + q * e) r = sgQ (p * x + q * y - s) (p * u + q * v) R := by
  have h := inOne_sg i h0 0 p q (-s)
  rw [line_a, line_a, line_b, line_b] at h
  exact h
theorem circ_sm {s : Spot} {a b c e : Rat} {r : Int} (i : InB s a b c e r) {p q t : Rat} (hp : B 60 26 p) (hq : B 60 26 q) (ht : B 74 40 t)
    (v1 : B 2000 1300 ((s.x - p) * (s.x - p) + (s.y - q) * (s.y - q) + (s.u * s.u + s.v * s.v) * s.R - t)) (v2 : B 2000 1300 (2 * ((s.x - p) * s.u + (s.y - q) * s.v))) (hR : Bi 600 s.R) :
    B 5000 2100 ((a - p) * (a - p) + (c - q) * (c - q) + (b * b + e * e) * r - t) ∧ B 5000 2700 (2 * ((a - p) * b + (c - q) * e) * (2 * ((a - p) * b + (c - q) * e)) * r) := by
  have hRr := B.int hR
  rcases i.is.ex with ⟨_, _, _, eb, ee, _⟩ | ⟨_, _, ea, ec, _, κ, _, eb, ee, ek⟩
  · obtain ⟨ha, hc⟩ := i.hq eb ee
    subst eb ee
    constructor
    · have : (a - p) * (a - p) + (c - q) * (c - q) + (0 * 0 + 0 * 0) * (r : Rat) - t = (a - p) * (a - p) + (c - q) * (c - q) - t := by grind
      rw [this]
      walk_at "bm"
    · have : 2 * ((a - p) * 0 + (c - q) * 0) * (2 * ((a - p) * 0 + (c - q) * 0)) * (r : Rat) = 0 := by grind
      rw [this]
      walk_at "bm"
  · subst ea ec eb ee
    constructor
    · have : (s.u * κ * (s.u * κ) + s.v * κ * (s.v * κ)) * (r : Rat) = (s.u * s.u + s.v * s.v) * s.R := by
        rw [← ek]
        grind
      rw [this]
      exact v1.mono (by decide) (by decide)
    · have : 2 * ((s.x - p) * (s.u * κ) + (s.y - q) * (s.v * κ)) * (2 * ((s.x - p) * (s.u * κ) + (s.y - q) * (s.v * κ))) * (r : Rat) = 2 * ((s.x - p) * s.u + (s.y - q) * s.v) * (2 * ((s.x - p) * s.u + (s.y - q) * s.v)) * s.R := by
        rw [← ek]
        generalize s.x - p = m1
        generalize s.y - q = m2
        grind
      rw [this]
      walk_at "bm"
theorem sem_p_sign_by {ds : List PyData} {P : PyData → Prop} : S_p_sign_by ds P → m_p_sign_by (startD N_p_sign_by ds) (fun _ => P .none) P := by
  rintro ⟨⟨k, s, n, m⟩, rfl, hk, h⟩
  have hk : ACur.ok ⟨k, s, n, m⟩ := hk
  have h : P (.int (sgQ (val1 k s.x s.u s.y s.v s.R) (val2 k s.x s.u s.y s.v) s.R)) := h
  obtain ⟨hc, ht, v1, v2⟩ := hk
  have hc : CB k := hc
  have ht : Told s n m := ht
  refine ⟨⟨s, n, m⟩, rfl, ht, ?_⟩
  rintro _ ⟨a, b, c, e, r, i, rfl⟩
  refine ⟨rfl, ?_⟩
  walk_at "en"
  have ha := i.ha
  have hb := i.hb
  have hcc := i.hc
  have he := i.he
  have hr := B.int i.hr
  have r0 := inOne_r i
  cases k with
  | line p q t =>
    obtain ⟨⟨hp, hq, ht'⟩, hz⟩ := hc
    have h : P (.int (sgQ (p * s.x + q * s.y - t) (p * s.u + q * s.v) s.R)) := h
    rw [← sg_line i.is ht.sb.r0] at h
    have o1 : Ok2 p a := by walk_at "ok"
    have o2 : Ok2 q c := by walk_at "ok"
    have o3 : Ok2 (p * a) (q * c) := by walk_at "ok"
    have o4 : Ok2 (p * a + q * c) t := by walk_at "ok"
    have o5 : Ok2 p b := by walk_at "ok"
    have o6 : Ok2 q e := by walk_at "ok"
    have o7 : Ok2 (p * b) (q * e) := by walk_at "ok"
    have k1 : B 3200 1994 (p * a + q * c - t) := by walk_at "bm"
    have k2 : B 3200 2200 (p * b + q * e) := by walk_at "bm"
    have k3 : B 40000 4500 ((p * a + q * c - t) * (p * a + q * c - t)) := by walk_at "bm"
    have k4 : B 60000 4500 ((p * b + q * e) * (p * b + q * e) * r) := by walk_at "bm"
    refine ⟨cutL rfl, rfl, ?_⟩
    walk_at "en"
    refine ⟨.line p q t, rfl, trivial, ?_⟩
    refine ⟨(p, a), rfl, o1, (q, c), rfl, o2, (p * a, q * c), rfl, o3, (p * a + q * c, t), rfl, o4, ?_⟩
    walk_at "en"
    exact ⟨(p, b), rfl, o5, (q, e), rfl, o6, (p * b, q * e), rfl, o7,
      (p * a + q * c - t, p * b + q * e, r), rfl, ⟨r0, i.hr.mono (by decide), k1.mono (by decide) (by decide), k2.mono (by decide) (by decide), k3, k4⟩, h⟩
  | circ p q t =>
    obtain ⟨⟨hp, hq, ht'⟩, hz⟩ := hc
    have h : P (.int (sgQ ((s.x - p) * (s.x - p) + (s.y - q) * (s.y - q) + (s.u * s.u + s.v * s.v) * s.R - t) (2 * ((s.x - p) * s.u + (s.y - q) * s.v)) s.R)) := h
    rw [← sg_circ i.is ht.sb.r0] at h
    obtain ⟨m1, m2⟩ := circ_sm i hp hq ht' v1 v2 ht.sb.hR
    have o1 : Ok2 a p := by walk_at "ok"
    have o2 : Ok2 c q := by walk_at "ok"
    have b1 : B 1100 987 (a - p) := by walk_at "bm"
    have b2 : B 1100 987 (c - q) := by walk_at "bm"
    have o3 : Ok2 (a - p) (a - p) := by walk_at "ok"
    have o4 : Ok2 (c - q) (c - q) := by walk_at "ok"
    have o5 : Ok2 ((a - p) * (a - p)) ((c - q) * (c - q)) := by walk_at "ok"
    have o6 : Ok2 b b := by walk_at "ok"
    have o7 : Ok2 e e := by walk_at "ok"
    have o8 : Ok2 (b * b) (e * e) := by walk_at "ok"
    have o9 : Ok2 (b * b + e * e) r := by walk_at "ok"
    have o10 : Ok2 ((a - p) * (a - p) + (c - q) * (c - q)) ((b * b + e * e) * r) := by walk_at "ok"
    have o11 : Ok2 (a - p) b := by walk_at "ok"
    have o12 : Ok2 (c - q) e := by walk_at "ok"
    have o13 : Ok2 ((a - p) * b) ((c - q) * e) := by walk_at "ok"
    have o14 : Ok2 2 ((a - p) * b + (c - q) * e) := by walk_at "ok"
    have o15 : Ok2 ((a - p) * (a - p) + (c - q) * (c - q) + (b * b + e * e) * r) t := by walk_at "ok"
    have k2 : B 20000 4499 (2 * ((a - p) * b + (c - q) * e)) := by walk_at "bm"
    have k3 : B 40000 4500 (((a - p) * (a - p) + (c - q) * (c - q) + (b * b + e * e) * r - t) * ((a - p) * (a - p) + (c - q) * (c - q) + (b * b + e * e) * r - t)) := (m1.mul m1).mono (by decide) (by decide)
    refine ⟨cutL rfl, rfl, ?_⟩
    walk_at "en"
    refine ⟨.circ p q t, rfl, trivial, ?_⟩
    dsimp only [dNext]
    refine ⟨(a, p), rfl, o1, (c, q), rfl, o2, ?_⟩
    walk_at "en"
    refine ⟨(a - p, a - p), rfl, o3, (c - q, c - q), rfl, o4, ((a - p) * (a - p), (c - q) * (c - q)), rfl, o5, (b, b), rfl, o6, (e, e), rfl, o7, (b * b, e * e), rfl, o8, le1000 rfl, (b * b + e * e, (r : Rat)), rfl, o9, ?_⟩
    refine ⟨((a - p) * (a - p) + (c - q) * (c - q), (b * b + e * e) * r), rfl, o10, ?_⟩
    walk_at "en"
    refine ⟨(a - p, b), rfl, o11, (c - q, e), rfl, o12, ((a - p) * b, (c - q) * e), rfl, o13, (2, (a - p) * b + (c - q) * e), rfl, o14, ?_⟩
    walk_at "en"
    exact ⟨((a - p) * (a - p) + (c - q) * (c - q) + (b * b + e * e) * r, t), rfl, o15, (_, _, r), rfl, ⟨r0, i.hr.mono (by decide), m1.mono (by decide) (by decide), k2, k3, m2.mono (by decide) (by decide)⟩, h⟩
end GD
end

section
set_option Elab.async false
set_option linter.all false
set_option maxRecDepth 100000
set_option exponentiation.threshold 500
/-! LS: data of the law; what its defs promise, by data. -/
namespace GD
open PySem PySem.Spec PyProof.Rows L2 GQ
def encS (s : Spot) : PyData := .tuple [.int s.X, .int s.U, .int s.Y, .int s.V, .int s.R, .int s.D]
structure Flat where
  k : Int
  a : Int
  b : Int
  c : Int
def encF (f : Flat) : PyData := .tuple [.int f.k, .int f.a, .int f.b, .int f.c]
def listF (f : Flat) : PyData := .list [.int f.k, .int f.a, .int f.b, .int f.c]
/-- a place as it is drawn -/
structure SB0 (s : Spot) : Prop where
  d0 : 0 < s.D
  r0 : 0 ≤ s.R
  hX : Bi 450 s.X
  hY : Bi 450 s.Y
  hU : Bi 200 s.U
  hV : Bi 200 s.V
  hR : Bi 600 s.R
  hD : Bi 450 s.D
/-- a place led twice at most -/
structure SB2 (s : Spot) : Prop where
  d0 : 0 < s.D
  r0 : 0 ≤ s.R
  hX : Bi 900 s.X
  hY : Bi 900 s.Y
  hU : Bi 400 s.U
  hV : Bi 400 s.V
  hR : Bi 600 s.R
  hD : Bi 900 s.D
/-- a lead as it is drawn -/
structure LB0 (l : Lead) : Prop where
  ha : B 3 3 l.a
  hb : B 3 3 l.b
  hx : B 18 3 l.x
  hy : B 18 3 l.y
  nz : l.a ≠ 0 ∨ l.b ≠ 0
structure FB (f : Flat) : Prop where
  hk : Bi 70 f.k
  ha : Bi 92 f.a
  hb : Bi 92 f.b
  hc : Bi 112 f.c
structure FlatOk (f : Flat) : Prop where
  fb : FB f
  ok : (f.k = 0 ∧ (f.a ≠ 0 ∨ f.b ≠ 0)) ∨ (0 < f.k ∧ 0 ≤ f.a * f.a + f.b * f.b - 4 * f.k * f.c)
/-- a bow as it is drawn: first, at last -/
def CB1 : Curve → Prop
  | .line a b c => (B 11 1 a ∧ B 11 1 b ∧ B 40 1 c) ∧ (a ≠ 0 ∨ b ≠ 0)
  | .circ x y q => (B 22 6 x ∧ B 22 6 y ∧ B 57 24 q) ∧ 0 < q
def CB0 : Curve → Prop
  | .line a b c => (B 11 1 a ∧ B 11 1 b ∧ B 40 1 c) ∧ (a ≠ 0 ∨ b ≠ 0)
  | .circ x y q => (B 25 8 x ∧ B 25 8 y ∧ B 60 27 q) ∧ 0 < q
/-- a curve of which the flat form is short -/
def CBf : Curve → Prop
  | .line a b c => (B 26 10 a ∧ B 26 10 b ∧ B 60 10 c) ∧ (a ≠ 0 ∨ b ≠ 0)
  | .circ x y q => (B 25 8 x ∧ B 25 8 y ∧ B 60 27 q) ∧ 0 < q
def flatOf : Curve → Flat
  | .line a b c => ⟨0, a.num * b.den * c.den, b.num * a.den * c.den, 0 - c.num * (a.den * b.den)⟩
  | .circ x y q => ⟨x.den * x.den * (y.den * y.den) * q.den, 0 - 2 * x.num * x.den * (y.den * y.den) * q.den, 0 - 2 * y.num * y.den * (x.den * x.den) * q.den,
      (x.num * x.num * (y.den * y.den) + y.num * y.num * (x.den * x.den)) * q.den - q.num * (x.den * x.den) * (y.den * y.den)⟩
def at1 (f : Flat) (s : Spot) : Int := f.k * (s.X * s.X + s.Y * s.Y + s.R * (s.U * s.U + s.V * s.V)) + s.D * (f.a * s.X + f.b * s.Y) + s.D * s.D * f.c
def at2 (f : Flat) (s : Spot) : Int := 2 * f.k * (s.X * s.U + s.Y * s.V) + s.D * (f.a * s.U + f.b * s.V)
/-- a place led -/
def ledS (l : Lead) (s : Spot) : Spot :=
  let Y := if l.m then 0 - s.Y else s.Y
  let V := if l.m then 0 - s.V else s.V
  let low : Int := l.a.den * l.b.den
  let deep : Int := l.x.den * l.y.den
  let a := l.a.num * l.b.den * deep
  let b := l.b.num * l.a.den * deep
  ⟨a * s.X - b * Y + l.x.num * l.y.den * low * s.D, a * s.U - b * V, b * s.X + a * Y + l.y.num * l.x.den * low * s.D, b * s.U + a * V, s.R, low * deep * s.D⟩
/-! ### what is asked of two fractions -/
def OkL (p q : Rat) : Prop := ∃ n d m e, (B n d p ∧ B m e q) ∧ n ≤ 100000 ∧ m ≤ 100000 ∧ d + e ≤ 4400
theorem OkL.of {n d m e : Nat} {p q : Rat} (h : B n d p) (k : B m e q) (h1 : n ≤ 100000) (h2 : m ≤ 100000) (h3 : d + e ≤ 4400) : OkL p q := ⟨n, d, m, e, ⟨h, k⟩, h1, h2, h3⟩
def dWell : PyData := .dict []
/-! ### draws, whole numbers -/
def S_l_draw : List PyData → MD := spN (α := Int) (fun n => [dWell, .int n]) (fun n => 0 < n ∧ n < 4611686018427387904) fun n d => ∃ i : Int, (0 ≤ i ∧ i < n) ∧ d = .int i
structure APick where
  isL : Bool
  xs : List PyData
def APick.d (t : APick) : PyData := if t.isL then .list t.xs else .tuple t.xs
def S_l_pick : List PyData → MD := spN (α := APick) (fun t => [dWell, t.d]) (fun t => t.xs ≠ []) fun t d => d ∈ t.xs
def S_l_divisor : List PyData → MD := sp1 (α := Int × Int) (fun t => [.int t.1, .int t.2]) (fun t => Bi 4400 t.2) fun t => .int (Nat.gcd t.1.natAbs t.2.natAbs : Nat)
def S_l_lean : List PyData → MD := sp1 (α := Int × Int) (fun t => [.int t.1, .int t.2]) (fun t => 0 < t.2 ∧ Bi 4400 t.2) fun t => encQ (Rat.divInt t.1 t.2)
def S_l_sum : List PyData → MD := sp1 (α := Rat × Rat) (fun a => [encQ a.1, encQ a.2]) (fun a => OkL a.1 a.2) fun a => encQ (a.1 + a.2)
def S_l_product : List PyData → MD := sp1 (α := Rat × Rat) (fun a => [encQ a.1, encQ a.2]) (fun a => OkL a.1 a.2) fun a => encQ (a.1 * a.2)
def S_l_side : List PyData → MD := sp1 (α := Int) (fun i => [.int i]) (fun _ => True) fun i => .int (sg (i : Rat))
def S_l_sign : List PyData → MD := sp1 (α := Int × Int × Int) (fun t => [.int t.1, .int t.2.1, .int t.2.2]) (fun t => (Bi 50000 t.1 ∧ Bi 50000 t.2.1) ∧ Bi 50000 t.2.2) fun t => .int (sgQ (t.1 : Rat) (t.2.1 : Rat) t.2.2)
structure A5 where
  a : Int
  b : Int
  r : Int
  c : Int
  s : Int
def S_l_sign_two : List PyData → MD := spN (α := A5) (fun t => [.int t.a, .int t.b, .int t.r, .int t.c, .int t.s]) (fun t => (Bi 4000 t.a ∧ Bi 4000 t.b) ∧ Bi 4000 t.r ∧ Bi 4000 t.c ∧ Bi 4000 t.s) fun _ d => ∃ i : Int, d = .int i
structure A4 where
  a : Int
  b : Int
  r : Int
  d : Int
structure A4.ok (t : A4) : Prop where
  ha : Bi 1000 t.a
  hb : Bi 1000 t.b
  hr : Bi 1000 t.r
  hd : Bi 1000 t.d
def A4.e (t : A4) : PyData := .tuple [.int t.a, .int t.b, .int t.r, .int t.d]
def S_l_order : List PyData → MD := spN (α := A4 × A4) (fun t => [t.1.e, t.2.e]) (fun t => t.1.ok ∧ t.2.ok) fun _ d => ∃ i : Int, d = .int i
def S_l_floor : List PyData → MD := sp1 (α := Int) (fun i => [.int i]) (fun i => 0 ≤ i ∧ Bi 2050 i) fun i => .int (sq i)
structure ANb (t : A4) : Prop where
  r0 : 0 ≤ t.r
  d0 : 0 < t.d
  ha : Bi 900 t.a
  hb : Bi 400 t.b
  hr : Bi 600 t.r
  hd : Bi 900 t.d
def S_l_number : List PyData → MD := spN (α := A4) (fun t => [.int t.a, .int t.b, .int t.r, .int t.d]) (fun t => ANb t) fun t d => ∃ n, NumIs ((t.a : Rat) / (t.d : Rat)) ((t.b : Rat) / (t.d : Rat)) t.r n ∧ d = encN n
def S_l_told : List PyData → MD := spN (α := Spot) (fun s => [encS s]) (fun s => SB2 s) fun s d => ∃ n m, NumIs s.x s.u s.R n ∧ NumIs s.y s.v s.R m ∧ d = .tuple [encN n, encN m]
def S_l_flat : List PyData → MD := sp1 (α := Curve) (fun c => [encC c]) (fun c => CBf c) fun c => encF (flatOf c)
def S_l_at : List PyData → MD := sp1 (α := Flat × Spot) (fun t => [encF t.1, encS t.2]) (fun t => FB t.1 ∧ SB t.2) fun t => .int (sgQ (at1 t.1 t.2 : Int) (at2 t.1 t.2 : Int) t.2.R)
/-- a list of places -/
def Spots (d : PyData) : Prop := ∃ ss : List Spot, (∀ s ∈ ss, SB0 s) ∧ ss.length ≤ 2 ∧ d = .list (ss.map encS)
structure AOn where
  isL : Bool
  f : Flat
  g : Flat
structure AOn.ok (t : AOn) : Prop where
  ha : Bi 163 t.f.a
  hb : Bi 163 t.f.b
  hc : Bi 183 t.f.c
  nz : t.f.a ≠ 0 ∨ t.f.b ≠ 0
  gb : FB t.g
  gk : 0 < t.g.k
def S_l_on_line : List PyData → MD := spN (α := AOn) (fun t => [if t.isL then listF t.f else encF t.f, encF t.g]) (fun t => t.ok) fun _ d => Spots d
def S_l_meet : List PyData → MD := spN (α := Flat × Flat) (fun t => [encF t.1, encF t.2]) (fun t => FlatOk t.1 ∧ FlatOk t.2) fun _ d => Spots d
def S_l_after : List PyData → MD := spN (α := Spot × Spot) (fun t => [encS t.1, encS t.2]) (fun t => SB0 t.1 ∧ SB0 t.2) fun _ d => ∃ i : Int, d = .int i
def S_l_marks : List PyData → MD := spN (α := List Flat) (fun t => [.list (t.map encF)]) (fun t => (∀ f ∈ t, FlatOk f) ∧ t.length ≤ 2) fun _ d => Spots d
def S_l_small : List PyData → MD := spN (α := Unit) (fun _ => [dWell]) (fun _ => True) fun _ d => ∃ q, B 18 3 q ∧ d = encQ q
/-! ### bows -/
abbrev R3 := Rat × Rat × Rat
structure AForm (t : R3) : Prop where
  d1 : t.1.den = 1
  d2 : t.2.1.den = 1
  nz : t.1 ≠ 0 ∨ t.2.1 ≠ 0
  bd : (B 11 1 t.1 ∧ B 11 1 t.2.1 ∧ B 40 1 t.2.2) ∨ (B 3 1 t.1 ∧ B 3 1 t.2.1 ∧ B 28 8 t.2.2)
def S_l_form : List PyData → MD := spN (α := R3) (fun t => [encQ t.1, encQ t.2.1, encQ t.2.2]) (fun t => AForm t) fun _ d => ∃ a b c, CB1 (.line a b c) ∧ d = encC (.line a b c)
def S_l_norm : List PyData → MD := sp1 (α := Rat × Rat) (fun t => [encQ t.1, encQ t.2]) (fun t => ∃ n d, PB n d t ∧ n + d ≤ 40000 ∧ d ≤ 1100) fun t => encQ (t.1 * t.1 + t.2 * t.2)
/-- a hub, an aim -/
structure AHub (t : R2' × R2') : Prop where
  hub : PB 18 3 t.1
  aim : PB 3 1 t.2
  nz : t.2.1 ≠ 0 ∨ t.2.2 ≠ 0
def S_l_line : List PyData → MD := spN (α := R2' × R2') (fun t => [dWell, enc2 t.1, enc2 t.2]) (fun t => AHub t) fun _ d => ∃ a b c, CB1 (.line a b c) ∧ d = encC (.line a b c)
def S_l_ring : List PyData → MD := spN (α := R2' × R2') (fun t => [dWell, enc2 t.1, enc2 t.2]) (fun t => AHub t) fun _ d => ∃ x y q, CB1 (.circ x y q) ∧ d = encC (.circ x y q)
structure ABow where
  h : R2' × R2'
  f : List Curve
structure ABow.ok (t : ABow) : Prop where
  hub : AHub t.h
  cs : ∀ c ∈ t.f, CB1 c
def S_l_bow : List PyData → MD := spN (α := ABow) (fun t => [dWell, enc2 t.h.1, enc2 t.h.2, .list (t.f.map encC)]) (fun t => t.ok) fun t d => ∃ c, CB0 c ∧ (t.f = [] → CB1 c) ∧ d = encC c
def S_l_bows : List PyData → MD := spN (α := Unit) (fun _ => [dWell, .int 2]) (fun _ => True) fun _ d => ∃ cs : List Curve, (∀ c ∈ cs, CB0 c) ∧ cs ≠ [] ∧ cs.length ≤ 2 ∧ d = .list (cs.map encC)
/-! ### leads -/
structure ATurn where
  a : Rat
  b : Rat
  m : Bool
  rest : Option PyData
  dot : R2'
def ATurn.ok (t : ATurn) : Prop := ∃ n d m e, (PB n d (t.a, t.b) ∧ PB m e t.dot) ∧ n + m + d + e ≤ 40000 ∧ d + e ≤ 2200
def ATurn.d (t : ATurn) : PyData := .tuple (encQ t.a :: encQ t.b :: .bool t.m :: t.rest.toList)
def S_l_turned : List PyData → MD := sp1 (α := ATurn) (fun t => [t.d, enc2 t.dot]) (fun t => t.ok) fun t => encP (t.a * t.dot.1 - t.b * (if t.m then -t.dot.2 else t.dot.2)) (t.a * (if t.m then -t.dot.2 else t.dot.2) + t.b * t.dot.1)
def S_l_led : List PyData → MD := sp1 (α := Lead × Curve) (fun t => [encL t.1, encC t.2]) (fun t => LB t.1 ∧ CB t.2) fun t => encC (ledC t.1 t.2)
def S_l_undone : List PyData → MD := sp1 (α := Lead) (fun l => [encL l]) (fun l => LB l) fun l => encL (backL l)
def S_l_both : List PyData → MD := sp1 (α := Lead × Lead) (fun t => [encL t.1, encL t.2]) (fun t => LB t.1 ∧ LB t.2) fun t => encL (behindL t.1 t.2)
def S_l_rule : List PyData → MD := spN (α := Unit) (fun _ => [dWell]) (fun _ => True) fun _ d => ∃ l, LB0 l ∧ d = encL l
def S_l_led_spot : List PyData → MD := sp1 (α := Lead × Spot) (fun t => [encL t.1, encS t.2]) (fun t => LB t.1 ∧ SB2 t.2) fun t => encS (ledS t.1 t.2)
def S_l_raw : List PyData → MD := spN (α := R2') (fun t => [encQ t.1, encQ t.2]) (fun t => PB 18 3 t) fun _ d => ∃ s, SB0 s ∧ d = encS s
structure ACross where
  f : List Flat
  g : List Flat
structure ACross.ok (t : ACross) : Prop where
  hf : ∀ x ∈ t.f, FlatOk x
  hg : ∀ x ∈ t.g, FlatOk x
  lf : t.f.length ≤ 2
  lg : t.g.length = 2
def S_l_crossing : List PyData → MD := spN (α := ACross) (fun t => [dWell, .list (t.f.map encF), .list (t.g.map encF)]) (fun t => t.ok) fun _ d => ∃ s, SB0 s ∧ d = encS s
structure ASpot where
  f : List Flat
  m : List Spot
structure ASpot.ok (t : ASpot) : Prop where
  hf : ∀ x ∈ t.f, FlatOk x
  hm : ∀ x ∈ t.m, SB0 x
  lf : t.f.length ≤ 2
  lm : t.m.length ≤ 2
def S_l_spot : List PyData → MD := spN (α := ASpot) (fun t => [dWell, .list (t.f.map encF), .list (t.m.map encS)]) (fun t => t.ok) fun _ d => ∃ s, SB0 s ∧ d = encS s
def S_l_moves : List PyData → MD := sp1 (α := Unit) (fun _ => [dWell]) (fun _ => True) fun _ => .bool true
def S_l_mirrors : List PyData → MD := S_l_moves
def S_l_right : List PyData → MD := S_l_moves
end GD
end

section
set_option Elab.async false
set_option linter.all false
set_option maxRecDepth 100000
set_option maxHeartbeats 4000000
/-! GMl: the meanings of the law's defs (printed by gen.py). -/
namespace GD
open PySem PySem.Spec PyProof.Rows L2
/-! _law_draw -/
abbrev s_l_draw : Stmt := topS 80
abbrev N_l_draw : List Str := ["_law_well_here", "_law_many", "_law_figures", "_law_seed"]
theorem sc_l_draw : FnScope N_l_draw ["_law_well_here", "_law_many"] (defScope s_l_draw) := ⟨rfl, rfl, rfl, by decide +kernel, rfl, by decide +kernel, by decide +kernel⟩
def m_l_draw : MS :=
    (dSeq (dIfS (dtVal (dBin kGt (dWIx 0) (dC (.int 0)))) (dSeq (dWDiv 0 2 (dCall kDivmod (dCons (dWIx 0) (dCons (dVar 1) dNil))))
    (dRet (dVar 2))) dNext)
    (dSeq (dWSet 0 (dBin kAdd (dWIx 0) (dC (.int 1))))
    (dSeq (dAsg (dBin kMod (dCall kInt (dCons (dBin kAdd (dWIx 0) (dBin kMulS (dC (.int 48611)) (dWIx 0))) dNil)) (dC (.int 2147483579))) (gdName 3))
    (dSeq (dWSet 0 (dBin kMod (dCall kInt (dCons (dBin kAdd (dBin kMulS (dVar 3) (dBin kAdd (dBin kMod (dCall kInt (dCons (dVar 3) dNil)) (dC (.int 6007))) (dC (.int 35023)))) (dBin kMulS (dC (.int 29)) (dWIx 0))) dNil)) (dC (.int 2147483579))))
    (dRet (dBin kMod (dCall kInt (dCons (dBin kFdiv (dWIx 0) (dC (.int 613))) dNil)) (dVar 1)))))))
/-! _law_pick -/
abbrev s_l_pick : Stmt := topS 81
abbrev N_l_pick : List Str := ["_law_well_here", "_law_some"]
theorem sc_l_pick : FnScope N_l_pick ["_law_well_here", "_law_some"] (defScope s_l_pick) := ⟨rfl, rfl, rfl, by decide +kernel, rfl, by decide +kernel, by decide +kernel⟩
def m_l_pick : MS :=
    (dRet (dBin kIx (dVar 1) (dCall S_l_draw (dCons (dVar 0) (dCons (dCall kLenB (dCons (dVar 1) dNil)) dNil)))))
/-! _law_divisor -/
abbrev s_l_divisor : Stmt := topS 82
abbrev N_l_divisor : List Str := ["_law_one", "_law_two", "_law_far", "_law_low", "_law_lap"]
theorem sc_l_divisor : FnScope N_l_divisor ["_law_one", "_law_two"] (defScope s_l_divisor) := ⟨rfl, rfl, rfl, by decide +kernel, rfl, by decide +kernel, by decide +kernel⟩
def m_l_divisor : MS :=
    (dSeq (dPar 2 3 (dCons (dCall kAbs (dCons (dVar 0) dNil)) (dCons (dCall kAbs (dCons (dVar 1) dNil)) dNil)))
    (dSeq (dForR 4 (dCons (dC (.int 9000)) dNil) (dSeq (dIfS (dtVal (dBin kEqI (dVar 3) (dC (.int 0)))) (dRet (dVar 2)) dNext)
    (dPar 2 3 (dCons (dVar 3) (dCons (dBin kMod (dCall kInt (dCons (dVar 2) dNil)) (dVar 3)) dNil)))))
    (dRet (dVar 2))))
/-! _law_lean -/
abbrev s_l_lean : Stmt := topS 83
abbrev N_l_lean : List Str := ["_law_top", "_law_low", "_law_by"]
theorem sc_l_lean : FnScope N_l_lean ["_law_top", "_law_low"] (defScope s_l_lean) := ⟨rfl, rfl, rfl, by decide +kernel, rfl, by decide +kernel, by decide +kernel⟩
def m_l_lean : MS :=
    (dSeq (dAsg (dCall S_l_divisor (dCons (dVar 0) (dCons (dVar 1) dNil))) (gdName 2))
    (dSeq (dAsg (dIf (dtVal (dBin kGt (dVar 1) (dC (.int 0)))) (dVar 2) (dBin kSub (dC (.int 0)) (dVar 2))) (gdName 2))
    (dRet (dTup (dCons (dBin kFdiv (dVar 0) (dVar 2)) (dCons (dBin kFdiv (dVar 1) (dVar 2)) dNil))))))
/-! _law_sum -/
abbrev s_l_sum : Stmt := topS 84
abbrev N_l_sum : List Str := ["_law_one", "_law_two"]
theorem sc_l_sum : FnScope N_l_sum ["_law_one", "_law_two"] (defScope s_l_sum) := ⟨rfl, rfl, rfl, by decide +kernel, rfl, by decide +kernel, by decide +kernel⟩
def m_l_sum : MS :=
    (dRet (dCall S_l_lean (dCons (dBin kAdd (dBin kMul (dBin kIx (dVar 0) (dC (.int 0))) (dBin kIx (dVar 1) (dC (.int 1)))) (dBin kMul (dBin kIx (dVar 1) (dC (.int 0))) (dBin kIx (dVar 0) (dC (.int 1))))) (dCons (dBin kMul (dBin kIx (dVar 0) (dC (.int 1))) (dBin kIx (dVar 1) (dC (.int 1)))) dNil))))
/-! _law_product -/
abbrev s_l_product : Stmt := topS 85
abbrev N_l_product : List Str := ["_law_one", "_law_two"]
theorem sc_l_product : FnScope N_l_product ["_law_one", "_law_two"] (defScope s_l_product) := ⟨rfl, rfl, rfl, by decide +kernel, rfl, by decide +kernel, by decide +kernel⟩
def m_l_product : MS :=
    (dRet (dCall S_l_lean (dCons (dBin kMul (dBin kIx (dVar 0) (dC (.int 0))) (dBin kIx (dVar 1) (dC (.int 0)))) (dCons (dBin kMul (dBin kIx (dVar 0) (dC (.int 1))) (dBin kIx (dVar 1) (dC (.int 1)))) dNil))))
/-! _law_side -/
abbrev s_l_side : Stmt := topS 86
abbrev N_l_side : List Str := ["_law_num"]
theorem sc_l_side : FnScope N_l_side ["_law_num"] (defScope s_l_side) := ⟨rfl, rfl, rfl, by decide +kernel, rfl, by decide +kernel, by decide +kernel⟩
def m_l_side : MS :=
    (dRet (dBin kSub (dCall kInt (dCons (dBin kGt (dVar 0) (dC (.int 0))) dNil)) (dCall kInt (dCons (dBin kLt (dVar 0) (dC (.int 0))) dNil))))
/-! _law_sign -/
abbrev s_l_sign : Stmt := topS 87
abbrev N_l_sign : List Str := ["_law_a", "_law_b", "_law_r", "_law_one", "_law_two"]
theorem sc_l_sign : FnScope N_l_sign ["_law_a", "_law_b", "_law_r"] (defScope s_l_sign) := ⟨rfl, rfl, rfl, by decide +kernel, rfl, by decide +kernel, by decide +kernel⟩
def m_l_sign : MS :=
    (dSeq (dPar 3 4 (dCons (dCall S_l_side (dCons (dVar 0) dNil)) (dCons (dIf (dtVal (dBin kGt (dVar 2) (dC (.int 0)))) (dCall S_l_side (dCons (dVar 1) dNil)) (dC (.int 0))) dNil)))
    (dSeq (dIfS (dtOr (dtVal (dBin kEqI (dVar 4) (dC (.int 0)))) (dtVal (dBin kEqI (dVar 3) (dVar 4)))) (dRet (dVar 3)) dNext)
    (dRet (dIf (dtVal (dBin kEqI (dVar 3) (dC (.int 0)))) (dVar 4) (dBin kMul (dVar 3) (dCall S_l_side (dCons (dBin kSub (dBin kMul (dVar 0) (dVar 0)) (dBin kMul (dBin kMul (dVar 1) (dVar 1)) (dVar 2))) dNil)))))))
/-! _law_sign_two -/
abbrev s_l_sign_two : Stmt := topS 88
abbrev N_l_sign_two : List Str := ["_law_a", "_law_b", "_law_r", "_law_c", "_law_s", "_law_one", "_law_two"]
theorem sc_l_sign_two : FnScope N_l_sign_two ["_law_a", "_law_b", "_law_r", "_law_c", "_law_s"] (defScope s_l_sign_two) := ⟨rfl, rfl, rfl, by decide +kernel, rfl, by decide +kernel, by decide +kernel⟩
def m_l_sign_two : MS :=
    (dSeq (dPar 5 6 (dCons (dCall S_l_sign (dCons (dVar 0) (dCons (dVar 1) (dCons (dVar 2) dNil)))) (dCons (dIf (dtVal (dBin kGt (dVar 4) (dC (.int 0)))) (dCall S_l_side (dCons (dVar 3) dNil)) (dC (.int 0))) dNil)))
    (dSeq (dIfS (dtOr (dtVal (dBin kEqI (dVar 6) (dC (.int 0)))) (dtVal (dBin kEqI (dVar 5) (dVar 6)))) (dRet (dVar 5)) dNext)
    (dRet (dIf (dtVal (dBin kEqI (dVar 5) (dC (.int 0)))) (dVar 6) (dBin kMul (dVar 5) (dCall S_l_sign (dCons (dBin kSub (dBin kAdd (dBin kMul (dVar 0) (dVar 0)) (dBin kMul (dBin kMul (dVar 1) (dVar 1)) (dVar 2))) (dBin kMul (dBin kMul (dVar 3) (dVar 3)) (dVar 4))) (dCons (dBin kMul (dBin kMul (dC (.int 2)) (dVar 0)) (dVar 1)) (dCons (dVar 2) dNil)))))))))
/-! _law_order -/
abbrev s_l_order : Stmt := topS 89
abbrev N_l_order : List Str := ["_law_one", "_law_two", "_law_a", "_law_b", "_law_r", "_law_d", "_law_e", "_law_f", "_law_s", "_law_g"]
theorem sc_l_order : FnScope N_l_order ["_law_one", "_law_two"] (defScope s_l_order) := ⟨rfl, rfl, rfl, by decide +kernel, rfl, by decide +kernel, by decide +kernel⟩
def m_l_order : MS :=
    (dSeq (dAsg (dVar 0) (gdTup 4 (gdCons (gdName 2) (gdCons (gdName 3) (gdCons (gdName 4) (gdCons (gdName 5) gdNil))))))
    (dSeq (dAsg (dVar 1) (gdTup 4 (gdCons (gdName 6) (gdCons (gdName 7) (gdCons (gdName 8) (gdCons (gdName 9) gdNil))))))
    (dRet (dCall S_l_sign_two (dCons (dBin kSub (dBin kMul (dVar 2) (dVar 9)) (dBin kMul (dVar 6) (dVar 5))) (dCons (dBin kMul (dVar 3) (dVar 9)) (dCons (dVar 4) (dCons (dBin kSub (dC (.int 0)) (dBin kMul (dVar 7) (dVar 5))) (dCons (dVar 8) dNil)))))))))
/-! _law_floor -/
abbrev s_l_floor : Stmt := topS 90
abbrev N_l_floor : List Str := ["_law_num", "_law_found", "_law_lap", "_law_step"]
theorem sc_l_floor : FnScope N_l_floor ["_law_num"] (defScope s_l_floor) := ⟨rfl, rfl, rfl, by decide +kernel, rfl, by decide +kernel, by decide +kernel⟩
def m_l_floor : MS :=
    (dSeq (dIfS (dtVal (dBin kLt (dVar 0) (dC (.int 2)))) (dRet (dVar 0)) dNext)
    (dSeq (dAsg (dC (.int 1)) (gdName 1))
    (dSeq (dForR 2 (dCons (dBin kAdd (dBin kFdiv (dBits (dVar 0)) (dC (.int 2))) (dC (.int 1))) dNil) (dAsg (dBin kMul (dC (.int 2)) (dVar 1)) (gdName 1)))
    (dSeq (dForR 2 (dCons (dC (.int 9000)) dNil) (dSeq (dAsg (dBin kFdiv (dBin kAdd (dVar 1) (dBin kFdiv (dVar 0) (dVar 1))) (dC (.int 2))) (gdName 3))
    (dSeq (dIfS (dtVal (dBin kGe (dVar 3) (dVar 1))) (dRet (dVar 1)) dNext)
    (dAsg (dVar 3) (gdName 1)))))
    (dRet (dVar 1))))))
/-! _law_number -/
abbrev s_l_number : Stmt := topS 91
abbrev N_l_number : List Str := ["_law_a", "_law_b", "_law_r", "_law_d", "_law_low", "_law_far", "_law_mid", "_law_end", "_law_by"]
theorem sc_l_number : FnScope N_l_number ["_law_a", "_law_b", "_law_r", "_law_d"] (defScope s_l_number) := ⟨rfl, rfl, rfl, by decide +kernel, rfl, by decide +kernel, by decide +kernel⟩
def m_l_number : MS :=
    (dSeq (dAsg (dCall S_l_floor (dCons (dVar 2) dNil)) (gdName 4))
    (dSeq (dIfS (dtOr (dtVal (dBin kEqI (dVar 1) (dC (.int 0)))) (dtVal (dBin kEqI (dBin kMul (dVar 4) (dVar 4)) (dVar 2)))) (dRet (dCall S_l_lean (dCons (dBin kAdd (dVar 0) (dBin kMul (dVar 1) (dVar 4))) (dCons (dVar 3) dNil)))) dNext)
    (dSeq (dPar3 5 6 7 (dCons (dBin kMul (dVar 3) (dVar 3)) (dCons (dBin kSub (dC (.int 0)) (dBin kMul (dBin kMul (dC (.int 2)) (dVar 3)) (dVar 0))) (dCons (dBin kSub (dBin kMul (dVar 0) (dVar 0)) (dBin kMul (dBin kMul (dVar 1) (dVar 1)) (dVar 2))) dNil))))
    (dSeq (dAsg (dCall S_l_divisor (dCons (dVar 5) (dCons (dCall S_l_divisor (dCons (dVar 6) (dCons (dVar 7) dNil))) dNil))) (gdName 8))
    (dRet (dTup (dCons (dBin kFdiv (dVar 5) (dVar 8)) (dCons (dBin kFdiv (dVar 6) (dVar 8)) (dCons (dBin kFdiv (dVar 7) (dVar 8)) (dCons (dBin kGt (dVar 1) (dC (.int 0))) dNil))))))))))
/-! _law_told -/
abbrev s_l_told : Stmt := topS 92
abbrev N_l_told : List Str := ["_law_spot_here", "_law_a", "_law_b", "_law_e", "_law_f", "_law_r", "_law_d"]
theorem sc_l_told : FnScope N_l_told ["_law_spot_here"] (defScope s_l_told) := ⟨rfl, rfl, rfl, by decide +kernel, rfl, by decide +kernel, by decide +kernel⟩
def m_l_told : MS :=
    (dSeq (dAsg (dVar 0) (gdTup 6 (gdCons (gdName 1) (gdCons (gdName 2) (gdCons (gdName 3) (gdCons (gdName 4) (gdCons (gdName 5) (gdCons (gdName 6) gdNil))))))))
    (dRet (dTup (dCons (dCall S_l_number (dCons (dVar 1) (dCons (dVar 2) (dCons (dVar 5) (dCons (dVar 6) dNil))))) (dCons (dCall S_l_number (dCons (dVar 3) (dCons (dVar 4) (dCons (dVar 5) (dCons (dVar 6) dNil))))) dNil)))))
/-! _law_flat -/
abbrev s_l_flat : Stmt := topS 93
abbrev N_l_flat : List Str := ["_law_bow_here", "_law_one", "_law_two", "_law_three", "_law_both_here", "_law_wide", "_law_tall", "_law_a", "_law_b", "_law_c"]
theorem sc_l_flat : FnScope N_l_flat ["_law_bow_here"] (defScope s_l_flat) := ⟨rfl, rfl, rfl, by decide +kernel, rfl, by decide +kernel, by decide +kernel⟩
def m_l_flat : MS :=
    (dSeq (dAsg (dCut (some 1) none (dVar 0)) (gdTup 3 (gdCons (gdName 1) (gdCons (gdName 2) (gdCons (gdName 3) gdNil)))))
    (dSeq (dIfS (dtVal (dBin (kEqS false) (dBin kIx (dVar 0) (dC (.int 0))) (dC (.str "line")))) (dSeq (dAsg (dBin kMul (dBin kIx (dVar 1) (dC (.int 1))) (dBin kIx (dVar 2) (dC (.int 1)))) (gdName 4))
    (dRet (dTup (dCons (dC (.int 0)) (dCons (dBin kMul (dBin kMul (dBin kIx (dVar 1) (dC (.int 0))) (dBin kIx (dVar 2) (dC (.int 1)))) (dBin kIx (dVar 3) (dC (.int 1)))) (dCons (dBin kMul (dBin kMul (dBin kIx (dVar 2) (dC (.int 0))) (dBin kIx (dVar 1) (dC (.int 1)))) (dBin kIx (dVar 3) (dC (.int 1)))) (dCons (dBin kSub (dC (.int 0)) (dBin kMul (dBin kIx (dVar 3) (dC (.int 0))) (dVar 4))) dNil))))))) dNext)
    (dSeq (dPar 5 6 (dCons (dBin kMul (dBin kIx (dVar 1) (dC (.int 1))) (dBin kIx (dVar 1) (dC (.int 1)))) (dCons (dBin kMul (dBin kIx (dVar 2) (dC (.int 1))) (dBin kIx (dVar 2) (dC (.int 1)))) dNil)))
    (dSeq (dPar 7 8 (dCons (dBin kSub (dC (.int 0)) (dBin kMul (dBin kMul (dBin kMul (dBin kMul (dC (.int 2)) (dBin kIx (dVar 1) (dC (.int 0)))) (dBin kIx (dVar 1) (dC (.int 1)))) (dVar 6)) (dBin kIx (dVar 3) (dC (.int 1))))) (dCons (dBin kSub (dC (.int 0)) (dBin kMul (dBin kMul (dBin kMul (dBin kMul (dC (.int 2)) (dBin kIx (dVar 2) (dC (.int 0)))) (dBin kIx (dVar 2) (dC (.int 1)))) (dVar 5)) (dBin kIx (dVar 3) (dC (.int 1))))) dNil)))
    (dSeq (dAsg (dBin kSub (dBin kMul (dBin kAdd (dBin kMul (dBin kMul (dBin kIx (dVar 1) (dC (.int 0))) (dBin kIx (dVar 1) (dC (.int 0)))) (dVar 6)) (dBin kMul (dBin kMul (dBin kIx (dVar 2) (dC (.int 0))) (dBin kIx (dVar 2) (dC (.int 0)))) (dVar 5))) (dBin kIx (dVar 3) (dC (.int 1)))) (dBin kMul (dBin kMul (dBin kIx (dVar 3) (dC (.int 0))) (dVar 5)) (dVar 6))) (gdName 9))
    (dRet (dTup (dCons (dBin kMul (dBin kMul (dVar 5) (dVar 6)) (dBin kIx (dVar 3) (dC (.int 1)))) (dCons (dVar 7) (dCons (dVar 8) (dCons (dVar 9) dNil)))))))))))
/-! _law_at -/
abbrev s_l_at : Stmt := topS 94
abbrev N_l_at : List Str := ["_law_flat_here", "_law_spot_here", "_law_k", "_law_a", "_law_b", "_law_c", "_law_x", "_law_u", "_law_y", "_law_v", "_law_r", "_law_d", "_law_one"]
theorem sc_l_at : FnScope N_l_at ["_law_flat_here", "_law_spot_here"] (defScope s_l_at) := ⟨rfl, rfl, rfl, by decide +kernel, rfl, by decide +kernel, by decide +kernel⟩
def m_l_at : MS :=
    (dSeq (dAsg (dVar 0) (gdTup 4 (gdCons (gdName 2) (gdCons (gdName 3) (gdCons (gdName 4) (gdCons (gdName 5) gdNil))))))
    (dSeq (dAsg (dVar 1) (gdTup 6 (gdCons (gdName 6) (gdCons (gdName 7) (gdCons (gdName 8) (gdCons (gdName 9) (gdCons (gdName 10) (gdCons (gdName 11) gdNil))))))))
    (dSeq (dAsg (dBin kAdd (dBin kAdd (dBin kMul (dVar 2) (dBin kAdd (dBin kAdd (dBin kMul (dVar 6) (dVar 6)) (dBin kMul (dVar 8) (dVar 8))) (dBin kMul (dVar 10) (dBin kAdd (dBin kMul (dVar 7) (dVar 7)) (dBin kMul (dVar 9) (dVar 9)))))) (dBin kMul (dVar 11) (dBin kAdd (dBin kMul (dVar 3) (dVar 6)) (dBin kMul (dVar 4) (dVar 8))))) (dBin kMul (dBin kMul (dVar 11) (dVar 11)) (dVar 5))) (gdName 12))
    (dRet (dCall S_l_sign (dCons (dVar 12) (dCons (dBin kAdd (dBin kMul (dBin kMul (dC (.int 2)) (dVar 2)) (dBin kAdd (dBin kMul (dVar 6) (dVar 7)) (dBin kMul (dVar 8) (dVar 9)))) (dBin kMul (dVar 11) (dBin kAdd (dBin kMul (dVar 3) (dVar 7)) (dBin kMul (dVar 4) (dVar 9))))) (dCons (dVar 10) dNil))))))))
/-! _law_on_line -/
abbrev s_l_on_line : Stmt := topS 95
abbrev N_l_on_line : List Str := ["_law_flat_here", "_law_ring_here", "_law_a", "_law_b", "_law_c", "_law_k", "_law_e", "_law_f", "_law_g", "_law_many", "_law_lean_here", "_law_r", "_law_x", "_law_y", "_law_d"]
theorem sc_l_on_line : FnScope N_l_on_line ["_law_flat_here", "_law_ring_here"] (defScope s_l_on_line) := ⟨rfl, rfl, rfl, by decide +kernel, rfl, by decide +kernel, by decide +kernel⟩
def m_l_on_line : MS :=
    (dSeq (dAsg (dCut (some 1) none (dVar 0)) (gdTup 3 (gdCons (gdName 2) (gdCons (gdName 3) (gdCons (gdName 4) gdNil)))))
    (dSeq (dAsg (dVar 1) (gdTup 4 (gdCons (gdName 5) (gdCons (gdName 6) (gdCons (gdName 7) (gdCons (gdName 8) gdNil))))))
    (dSeq (dPar 9 10 (dCons (dBin kAdd (dBin kMul (dVar 2) (dVar 2)) (dBin kMul (dVar 3) (dVar 3))) (dCons (dBin kSub (dBin kMul (dVar 7) (dVar 2)) (dBin kMul (dVar 6) (dVar 3))) dNil)))
    (dSeq (dAsg (dBin kSub (dBin kMul (dVar 10) (dVar 10)) (dBin kMul (dBin kMul (dC (.int 4)) (dVar 5)) (dBin kAdd (dBin kSub (dBin kMul (dBin kMul (dVar 5) (dVar 4)) (dVar 4)) (dBin kMul (dVar 4) (dBin kAdd (dBin kMul (dVar 6) (dVar 2)) (dBin kMul (dVar 7) (dVar 3))))) (dBin kMul (dVar 8) (dVar 9))))) (gdName 11))
    (dSeq (dPar3 12 13 14 (dCons (dBin kSub (dBin kMul (dVar 3) (dVar 10)) (dBin kMul (dBin kMul (dBin kMul (dC (.int 2)) (dVar 5)) (dVar 2)) (dVar 4))) (dCons (dBin kSub (dBin kSub (dC (.int 0)) (dBin kMul (dVar 2) (dVar 10))) (dBin kMul (dBin kMul (dBin kMul (dC (.int 2)) (dVar 5)) (dVar 3)) (dVar 4))) (dCons (dBin kMul (dBin kMul (dC (.int 2)) (dVar 5)) (dVar 9)) dNil))))
    (dSeq (dIfS (dtVal (dBin kLt (dVar 11) (dC (.int 0)))) (dRet (dLst dNil)) dNext)
    (dRet (dIf (dtVal (dBin kEqI (dVar 11) (dC (.int 0)))) (dLst (dCons (dTup (dCons (dVar 12) (dCons (dC (.int 0)) (dCons (dVar 13) (dCons (dC (.int 0)) (dCons (dC (.int 0)) (dCons (dVar 14) dNil))))))) dNil)) (dLst (dCons (dTup (dCons (dVar 12) (dCons (dVar 3) (dCons (dVar 13) (dCons (dBin kSub (dC (.int 0)) (dVar 2)) (dCons (dVar 11) (dCons (dVar 14) dNil))))))) (dCons (dTup (dCons (dVar 12) (dCons (dBin kSub (dC (.int 0)) (dVar 3)) (dCons (dVar 13) (dCons (dVar 2) (dCons (dVar 11) (dCons (dVar 14) dNil))))))) dNil)))))))))))
/-! _law_meet -/
abbrev s_l_meet : Stmt := topS 96
abbrev N_l_meet : List Str := ["_law_one", "_law_two", "_law_flat_here", "_law_d", "_law_by", "_law_x", "_law_y", "_law_here", "_law_far"]
theorem sc_l_meet : FnScope N_l_meet ["_law_one", "_law_two"] (defScope s_l_meet) := ⟨rfl, rfl, rfl, by decide +kernel, rfl, by decide +kernel, by decide +kernel⟩
def m_l_meet : MS :=
    (dSeq (dIfS (dtAnd (dtVal (dBin kGt (dBin kIx (dVar 0) (dC (.int 0))) (dC (.int 0)))) (dtVal (dBin kGt (dBin kIx (dVar 1) (dC (.int 0))) (dC (.int 0))))) (dSeq (dAsg (dLcZ 7 8 (dCons (dVar 0) (dCons (dVar 1) dNil)) (dBin kSub (dBin kMul (dBin kIx (dVar 0) (dC (.int 0))) (dVar 8)) (dBin kMul (dBin kIx (dVar 1) (dC (.int 0))) (dVar 7)))) (gdName 2))
    (dRet (dIf (dtAnd (dtVal (dBin kEqI (dBin kIx (dVar 2) (dC (.int 1))) (dC (.int 0)))) (dtVal (dBin kEqI (dBin kIx (dVar 2) (dC (.int 2))) (dC (.int 0))))) (dLst dNil) (dCall S_l_on_line (dCons (dVar 2) (dCons (dVar 0) dNil)))))) dNext)
    (dSeq (dIfS (dtOr (dtVal (dBin kGt (dBin kIx (dVar 0) (dC (.int 0))) (dC (.int 0)))) (dtVal (dBin kGt (dBin kIx (dVar 1) (dC (.int 0))) (dC (.int 0))))) (dRet (dIf (dtVal (dBin kGt (dBin kIx (dVar 0) (dC (.int 0))) (dC (.int 0)))) (dCall S_l_on_line (dCons (dVar 1) (dCons (dVar 0) dNil))) (dCall S_l_on_line (dCons (dVar 0) (dCons (dVar 1) dNil))))) dNext)
    (dSeq (dAsg (dBin kSub (dBin kMul (dBin kIx (dVar 0) (dC (.int 1))) (dBin kIx (dVar 1) (dC (.int 2)))) (dBin kMul (dBin kIx (dVar 1) (dC (.int 1))) (dBin kIx (dVar 0) (dC (.int 2))))) (gdName 3))
    (dSeq (dAsg (dCall S_l_side (dCons (dVar 3) dNil)) (gdName 4))
    (dSeq (dPar 5 6 (dCons (dBin kSub (dBin kMul (dBin kIx (dVar 0) (dC (.int 2))) (dBin kIx (dVar 1) (dC (.int 3)))) (dBin kMul (dBin kIx (dVar 1) (dC (.int 2))) (dBin kIx (dVar 0) (dC (.int 3))))) (dCons (dBin kSub (dBin kMul (dBin kIx (dVar 0) (dC (.int 3))) (dBin kIx (dVar 1) (dC (.int 1)))) (dBin kMul (dBin kIx (dVar 1) (dC (.int 3))) (dBin kIx (dVar 0) (dC (.int 1))))) dNil)))
    (dRet (dIf (dtVal (dBin kEqI (dVar 3) (dC (.int 0)))) (dLst dNil) (dLst (dCons (dTup (dCons (dBin kMul (dVar 4) (dVar 5)) (dCons (dC (.int 0)) (dCons (dBin kMul (dVar 4) (dVar 6)) (dCons (dC (.int 0)) (dCons (dC (.int 0)) (dCons (dBin kMul (dVar 4) (dVar 3)) dNil))))))) dNil)))))))))
/-! _law_after -/
abbrev s_l_after : Stmt := topS 97
abbrev N_l_after : List Str := ["_law_one", "_law_two", "_law_found"]
theorem sc_l_after : FnScope N_l_after ["_law_one", "_law_two"] (defScope s_l_after) := ⟨rfl, rfl, rfl, by decide +kernel, rfl, by decide +kernel, by decide +kernel⟩
def m_l_after : MS :=
    (dSeq (dAsg (dCall S_l_order (dCons (dBin kCatT (dCut none (some 2) (dVar 0)) (dCut (some 4) none (dVar 0))) (dCons (dBin kCatT (dCut none (some 2) (dVar 1)) (dCut (some 4) none (dVar 1))) dNil))) (gdName 2))
    (dRet (dIf (dtVal (dBin kNeI (dVar 2) (dC (.int 0)))) (dVar 2) (dCall S_l_order (dCons (dCut (some 2) none (dVar 0)) (dCons (dCut (some 2) none (dVar 1)) dNil))))))
/-! _law_small -/
abbrev s_l_small : Stmt := topS 99
abbrev N_l_small : List Str := ["_law_well_here", "_law_branch"]
theorem sc_l_small : FnScope N_l_small ["_law_well_here"] (defScope s_l_small) := ⟨rfl, rfl, rfl, by decide +kernel, rfl, by decide +kernel, by decide +kernel⟩
def m_l_small : MS :=
    (dSeq (dAsg (dCall S_l_draw (dCons (dVar 0) (dCons (dC (.int 40)) dNil))) (gdName 1))
    (dSeq (dIfS (dtAnd (dtVal (dBin kEqI (dVar 1) (dC (.int 39)))) (dtVal (dBin kGt (dWIx 0) (dC (.int 0))))) (dSeq (dWSet 0 (dC (.int 0)))
    (dRet (dCall S_l_lean (dCons (dBin kSub (dCall S_l_draw (dCons (dVar 0) (dCons (dC (.int 300017)) dNil))) (dC (.int 150008))) (dCons (dBin kAdd (dC (.int 1)) (dCall S_l_draw (dCons (dVar 0) (dCons (dC (.int 7)) dNil)))) dNil))))) dNext)
    (dSeq (dIfS (dtVal (dBin kGt (dVar 1) (dC (.int 34)))) (dRet (dCall S_l_lean (dCons (dBin kSub (dCall S_l_draw (dCons (dVar 0) (dCons (dC (.int 9)) dNil))) (dC (.int 4))) (dCons (dBin kAdd (dC (.int 2)) (dCall S_l_draw (dCons (dVar 0) (dCons (dC (.int 3)) dNil)))) dNil)))) dNext)
    (dRet (dTup (dCons (dBin kIx (dTup (dCons (dC (.int 0)) (dCons (dC (.int 1)) (dCons (dNeg (dC (.int 1))) (dCons (dC (.int 2)) (dCons (dC (.int 0)) (dCons (dC (.int 1)) (dCons (dNeg (dC (.int 2))) (dCons (dC (.int 3)) dNil))))))))) (dCall S_l_draw (dCons (dVar 0) (dCons (dC (.int 8)) dNil)))) (dCons (dC (.int 1)) dNil)))))))
/-! _law_form -/
abbrev s_l_form : Stmt := topS 100
abbrev N_l_form : List Str := ["_law_a", "_law_b", "_law_c", "_law_one", "_law_two", "_law_three", "_law_by"]
theorem sc_l_form : FnScope N_l_form ["_law_a", "_law_b", "_law_c"] (defScope s_l_form) := ⟨rfl, rfl, rfl, by decide +kernel, rfl, by decide +kernel, by decide +kernel⟩
def m_l_form : MS :=
    (dSeq (dPar3 3 4 5 (dCons (dBin kMul (dBin kMul (dBin kIx (dVar 0) (dC (.int 0))) (dBin kIx (dVar 1) (dC (.int 1)))) (dBin kIx (dVar 2) (dC (.int 1)))) (dCons (dBin kMul (dBin kMul (dBin kIx (dVar 1) (dC (.int 0))) (dBin kIx (dVar 0) (dC (.int 1)))) (dBin kIx (dVar 2) (dC (.int 1)))) (dCons (dBin kMul (dBin kMul (dBin kIx (dVar 2) (dC (.int 0))) (dBin kIx (dVar 0) (dC (.int 1)))) (dBin kIx (dVar 1) (dC (.int 1)))) dNil))))
    (dSeq (dAsg (dCall S_l_divisor (dCons (dVar 3) (dCons (dCall S_l_divisor (dCons (dVar 4) (dCons (dVar 5) dNil))) dNil))) (gdName 6))
    (dSeq (dIfS (dtOr (dtVal (dBin kLt (dVar 3) (dC (.int 0)))) (dtAnd (dtVal (dBin kEqI (dVar 3) (dC (.int 0)))) (dtVal (dBin kLt (dVar 4) (dC (.int 0)))))) (dAsg (dBin kSub (dC (.int 0)) (dVar 6)) (gdName 6)) dNext)
    (dRet (dTup (dCons (dC (.str "line")) (dCons (dTup (dCons (dBin kFdiv (dVar 3) (dVar 6)) (dCons (dC (.int 1)) dNil))) (dCons (dTup (dCons (dBin kFdiv (dVar 4) (dVar 6)) (dCons (dC (.int 1)) dNil))) (dCons (dTup (dCons (dBin kFdiv (dVar 5) (dVar 6)) (dCons (dC (.int 1)) dNil))) dNil)))))))))
/-! _law_norm -/
abbrev s_l_norm : Stmt := topS 101
abbrev N_l_norm : List Str := ["_law_one", "_law_two"]
theorem sc_l_norm : FnScope N_l_norm ["_law_one", "_law_two"] (defScope s_l_norm) := ⟨rfl, rfl, rfl, by decide +kernel, rfl, by decide +kernel, by decide +kernel⟩
def m_l_norm : MS :=
    (dRet (dCall S_l_sum (dCons (dCall S_l_product (dCons (dVar 0) (dCons (dVar 0) dNil))) (dCons (dCall S_l_product (dCons (dVar 1) (dCons (dVar 1) dNil))) dNil))))
/-! _law_line -/
abbrev s_l_line : Stmt := topS 102
abbrev N_l_line : List Str := ["_law_well_here", "_law_hub", "_law_aim", "_law_branch", "_law_one", "_law_two"]
theorem sc_l_line : FnScope N_l_line ["_law_well_here", "_law_hub", "_law_aim"] (defScope s_l_line) := ⟨rfl, rfl, rfl, by decide +kernel, rfl, by decide +kernel, by decide +kernel⟩
def m_l_line : MS :=
    (dSeq (dAsg (dCall S_l_draw (dCons (dVar 0) (dCons (dC (.int 5)) dNil))) (gdName 3))
    (dSeq (dIfS (dtVal (dBin kGt (dVar 3) (dC (.int 1)))) (dSeq (dAsg (dCall S_l_pick (dCons (dVar 0) (dCons (dTup (dCons (dTup (dCons (dC (.int 1)) (dCons (dC (.int 0)) dNil))) (dCons (dTup (dCons (dC (.int 0)) (dCons (dC (.int 1)) dNil))) (dCons (dTup (dCons (dC (.int 1)) (dCons (dC (.int 0)) dNil))) (dCons (dTup (dCons (dC (.int 1)) (dCons (dC (.int 1)) dNil))) (dCons (dTup (dCons (dC (.int 1)) (dCons (dNeg (dC (.int 1))) dNil))) (dCons (dTup (dCons (dC (.int 2)) (dCons (dC (.int 1)) dNil))) (dCons (dTup (dCons (dC (.int 1)) (dCons (dNeg (dC (.int 2))) dNil))) (dCons (dTup (dCons (dC (.int 3)) (dCons (dC (.int 4)) dNil))) (dCons (dTup (dCons (dC (.int 0)) (dCons (dC (.int 1)) dNil))) dNil)))))))))) dNil))) (gdTup 2 (gdCons (gdName 4) (gdCons (gdName 5) gdNil))))
    (dAsg (dTup (dCons (dTup (dCons (dVar 4) (dCons (dC (.int 1)) dNil))) (dCons (dTup (dCons (dVar 5) (dCons (dC (.int 1)) dNil))) dNil))) (gdName 2))) dNext)
    (dSeq (dIfS (dtVal (dBin kGt (dVar 3) (dC (.int 2)))) (dRet (dCall S_l_form (dCons (dBin kIx (dVar 2) (dC (.int 0))) (dCons (dBin kIx (dVar 2) (dC (.int 1))) (dCons (dCall S_l_small (dCons (dVar 0) dNil)) dNil))))) dNext)
    (dRet (dCall S_l_form (dCons (dBin kIx (dVar 2) (dC (.int 0))) (dCons (dBin kIx (dVar 2) (dC (.int 1))) (dCons (dCall S_l_sum (dCons (dCall S_l_product (dCons (dBin kIx (dVar 2) (dC (.int 0))) (dCons (dBin kIx (dVar 1) (dC (.int 0))) dNil))) (dCons (dCall S_l_product (dCons (dBin kIx (dVar 2) (dC (.int 1))) (dCons (dBin kIx (dVar 1) (dC (.int 1))) dNil))) dNil))) dNil))))))))
/-! _law_ring -/
abbrev s_l_ring : Stmt := topS 103
abbrev N_l_ring : List Str := ["_law_well_here", "_law_hub", "_law_aim", "_law_branch", "_law_by", "_law_more", "_law_x", "_law_y", "_law_square"]
theorem sc_l_ring : FnScope N_l_ring ["_law_well_here", "_law_hub", "_law_aim"] (defScope s_l_ring) := ⟨rfl, rfl, rfl, by decide +kernel, rfl, by decide +kernel, by decide +kernel⟩
def m_l_ring : MS :=
    (dSeq (dAsg (dCall S_l_draw (dCons (dVar 0) (dCons (dC (.int 5)) dNil))) (gdName 3))
    (dSeq (dIfS (dtVal (dBin kLt (dVar 3) (dC (.int 2)))) (dSeq (dAsg (dCall S_l_pick (dCons (dVar 0) (dCons (dTup (dCons (dTup (dCons (dC (.int 1)) (dCons (dC (.int 1)) dNil))) (dCons (dTup (dCons (dNeg (dC (.int 1))) (dCons (dC (.int 1)) dNil))) (dCons (dTup (dCons (dC (.int 2)) (dCons (dC (.int 1)) dNil))) (dCons (dTup (dCons (dNeg (dC (.int 2))) (dCons (dC (.int 1)) dNil))) (dCons (dTup (dCons (dC (.int 1)) (dCons (dC (.int 2)) dNil))) (dCons (dTup (dCons (dNeg (dC (.int 1))) (dCons (dC (.int 2)) dNil))) (dCons (dTup (dCons (dC (.int 3)) (dCons (dC (.int 1)) dNil))) dNil)))))))) dNil))) (gdName 4))
    (dSeq (dAsg (dTup (dCons (dCall S_l_product (dCons (dVar 4) (dCons (dBin kIx (dVar 2) (dC (.int 0))) dNil))) (dCons (dCall S_l_product (dCons (dVar 4) (dCons (dBin kIx (dVar 2) (dC (.int 1))) dNil))) dNil))) (gdName 5))
    (dRet (dTup (dCons (dC (.str "circle")) (dCons (dCall S_l_sum (dCons (dBin kIx (dVar 1) (dC (.int 0))) (dCons (dBin kIx (dVar 5) (dC (.int 0))) dNil))) (dCons (dCall S_l_sum (dCons (dBin kIx (dVar 1) (dC (.int 1))) (dCons (dBin kIx (dVar 5) (dC (.int 1))) dNil))) (dCons (dCall S_l_norm (dCons (dBin kIx (dVar 5) (dC (.int 0))) (dCons (dBin kIx (dVar 5) (dC (.int 1))) dNil))) dNil)))))))) dNext)
    (dSeq (dPar 6 7 (dCons (dCall S_l_small (dCons (dVar 0) dNil)) (dCons (dCall S_l_small (dCons (dVar 0) dNil)) dNil)))
    (dSeq (dIfS (dtAnd (dtVal (dBin kEqI (dVar 3) (dC (.int 2)))) (dtVal (dBin kNe (dTup (dCons (dVar 6) (dCons (dVar 7) dNil))) (dVar 1)))) (dSeq (dAsg (dCall S_l_norm (dCons (dCall S_l_sum (dCons (dVar 6) (dCons (dTup (dCons (dBin kSub (dC (.int 0)) (dBin kIx (dBin kIx (dVar 1) (dC (.int 0))) (dC (.int 0)))) (dCons (dBin kIx (dBin kIx (dVar 1) (dC (.int 0))) (dC (.int 1))) dNil))) dNil))) (dCons (dCall S_l_sum (dCons (dVar 7) (dCons (dTup (dCons (dBin kSub (dC (.int 0)) (dBin kIx (dBin kIx (dVar 1) (dC (.int 1))) (dC (.int 0)))) (dCons (dBin kIx (dBin kIx (dVar 1) (dC (.int 1))) (dC (.int 1))) dNil))) dNil))) dNil))) (gdName 8))
    (dRet (dTup (dCons (dC (.str "circle")) (dCons (dVar 6) (dCons (dVar 7) (dCons (dVar 8) dNil))))))) dNext)
    (dRet (dTup (dCons (dC (.str "circle")) (dCons (dVar 6) (dCons (dVar 7) (dCons (dCall S_l_pick (dCons (dVar 0) (dCons (dTup (dCons (dTup (dCons (dC (.int 1)) (dCons (dC (.int 1)) dNil))) (dCons (dTup (dCons (dC (.int 4)) (dCons (dC (.int 1)) dNil))) (dCons (dTup (dCons (dC (.int 2)) (dCons (dC (.int 1)) dNil))) (dCons (dTup (dCons (dC (.int 1)) (dCons (dC (.int 4)) dNil))) (dCons (dTup (dCons (dC (.int 9)) (dCons (dC (.int 1)) dNil))) (dCons (dTup (dCons (dC (.int 5)) (dCons (dC (.int 1)) dNil))) (dCons (dTup (dCons (dC (.int 1)) (dCons (dC (.int 1)) dNil))) (dCons (dTup (dCons (dC (.int 3)) (dCons (dC (.int 2)) dNil))) dNil))))))))) dNil))) dNil))))))))))
/-! _law_bow -/
abbrev s_l_bow : Stmt := topS 104
abbrev N_l_bow : List Str := ["_law_well_here", "_law_hub", "_law_aim", "_law_found", "_law_branch", "_law_kind", "_law_x", "_law_y", "_law_last"]
theorem sc_l_bow : FnScope N_l_bow ["_law_well_here", "_law_hub", "_law_aim", "_law_found"] (defScope s_l_bow) := ⟨rfl, rfl, rfl, by decide +kernel, rfl, by decide +kernel, by decide +kernel⟩
def m_l_bow : MS :=
    (dSeq (dAsg (dCall S_l_draw (dCons (dVar 0) (dCons (dC (.int 13)) dNil))) (gdName 4))
    (dSeq (dIfS (dtAnd (dtVal (dBin kGt (dVar 4) (dC (.int 10)))) (dtVal (dBin kNe (dVar 3) (dLst dNil)))) (dSeq (dAsg (dCall S_l_pick (dCons (dVar 0) (dCons (dVar 3) dNil))) (gdTup 4 (gdCons (gdName 5) (gdCons (gdName 6) (gdCons (gdName 7) (gdCons (gdName 8) gdNil))))))
    (dSeq (dIfS (dtVal (dBin (kEqS false) (dVar 5) (dC (.str "line")))) (dRet (dCall S_l_form (dCons (dVar 6) (dCons (dTup (dCons (dBin kSub (dC (.int 0)) (dBin kIx (dVar 7) (dC (.int 0)))) (dCons (dBin kIx (dVar 7) (dC (.int 1))) dNil))) (dCons (dVar 8) dNil))))) dNext)
    (dSeq (dIfS (dtVal (dBin kEqI (dCall S_l_draw (dCons (dVar 0) (dCons (dC (.int 2)) dNil))) (dC (.int 0)))) (dRet (dTup (dCons (dVar 5) (dCons (dVar 6) (dCons (dVar 7) (dCons (dCall S_l_product (dCons (dVar 8) (dCons (dCall S_l_pick (dCons (dVar 0) (dCons (dTup (dCons (dTup (dCons (dC (.int 4)) (dCons (dC (.int 1)) dNil))) (dCons (dTup (dCons (dC (.int 1)) (dCons (dC (.int 4)) dNil))) (dCons (dTup (dCons (dC (.int 2)) (dCons (dC (.int 1)) dNil))) dNil)))) dNil))) dNil))) dNil)))))) dNext)
    (dRet (dTup (dCons (dVar 5) (dCons (dVar 6) (dCons (dCall S_l_sum (dCons (dVar 7) (dCons (dCall S_l_pick (dCons (dVar 0) (dCons (dTup (dCons (dTup (dCons (dC (.int 1)) (dCons (dC (.int 1)) dNil))) (dCons (dTup (dCons (dC (.int 2)) (dCons (dC (.int 1)) dNil))) (dCons (dTup (dCons (dNeg (dC (.int 3))) (dCons (dC (.int 1)) dNil))) (dCons (dTup (dCons (dC (.int 1)) (dCons (dC (.int 2)) dNil))) dNil))))) dNil))) dNil))) (dCons (dVar 8) dNil))))))))) dNext)
    (dRet (dIf (dtVal (dBin kEqI (dBin kMod (dCall kInt (dCons (dVar 4) dNil)) (dC (.int 2))) (dC (.int 0)))) (dCall S_l_line (dCons (dVar 0) (dCons (dVar 1) (dCons (dVar 2) dNil)))) (dCall S_l_ring (dCons (dVar 0) (dCons (dVar 1) (dCons (dVar 2) dNil))))))))
/-! _law_turned -/
abbrev s_l_turned : Stmt := topS 106
abbrev N_l_turned : List Str := ["_law_rule_here", "_law_dot", "_law_one", "_law_two", "_law_x", "_law_y", "_law_back_y", "_law_a", "_law_b"]
theorem sc_l_turned : FnScope N_l_turned ["_law_rule_here", "_law_dot"] (defScope s_l_turned) := ⟨rfl, rfl, rfl, by decide +kernel, rfl, by decide +kernel, by decide +kernel⟩
def m_l_turned : MS :=
    (dSeq (dAsg (dCut none (some 2) (dVar 0)) (gdTup 2 (gdCons (gdName 2) (gdCons (gdName 3) gdNil))))
    (dSeq (dPar 4 5 (dCons (dBin kIx (dVar 1) (dC (.int 0))) (dCons (dIf (dtVal (dBin kIx (dVar 0) (dC (.int 2)))) (dTup (dCons (dBin kSub (dC (.int 0)) (dBin kIx (dBin kIx (dVar 1) (dC (.int 1))) (dC (.int 0)))) (dCons (dBin kIx (dBin kIx (dVar 1) (dC (.int 1))) (dC (.int 1))) dNil))) (dBin kIx (dVar 1) (dC (.int 1)))) dNil)))
    (dSeq (dAsg (dTup (dCons (dBin kSub (dC (.int 0)) (dBin kIx (dVar 5) (dC (.int 0)))) (dCons (dBin kIx (dVar 5) (dC (.int 1))) dNil))) (gdName 6))
    (dSeq (dPar 7 8 (dCons (dCall S_l_sum (dCons (dCall S_l_product (dCons (dVar 2) (dCons (dVar 4) dNil))) (dCons (dCall S_l_product (dCons (dVar 3) (dCons (dVar 6) dNil))) dNil))) (dCons (dCall S_l_product (dCons (dVar 3) (dCons (dVar 4) dNil))) dNil)))
    (dRet (dTup (dCons (dVar 7) (dCons (dCall S_l_sum (dCons (dVar 8) (dCons (dCall S_l_product (dCons (dVar 2) (dCons (dVar 5) dNil))) dNil))) dNil))))))))
/-! _law_led -/
abbrev s_l_led : Stmt := topS 107
abbrev N_l_led : List Str := ["_law_rule_here", "_law_bow_here", "_law_square", "_law_spot_here", "_law_shift", "_law_last", "_law_more"]
theorem sc_l_led : FnScope N_l_led ["_law_rule_here", "_law_bow_here"] (defScope s_l_led) := ⟨rfl, rfl, rfl, by decide +kernel, rfl, by decide +kernel, by decide +kernel⟩
def m_l_led : MS :=
    (dSeq (dPar3 2 3 4 (dCons (dCall S_l_norm (dCons (dBin kIx (dVar 0) (dC (.int 0))) (dCons (dBin kIx (dVar 0) (dC (.int 1))) dNil))) (dCons (dCall S_l_turned (dCons (dVar 0) (dCons (dCut (some 1) (some 3) (dVar 1)) dNil))) (dCons (dBin kIx (dVar 0) (dC (.int 3))) dNil))))
    (dSeq (dAsg (dCall S_l_product (dCons (dVar 2) (dCons (dBin kIx (dVar 1) (dC (.int 3))) dNil))) (gdName 5))
    (dSeq (dIfS (dtVal (dBin (kEqS false) (dBin kIx (dVar 1) (dC (.int 0))) (dC (.str "circle")))) (dRet (dTup (dCons (dC (.str "circle")) (dCons (dCall S_l_sum (dCons (dBin kIx (dVar 3) (dC (.int 0))) (dCons (dBin kIx (dVar 4) (dC (.int 0))) dNil))) (dCons (dCall S_l_sum (dCons (dBin kIx (dVar 3) (dC (.int 1))) (dCons (dBin kIx (dVar 4) (dC (.int 1))) dNil))) (dCons (dVar 5) dNil)))))) dNext)
    (dSeq (dAsg (dCall S_l_sum (dCons (dCall S_l_product (dCons (dBin kIx (dVar 3) (dC (.int 0))) (dCons (dBin kIx (dVar 4) (dC (.int 0))) dNil))) (dCons (dCall S_l_product (dCons (dBin kIx (dVar 3) (dC (.int 1))) (dCons (dBin kIx (dVar 4) (dC (.int 1))) dNil))) dNil))) (gdName 6))
    (dRet (dTup (dCons (dC (.str "line")) (dCons (dBin kIx (dVar 3) (dC (.int 0))) (dCons (dBin kIx (dVar 3) (dC (.int 1))) (dCons (dCall S_l_sum (dCons (dVar 5) (dCons (dVar 6) dNil))) dNil))))))))))
/-! _law_undone -/
abbrev s_l_undone : Stmt := topS 108
abbrev N_l_undone : List Str := ["_law_rule_here", "_law_low", "_law_by", "_law_one", "_law_two", "_law_found", "_law_x", "_law_y"]
theorem sc_l_undone : FnScope N_l_undone ["_law_rule_here"] (defScope s_l_undone) := ⟨rfl, rfl, rfl, by decide +kernel, rfl, by decide +kernel, by decide +kernel⟩
def m_l_undone : MS :=
    (dSeq (dAsg (dCall S_l_norm (dCons (dBin kIx (dVar 0) (dC (.int 0))) (dCons (dBin kIx (dVar 0) (dC (.int 1))) dNil))) (gdName 1))
    (dSeq (dAsg (dTup (dCons (dBin kIx (dVar 1) (dC (.int 1))) (dCons (dBin kIx (dVar 1) (dC (.int 0))) dNil))) (gdName 2))
    (dSeq (dPar 3 4 (dCons (dCall S_l_product (dCons (dBin kIx (dVar 0) (dC (.int 0))) (dCons (dVar 2) dNil))) (dCons (dCall S_l_product (dCons (dBin kIx (dVar 0) (dC (.int 1))) (dCons (dVar 2) dNil))) dNil)))
    (dSeq (dAsg (dTup (dCons (dVar 3) (dCons (dIf (dtVal (dBin kIx (dVar 0) (dC (.int 2)))) (dVar 4) (dTup (dCons (dBin kSub (dC (.int 0)) (dBin kIx (dVar 4) (dC (.int 0)))) (dCons (dBin kIx (dVar 4) (dC (.int 1))) dNil)))) (dCons (dBin kIx (dVar 0) (dC (.int 2))) dNil)))) (gdName 5))
    (dSeq (dAsg (dCall S_l_turned (dCons (dVar 5) (dCons (dBin kIx (dVar 0) (dC (.int 3))) dNil))) (gdTup 2 (gdCons (gdName 6) (gdCons (gdName 7) gdNil))))
    (dRet (dBin kCatT (dVar 5) (dTup (dCons (dTup (dCons (dTup (dCons (dBin kSub (dC (.int 0)) (dBin kIx (dVar 6) (dC (.int 0)))) (dCons (dBin kIx (dVar 6) (dC (.int 1))) dNil))) (dCons (dTup (dCons (dBin kSub (dC (.int 0)) (dBin kIx (dVar 7) (dC (.int 0)))) (dCons (dBin kIx (dVar 7) (dC (.int 1))) dNil))) dNil))) dNil)))))))))
/-! _law_rule -/
abbrev s_l_rule : Stmt := topS 109
abbrev N_l_rule : List Str := ["_law_well_here", "_law_some", "_law_one", "_law_two", "_law_low", "_law_is_mirrored"]
theorem sc_l_rule : FnScope N_l_rule ["_law_well_here"] (defScope s_l_rule) := ⟨rfl, rfl, rfl, by decide +kernel, rfl, by decide +kernel, by decide +kernel⟩
def m_l_rule : MS :=
    (dSeq (dAsg (dTup (dCons (dTup (dCons (dC (.int 1)) (dCons (dC (.int 0)) (dCons (dC (.int 1)) dNil)))) (dCons (dTup (dCons (dC (.int 1)) (dCons (dC (.int 0)) (dCons (dC (.int 1)) dNil)))) (dCons (dTup (dCons (dC (.int 0)) (dCons (dC (.int 1)) (dCons (dC (.int 1)) dNil)))) (dCons (dTup (dCons (dNeg (dC (.int 1))) (dCons (dC (.int 0)) (dCons (dC (.int 1)) dNil)))) (dCons (dTup (dCons (dC (.int 3)) (dCons (dC (.int 4)) (dCons (dC (.int 5)) dNil)))) (dCons (dTup (dCons (dC (.int 2)) (dCons (dC (.int 0)) (dCons (dC (.int 1)) dNil)))) (dCons (dTup (dCons (dC (.int 1)) (dCons (dC (.int 1)) (dCons (dC (.int 1)) dNil)))) (dCons (dTup (dCons (dC (.int 1)) (dCons (dC (.int 0)) (dCons (dC (.int 2)) dNil)))) (dCons (dTup (dCons (dC (.int 0)) (dCons (dNeg (dC (.int 1))) (dCons (dC (.int 1)) dNil)))) dNil)))))))))) (gdName 1))
    (dSeq (dAsg (dCall S_l_pick (dCons (dVar 0) (dCons (dVar 1) dNil))) (gdTup 3 (gdCons (gdName 2) (gdCons (gdName 3) (gdCons (gdName 4) gdNil)))))
    (dSeq (dAsg (dBin kEqI (dCall S_l_draw (dCons (dVar 0) (dCons (dC (.int 3)) dNil))) (dC (.int 0))) (gdName 5))
    (dRet (dTup (dCons (dCall S_l_lean (dCons (dVar 2) (dCons (dVar 4) dNil))) (dCons (dCall S_l_lean (dCons (dVar 3) (dCons (dVar 4) dNil))) (dCons (dVar 5) (dCons (dTup (dCons (dCall S_l_small (dCons (dVar 0) dNil)) (dCons (dCall S_l_small (dCons (dVar 0) dNil)) dNil))) dNil)))))))))
/-! _law_led_spot -/
abbrev s_l_led_spot : Stmt := topS 110
abbrev N_l_led_spot : List Str := ["_law_rule_here", "_law_spot_here", "_law_one", "_law_two", "_law_is_mirrored", "_law_shift", "_law_x", "_law_u", "_law_y", "_law_v", "_law_r", "_law_d", "_law_low", "_law_deep", "_law_a", "_law_b", "_law_far", "_law_high"]
theorem sc_l_led_spot : FnScope N_l_led_spot ["_law_rule_here", "_law_spot_here"] (defScope s_l_led_spot) := ⟨rfl, rfl, rfl, by decide +kernel, rfl, by decide +kernel, by decide +kernel⟩
def m_l_led_spot : MS :=
    (dSeq (dAsg (dVar 0) (gdTup 4 (gdCons (gdName 2) (gdCons (gdName 3) (gdCons (gdName 4) (gdCons (gdName 5) gdNil))))))
    (dSeq (dAsg (dVar 1) (gdTup 6 (gdCons (gdName 6) (gdCons (gdName 7) (gdCons (gdName 8) (gdCons (gdName 9) (gdCons (gdName 10) (gdCons (gdName 11) gdNil))))))))
    (dSeq (dAsg (dIf (dtVal (dVar 4)) (dTup (dCons (dBin kSub (dC (.int 0)) (dVar 8)) (dCons (dBin kSub (dC (.int 0)) (dVar 9)) dNil))) (dTup (dCons (dVar 8) (dCons (dVar 9) dNil)))) (gdTup 2 (gdCons (gdName 8) (gdCons (gdName 9) gdNil))))
    (dSeq (dPar 12 13 (dCons (dBin kMul (dBin kIx (dVar 2) (dC (.int 1))) (dBin kIx (dVar 3) (dC (.int 1)))) (dCons (dBin kMul (dBin kIx (dBin kIx (dVar 5) (dC (.int 0))) (dC (.int 1))) (dBin kIx (dBin kIx (dVar 5) (dC (.int 1))) (dC (.int 1)))) dNil)))
    (dSeq (dPar 14 15 (dCons (dBin kMul (dBin kMul (dBin kIx (dVar 2) (dC (.int 0))) (dBin kIx (dVar 3) (dC (.int 1)))) (dVar 13)) (dCons (dBin kMul (dBin kMul (dBin kIx (dVar 3) (dC (.int 0))) (dBin kIx (dVar 2) (dC (.int 1)))) (dVar 13)) dNil)))
    (dSeq (dPar 16 17 (dCons (dBin kMul (dBin kMul (dBin kMul (dBin kIx (dBin kIx (dVar 5) (dC (.int 0))) (dC (.int 0))) (dBin kIx (dBin kIx (dVar 5) (dC (.int 1))) (dC (.int 1)))) (dVar 12)) (dVar 11)) (dCons (dBin kMul (dBin kMul (dBin kMul (dBin kIx (dBin kIx (dVar 5) (dC (.int 1))) (dC (.int 0))) (dBin kIx (dBin kIx (dVar 5) (dC (.int 0))) (dC (.int 1)))) (dVar 12)) (dVar 11)) dNil)))
    (dRet (dTup (dCons (dBin kAdd (dBin kSub (dBin kMul (dVar 14) (dVar 6)) (dBin kMul (dVar 15) (dVar 8))) (dVar 16)) (dCons (dBin kSub (dBin kMul (dVar 14) (dVar 7)) (dBin kMul (dVar 15) (dVar 9))) (dCons (dBin kAdd (dBin kAdd (dBin kMul (dVar 15) (dVar 6)) (dBin kMul (dVar 14) (dVar 8))) (dVar 17)) (dCons (dBin kAdd (dBin kMul (dVar 15) (dVar 7)) (dBin kMul (dVar 14) (dVar 9))) (dCons (dVar 10) (dCons (dBin kMul (dBin kMul (dVar 12) (dVar 13)) (dVar 11)) dNil))))))))))))))
/-! _law_raw -/
abbrev s_l_raw : Stmt := topS 111
abbrev N_l_raw : List Str := ["_law_x", "_law_y"]
theorem sc_l_raw : FnScope N_l_raw ["_law_x", "_law_y"] (defScope s_l_raw) := ⟨rfl, rfl, rfl, by decide +kernel, rfl, by decide +kernel, by decide +kernel⟩
def m_l_raw : MS :=
    (dRet (dTup (dCons (dBin kMul (dBin kIx (dVar 0) (dC (.int 0))) (dBin kIx (dVar 1) (dC (.int 1)))) (dCons (dC (.int 0)) (dCons (dBin kMul (dBin kIx (dVar 1) (dC (.int 0))) (dBin kIx (dVar 0) (dC (.int 1)))) (dCons (dC (.int 0)) (dCons (dC (.int 0)) (dCons (dBin kMul (dBin kIx (dVar 0) (dC (.int 1))) (dBin kIx (dVar 1) (dC (.int 1)))) dNil))))))))
/-! _law_crossing -/
abbrev s_l_crossing : Stmt := topS 112
abbrev N_l_crossing : List Str := ["_law_well_here", "_law_flats", "_law_more", "_law_some", "_law_one", "_law_two", "_law_found"]
theorem sc_l_crossing : FnScope N_l_crossing ["_law_well_here", "_law_flats", "_law_more"] (defScope s_l_crossing) := ⟨rfl, rfl, rfl, by decide +kernel, rfl, by decide +kernel, by decide +kernel⟩
def m_l_crossing : MS :=
    (dSeq (dAsg (dBin kCatL (dVar 1) (dVar 2)) (gdName 3))
    (dSeq (dPar 4 5 (dCons (dCall S_l_pick (dCons (dVar 0) (dCons (dVar 3) dNil))) (dCons (dCall S_l_pick (dCons (dVar 0) (dCons (dVar 3) dNil))) dNil)))
    (dSeq (dAsg (dIf (dtVal (dBin kEq (dVar 4) (dVar 5))) (dLst dNil) (dCall S_l_meet (dCons (dVar 4) (dCons (dVar 5) dNil)))) (gdName 6))
    (dRet (dIf (dtVal (dBin kEq (dVar 6) (dLst dNil))) (dCall S_l_raw (dCons (dCall S_l_small (dCons (dVar 0) dNil)) (dCons (dCall S_l_small (dCons (dVar 0) dNil)) dNil))) (dCall S_l_pick (dCons (dVar 0) (dCons (dVar 6) dNil))))))))
/-! _law_spot -/
abbrev s_l_spot : Stmt := topS 113
abbrev N_l_spot : List Str := ["_law_well_here", "_law_flats", "_law_marks_here", "_law_branch", "_law_rings", "_law_k", "_law_a", "_law_b", "_law_c", "_law_side_here", "_law_hub", "_law_more", "_law_flat_here"]
theorem sc_l_spot : FnScope N_l_spot ["_law_well_here", "_law_flats", "_law_marks_here"] (defScope s_l_spot) := ⟨rfl, rfl, rfl, by decide +kernel, rfl, by decide +kernel, by decide +kernel⟩
def m_l_spot : MS :=
    (dSeq (dAsg (dCall S_l_draw (dCons (dVar 0) (dCons (dC (.int 7)) dNil))) (gdName 3))
    (dSeq (dAsg (dLcL 12 (dVar 1) (dtVal (dBin kGt (dBin kIx (dVar 12) (dC (.int 0))) (dC (.int 0)))) (dVar 12)) (gdName 4))
    (dSeq (dIfS (dtAnd (dtVal (dBin kLt (dVar 3) (dC (.int 2)))) (dtVal (dBin kNe (dVar 2) (dLst dNil)))) (dRet (dCall S_l_pick (dCons (dVar 0) (dCons (dVar 2) dNil)))) dNext)
    (dSeq (dIfS (dtAnd (dtVal (dBin kEqI (dVar 3) (dC (.int 2)))) (dtVal (dBin kNe (dVar 4) (dLst dNil)))) (dSeq (dAsg (dCall S_l_pick (dCons (dVar 0) (dCons (dVar 4) dNil))) (gdTup 4 (gdCons (gdName 5) (gdCons (gdName 6) (gdCons (gdName 7) (gdCons (gdName 8) gdNil))))))
    (dSeq (dAsg (dCall S_l_pick (dCons (dVar 0) (dCons (dTup (dCons (dTup (dCons (dC (.int 1)) (dCons (dC (.int 0)) dNil))) (dCons (dTup (dCons (dNeg (dC (.int 1))) (dCons (dC (.int 0)) dNil))) (dCons (dTup (dCons (dC (.int 0)) (dCons (dC (.int 1)) dNil))) (dCons (dTup (dCons (dC (.int 0)) (dCons (dNeg (dC (.int 1))) dNil))) dNil))))) dNil))) (gdName 9))
    (dRet (dTup (dCons (dBin kSub (dC (.int 0)) (dVar 6)) (dCons (dBin kIx (dVar 9) (dC (.int 0))) (dCons (dBin kSub (dC (.int 0)) (dVar 7)) (dCons (dBin kIx (dVar 9) (dC (.int 1))) (dCons (dBin kSub (dBin kAdd (dBin kMul (dVar 6) (dVar 6)) (dBin kMul (dVar 7) (dVar 7))) (dBin kMul (dBin kMul (dC (.int 4)) (dVar 5)) (dVar 8))) (dCons (dBin kMul (dC (.int 2)) (dVar 5)) dNil)))))))))) dNext)
    (dSeq (dIfS (dtOr (dtVal (dBin kEqI (dVar 3) (dC (.int 6)))) (dtVal (dBin kEq (dVar 1) (dLst dNil)))) (dRet (dCall S_l_raw (dCons (dCall S_l_small (dCons (dVar 0) dNil)) (dCons (dCall S_l_small (dCons (dVar 0) dNil)) dNil)))) dNext)
    (dSeq (dAsg (dTup (dCons (dCall S_l_small (dCons (dVar 0) dNil)) (dCons (dCall S_l_small (dCons (dVar 0) dNil)) dNil))) (gdName 10))
    (dSeq (dAsg (dLst (dCons (dCall S_l_flat (dCons (dCall S_l_line (dCons (dVar 0) (dCons (dVar 10) (dCons (dTup (dCons (dTup (dCons (dC (.int 1)) (dCons (dC (.int 1)) dNil))) (dCons (dTup (dCons (dC (.int 1)) (dCons (dC (.int 1)) dNil))) dNil))) dNil)))) dNil)) (dCons (dCall S_l_flat (dCons (dCall S_l_ring (dCons (dVar 0) (dCons (dVar 10) (dCons (dTup (dCons (dTup (dCons (dC (.int 1)) (dCons (dC (.int 1)) dNil))) (dCons (dTup (dCons (dC (.int 1)) (dCons (dC (.int 1)) dNil))) dNil))) dNil)))) dNil)) dNil))) (gdName 11))
    (dRet (dCall S_l_crossing (dCons (dVar 0) (dCons (dIf (dtVal (dBin kLt (dVar 3) (dC (.int 5)))) (dVar 1) (dLst dNil)) (dCons (dVar 11) dNil))))))))))))
/-! _law_both -/
abbrev s_l_both : Stmt := topS 114
abbrev N_l_both : List Str := ["_law_rule_here", "_law_more", "_law_one", "_law_two", "_law_x", "_law_y"]
theorem sc_l_both : FnScope N_l_both ["_law_rule_here", "_law_more"] (defScope s_l_both) := ⟨rfl, rfl, rfl, by decide +kernel, rfl, by decide +kernel, by decide +kernel⟩
def m_l_both : MS :=
    (dSeq (dAsg (dCall S_l_turned (dCons (dVar 1) (dCons (dTup (dCons (dBin kIx (dVar 0) (dC (.int 0))) (dCons (dBin kIx (dVar 0) (dC (.int 1))) dNil))) dNil))) (gdTup 2 (gdCons (gdName 2) (gdCons (gdName 3) gdNil))))
    (dSeq (dAsg (dCall S_l_turned (dCons (dVar 1) (dCons (dBin kIx (dVar 0) (dC (.int 3))) dNil))) (gdTup 2 (gdCons (gdName 4) (gdCons (gdName 5) gdNil))))
    (dRet (dTup (dCons (dVar 2) (dCons (dVar 3) (dCons (dBin kNe (dBin kIx (dVar 0) (dC (.int 2))) (dBin kIx (dVar 1) (dC (.int 2)))) (dCons (dTup (dCons (dCall S_l_sum (dCons (dVar 4) (dCons (dBin kIx (dBin kIx (dVar 1) (dC (.int 3))) (dC (.int 0))) dNil))) (dCons (dCall S_l_sum (dCons (dVar 5) (dCons (dBin kIx (dBin kIx (dVar 1) (dC (.int 3))) (dC (.int 1))) dNil))) dNil))) dNil))))))))
/-! _law_moves -/
abbrev s_l_moves : Stmt := topS 115
abbrev N_l_moves : List Str := ["_law_well_here", "_law_dot", "_law_one", "_law_two", "_law_square", "_law_by", "_law_a", "_law_b", "_law_nil", "_law_rule_here"]
theorem sc_l_moves : FnScope N_l_moves ["_law_well_here"] (defScope s_l_moves) := ⟨rfl, rfl, rfl, by decide +kernel, rfl, by decide +kernel, by decide +kernel⟩
def m_l_moves : MS :=
    (dSeq (dPar3 1 2 3 (dCons (dTup (dCons (dCall S_l_small (dCons (dVar 0) dNil)) (dCons (dCall S_l_small (dCons (dVar 0) dNil)) dNil))) (dCons (dCall S_l_small (dCons (dVar 0) dNil)) (dCons (dCall S_l_small (dCons (dVar 0) dNil)) dNil))))
    (dSeq (dIfS (dtVal (dBin (kEqS true) (dCall kRepr (dCons (dCall S_p_move (dCons (dVar 1) dNil)) dNil)) (dCall kRepr (dCons (dTup (dCons (dTup (dCons (dC (.int 1)) (dCons (dC (.int 1)) dNil))) (dCons (dTup (dCons (dC (.int 0)) (dCons (dC (.int 1)) dNil))) (dCons (dC (.bool false)) (dCons (dVar 1) dNil))))) dNil)))) (dRet (dC (.bool false))) dNext)
    (dSeq (dIfS (dtAnd (dtVal (dBin kEqI (dBin kIx (dVar 2) (dC (.int 0))) (dC (.int 0)))) (dtVal (dBin kEqI (dBin kIx (dVar 3) (dC (.int 0))) (dC (.int 0))))) (dRet (dC (.bool true))) dNext)
    (dSeq (dAsg (dCall S_l_norm (dCons (dVar 2) (dCons (dVar 3) dNil))) (gdName 4))
    (dSeq (dAsg (dTup (dCons (dBin kIx (dVar 4) (dC (.int 1))) (dCons (dBin kIx (dVar 4) (dC (.int 0))) dNil))) (gdName 5))
    (dSeq (dAsg (dCall S_l_product (dCons (dVar 5) (dCons (dCall S_l_sum (dCons (dCall S_l_product (dCons (dVar 2) (dCons (dVar 2) dNil))) (dCons (dCall S_l_product (dCons (dVar 3) (dCons (dTup (dCons (dBin kSub (dC (.int 0)) (dBin kIx (dVar 3) (dC (.int 0)))) (dCons (dBin kIx (dVar 3) (dC (.int 1))) dNil))) dNil))) dNil))) dNil))) (gdName 6))
    (dSeq (dPar 7 8 (dCons (dCall S_l_product (dCons (dVar 5) (dCons (dCall S_l_product (dCons (dTup (dCons (dC (.int 2)) (dCons (dC (.int 1)) dNil))) (dCons (dCall S_l_product (dCons (dVar 2) (dCons (dVar 3) dNil))) dNil))) dNil))) (dCons (dTup (dCons (dC (.int 0)) (dCons (dC (.int 1)) dNil))) dNil)))
    (dSeq (dAsg (dIf (dtVal (dBin kEqI (dCall S_l_draw (dCons (dVar 0) (dCons (dC (.int 2)) dNil))) (dC (.int 0)))) (dCall S_p_turn (dCons (dTup (dCons (dVar 2) (dCons (dVar 3) dNil))) dNil)) (dCall (fun ds => S_p_turn ds.reverse) (dCons (dTup (dCons (dVar 2) (dCons (dVar 3) dNil))) dNil))) (gdName 9))
    (dSeq (dIfS (dtVal (dBin (kEqS true) (dCall kRepr (dCons (dVar 9) dNil)) (dCall kRepr (dCons (dTup (dCons (dVar 6) (dCons (dVar 7) (dCons (dC (.bool false)) (dCons (dTup (dCons (dVar 8) (dCons (dVar 8) dNil))) dNil))))) dNil)))) (dRet (dC (.bool false))) dNext)
    (dRet (dBin (kEqS false) (dCall kRepr (dCons (dTup (dCons (dCall S_p_is_rigid (dCons (dVar 9) dNil)) (dCons (dCall S_p_is_lead (dCons (dVar 9) dNil)) (dCons (dCall S_p_led_place (dCons (dVar 9) (dCons (dTup (dCons (dTup (dCons (dC (.int 1)) (dCons (dC (.int 1)) dNil))) (dCons (dVar 8) dNil))) dNil))) dNil)))) dNil)) (dCall kRepr (dCons (dTup (dCons (dC (.bool true)) (dCons (dC (.bool true)) (dCons (dTup (dCons (dVar 6) (dCons (dVar 7) dNil))) dNil)))) dNil)))))))))))))
/-! _law_mirrors -/
abbrev s_l_mirrors : Stmt := topS 116
abbrev N_l_mirrors : List Str := ["_law_well_here", "_law_by", "_law_bow_here", "_law_a", "_law_b", "_law_c", "_law_square", "_law_low", "_law_far", "_law_turned_here", "_law_shift", "_law_due", "_law_rule_here", "_law_dot", "_law_foot", "_law_num"]
theorem sc_l_mirrors : FnScope N_l_mirrors ["_law_well_here"] (defScope s_l_mirrors) := ⟨rfl, rfl, rfl, by decide +kernel, rfl, by decide +kernel, by decide +kernel⟩
def m_l_mirrors : MS :=
    (dSeq (dAsg (dCall S_l_pick (dCons (dVar 0) (dCons (dTup (dCons (dTup (dCons (dC (.int 1)) (dCons (dC (.int 1)) dNil))) (dCons (dTup (dCons (dNeg (dC (.int 1))) (dCons (dC (.int 1)) dNil))) (dCons (dTup (dCons (dC (.int 1)) (dCons (dC (.int 2)) dNil))) (dCons (dTup (dCons (dC (.int 3)) (dCons (dC (.int 1)) dNil))) dNil))))) dNil))) (gdName 1))
    (dSeq (dAsg (dCall S_l_line (dCons (dVar 0) (dCons (dTup (dCons (dCall S_l_small (dCons (dVar 0) dNil)) (dCons (dCall S_l_small (dCons (dVar 0) dNil)) dNil))) (dCons (dTup (dCons (dTup (dCons (dC (.int 1)) (dCons (dC (.int 1)) dNil))) (dCons (dTup (dCons (dC (.int 1)) (dCons (dC (.int 1)) dNil))) dNil))) dNil)))) (gdName 2))
    (dSeq (dAsg (dBin kCatT (dTup (dCons (dC (.str "line")) dNil)) (dCall kTuple (dCons (dLcT 15 (dCut (some 1) none (dVar 2)) dtYes (dCall S_l_product (dCons (dVar 1) (dCons (dVar 15) dNil)))) dNil))) (gdName 2))
    (dSeq (dAsg (dCut (some 1) none (dVar 2)) (gdTup 3 (gdCons (gdName 3) (gdCons (gdName 4) (gdCons (gdName 5) gdNil)))))
    (dSeq (dAsg (dCall S_l_norm (dCons (dVar 3) (dCons (dVar 4) dNil))) (gdName 6))
    (dSeq (dPar 7 8 (dCons (dTup (dCons (dBin kIx (dVar 6) (dC (.int 1))) (dCons (dBin kIx (dVar 6) (dC (.int 0))) dNil))) (dCons (dCall S_l_sum (dCons (dCall S_l_product (dCons (dVar 4) (dCons (dVar 4) dNil))) (dCons (dCall S_l_product (dCons (dVar 3) (dCons (dTup (dCons (dBin kSub (dC (.int 0)) (dBin kIx (dVar 3) (dC (.int 0)))) (dCons (dBin kIx (dVar 3) (dC (.int 1))) dNil))) dNil))) dNil))) dNil)))
    (dSeq (dAsg (dCall S_l_product (dCons (dVar 7) (dCons (dCall S_l_product (dCons (dTup (dCons (dNeg (dC (.int 2))) (dCons (dC (.int 1)) dNil))) (dCons (dCall S_l_product (dCons (dVar 3) (dCons (dVar 4) dNil))) dNil))) dNil))) (gdName 9))
    (dSeq (dAsg (dCall S_l_product (dCons (dVar 7) (dCons (dCall S_l_product (dCons (dTup (dCons (dC (.int 2)) (dCons (dC (.int 1)) dNil))) (dCons (dVar 5) dNil))) dNil))) (gdName 10))
    (dSeq (dAsg (dTup (dCons (dCall S_l_product (dCons (dVar 7) (dCons (dVar 8) dNil))) (dCons (dVar 9) (dCons (dC (.bool true)) (dCons (dTup (dCons (dCall S_l_product (dCons (dVar 10) (dCons (dVar 3) dNil))) (dCons (dCall S_l_product (dCons (dVar 10) (dCons (dVar 4) dNil))) dNil))) dNil))))) (gdName 11))
    (dSeq (dPar 12 13 (dCons (dCall S_p_mirror (dCons (dVar 2) dNil)) (dCons (dTup (dCons (dCall S_l_small (dCons (dVar 0) dNil)) (dCons (dCall S_l_small (dCons (dVar 0) dNil)) dNil))) dNil)))
    (dSeq (dIfS (dtOr (dtVal (dBin (kEqS true) (dCall kRepr (dCons (dVar 12) dNil)) (dCall kRepr (dCons (dVar 11) dNil)))) (dtVal (dBin (kEqS true) (dCall kRepr (dCons (dCall (fun ds => S_p_mirror ds.reverse) (dCons (dVar 2) dNil)) dNil)) (dCall kRepr (dCons (dVar 11) dNil))))) (dRet (dC (.bool false))) dNext)
    (dSeq (dIfS (dtOr (dtVal (dBin (kEqS true) (dCall kRepr (dCons (dCall S_p_led_place (dCons (dVar 11) (dCons (dCall S_p_led_place (dCons (dVar 11) (dCons (dVar 13) dNil))) dNil))) dNil)) (dCall kRepr (dCons (dVar 13) dNil)))) (dtNot (dtVal (dCall S_p_is_rigid (dCons (dVar 11) dNil))))) (dRet (dC (.bool false))) dNext)
    (dSeq (dAsg (dTup (dCons (dCall S_l_product (dCons (dCall S_l_product (dCons (dVar 10) (dCons (dTup (dCons (dC (.int 1)) (dCons (dC (.int 2)) dNil))) dNil))) (dCons (dVar 3) dNil))) (dCons (dCall S_l_product (dCons (dCall S_l_product (dCons (dVar 10) (dCons (dTup (dCons (dC (.int 1)) (dCons (dC (.int 2)) dNil))) dNil))) (dCons (dVar 4) dNil))) dNil))) (gdName 14))
    (dRet (dBin (kEqS false) (dCall kRepr (dCons (dCall S_p_led_place (dCons (dVar 11) (dCons (dVar 14) dNil))) dNil)) (dCall kRepr (dCons (dVar 14) dNil)))))))))))))))))
/-! _law_right -/
abbrev s_l_right : Stmt := topS 117
abbrev N_l_right : List Str := ["_law_well_here", "_law_rule_here", "_law_more", "_law_bows_here", "_law_bow_here", "_law_by", "_law_each", "_law_flats", "_law_spot_here", "_law_there", "_law_far", "_law_due", "_law_told_here", "_law_led_here", "_law_num"]
theorem sc_l_right : FnScope N_l_right ["_law_well_here"] (defScope s_l_right) := ⟨rfl, rfl, rfl, by decide +kernel, rfl, by decide +kernel, by decide +kernel⟩
def m_l_right : MS :=
    (dSeq (dPar3 1 2 3 (dCons (dCall S_l_rule (dCons (dVar 0) dNil)) (dCons (dCall S_l_rule (dCons (dVar 0) dNil)) (dCons (dCall S_l_bows (dCons (dVar 0) (dCons (dC (.int 2)) dNil))) dNil))))
    (dSeq (dAsg (dCall S_l_pick (dCons (dVar 0) (dCons (dVar 3) dNil))) (gdName 4))
    (dSeq (dIfS (dtVal (dBin (kEqS false) (dBin kIx (dVar 4) (dC (.int 0))) (dC (.str "line")))) (dSeq (dAsg (dCall S_l_pick (dCons (dVar 0) (dCons (dTup (dCons (dTup (dCons (dC (.int 1)) (dCons (dC (.int 1)) dNil))) (dCons (dTup (dCons (dNeg (dC (.int 1))) (dCons (dC (.int 1)) dNil))) (dCons (dTup (dCons (dC (.int 1)) (dCons (dC (.int 2)) dNil))) (dCons (dTup (dCons (dNeg (dC (.int 2))) (dCons (dC (.int 3)) dNil))) dNil))))) dNil))) (gdName 5))
    (dAsg (dBin kCatT (dTup (dCons (dC (.str "line")) dNil)) (dCall kTuple (dCons (dLcT 14 (dCut (some 1) none (dVar 4)) dtYes (dCall S_l_product (dCons (dVar 5) (dCons (dVar 14) dNil)))) dNil))) (gdName 4))) dNext)
    (dSeq (dAsg (dLcL 6 (dVar 3) dtYes (dCall S_l_flat (dCons (dVar 6) dNil))) (gdName 7))
    (dSeq (dAsg (dCall S_l_spot (dCons (dVar 0) (dCons (dVar 7) (dCons (dCall S_l_marks (dCons (dVar 7) dNil)) dNil)))) (gdName 8))
    (dSeq (dPar3 9 10 11 (dCons (dCall S_l_led_spot (dCons (dVar 1) (dCons (dVar 8) dNil))) (dCons (dCall S_l_led (dCons (dVar 1) (dCons (dVar 4) dNil))) (dCons (dCall S_l_both (dCons (dVar 1) (dCons (dVar 2) dNil))) dNil))))
    (dSeq (dPar 12 13 (dCons (dCall S_l_told (dCons (dVar 8) dNil)) (dCons (dCall S_l_told (dCons (dVar 9) dNil)) dNil)))
    (dSeq (dIfS (dtVal (dBin (kEqS true) (dCall kRepr (dCons (dTup (dCons (dCall S_p_led_place (dCons (dVar 1) (dCons (dVar 12) dNil))) (dCons (dCall S_p_led_curve (dCons (dVar 1) (dCons (dVar 4) dNil))) dNil))) dNil)) (dCall kRepr (dCons (dTup (dCons (dVar 13) (dCons (dVar 10) dNil))) dNil)))) (dRet (dC (.bool false))) dNext)
    (dSeq (dIfS (dtVal (dBin (kEqS true) (dCall kRepr (dCons (dCall S_p_sign_at (dCons (dVar 10) (dCons (dVar 13) dNil))) dNil)) (dCall kRepr (dCons (dCall S_l_at (dCons (dCall S_l_flat (dCons (dVar 4) dNil)) (dCons (dVar 8) dNil))) dNil)))) (dRet (dC (.bool false))) dNext)
    (dSeq (dIfS (dtVal (dBin (kEqS true) (dCall kRepr (dCons (dTup (dCons (dCall S_p_behind (dCons (dVar 1) (dCons (dVar 2) dNil))) (dCons (dCall (fun ds => S_p_behind ds.reverse) (dCons (dVar 2) (dCons (dVar 1) dNil))) dNil))) dNil)) (dCall kRepr (dCons (dTup (dCons (dVar 11) (dCons (dVar 11) dNil))) dNil)))) (dRet (dC (.bool false))) dNext)
    (dSeq (dIfS (dtVal (dBin (kEqS true) (dCall kRepr (dCons (dCall (fun ds => S_p_led_place ds.reverse) (dCons (dVar 12) (dCons (dVar 11) dNil))) dNil)) (dCall kRepr (dCons (dCall S_l_told (dCons (dCall S_l_led_spot (dCons (dVar 2) (dCons (dVar 9) dNil))) dNil)) dNil)))) (dRet (dC (.bool false))) dNext)
    (dSeq (dIfS (dtVal (dBin (kEqS true) (dCall kRepr (dCons (dTup (dCons (dCall S_p_back (dCons (dVar 1) dNil)) (dCons (dCall S_p_led_place (dCons (dCall S_p_back (dCons (dVar 1) dNil)) (dCons (dVar 13) dNil))) (dCons (dCall S_p_is_lead (dCons (dVar 1) dNil)) dNil)))) dNil)) (dCall kRepr (dCons (dTup (dCons (dCall S_l_undone (dCons (dVar 1) dNil)) (dCons (dVar 12) (dCons (dC (.bool true)) dNil)))) dNil)))) (dRet (dC (.bool false))) dNext)
    (dSeq (dForT 6 (dTup (dCons (dVar 1) (dCons (dVar 11) dNil))) (dIfS (dtVal (dBin (kEqS true) (dCall kRepr (dCons (dCall S_p_is_rigid (dCons (dVar 6) dNil)) dNil)) (dCall kRepr (dCons (dBin kEq (dCall S_l_norm (dCons (dBin kIx (dVar 6) (dC (.int 0))) (dCons (dBin kIx (dVar 6) (dC (.int 1))) dNil))) (dTup (dCons (dC (.int 1)) (dCons (dC (.int 1)) dNil)))) dNil)))) (dRet (dC (.bool false))) dNext))
    (dRet (dAnd (dCall S_l_moves (dCons (dVar 0) dNil)) (dCall S_l_mirrors (dCons (dVar 0) dNil)))))))))))))))))
end GD
end

section
set_option Elab.async false
set_option linter.all false
set_option maxRecDepth 100000
set_option maxHeartbeats 4000000
/-! GBl: the derivations of the law's defs (printed by gen.py). -/
namespace GD
open PySem PySem.Spec PyProof.Rows L2
section
variable {P : Program} {w : World} {K : PySem.W.Frag} {mg : Str → Option Value} {base : Heap} {f : Addr}
theorem b_l_draw (B : BF mg)  (cdv : Value) (A : Around) (outer : List Env) (s : Shared) (H : Hp) (hr : Room 0 (A.deeper (envOfC "_law_draw" (defScope s_l_draw) s.heap.objs.size f cdv))) (hgd : (A.deeper (envOfC "_law_draw" (defScope s_l_draw) s.heap.objs.size f cdv)).guards = some []) : DSs (cxOf CX0 P w K mg base N_l_draw "_law_draw" (defScope s_l_draw) f cdv A outer s H E0).nox (defBody s_l_draw) m_l_draw :=
    (dss_cons (ds_if (dt_cmp od_gt (de_wix 0 (pv 0) rfl) de_int) (dss_cons (ds_wdiv (l := 2) 0 rfl sc_l_draw.nd rfl (.inl rfl) (.inl rfl) (de_callB cd_divmod B.divmod PyProof.Rows.boot_divmod (da_cons (de_wix 0 (pv 0) rfl) (da_cons (de_var (pv 1)) da_nil))) (pv 0) rfl)
    (dss_one (ds_ret (de_var (pv 2))))) dss_nil)
    (dss_cons (ds_wset 2 (de_bin od_add (de_wix 2 (pv 0) rfl) de_int) (pv 0) rfl)
    (dss_cons (ds_set (i := 3) sc_l_draw.nd rfl (.inl rfl) (de_bin od_mod (de_callTy cd_int B.int_ PyProof.Rows.boot_int (da_cons (de_bin od_add (de_wix 1 (pv 0) rfl) (de_bin od_mulS de_int (de_wix 2 (pv 0) rfl))) da_nil)) de_int))
    (dss_cons (ds_wset 1 (de_bin od_mod (de_callTy cd_int B.int_ PyProof.Rows.boot_int (da_cons (de_bin od_add (de_bin od_mulS (de_var (pv 3)) (de_bin od_add (de_bin od_mod (de_callTy cd_int B.int_ PyProof.Rows.boot_int (da_cons (de_var (pv 3)) da_nil)) de_int) de_int)) (de_bin od_mulS de_int (de_wix 2 (pv 0) rfl))) da_nil)) de_int) (pv 0) rfl)
    (dss_one (ds_ret (de_bin od_mod (de_callTy cd_int B.int_ PyProof.Rows.boot_int (da_cons (de_bin od_fdiv (de_wix 1 (pv 0) rfl) de_int) da_nil)) (de_var (pv 1)))))))))
theorem b_l_pick (B : BF mg) (k_l_draw : Kn P w K mg base "_law_draw" 2 1 S_l_draw) (cdv : Value) (A : Around) (outer : List Env) (s : Shared) (H : Hp) (hr : Room 1 (A.deeper (envOfC "_law_pick" (defScope s_l_pick) s.heap.objs.size f cdv))) (hgd : (A.deeper (envOfC "_law_pick" (defScope s_l_pick) s.heap.objs.size f cdv)).guards = some []) : DSs (cxOf CX0 P w K mg base N_l_pick "_law_pick" (defScope s_l_pick) f cdv A outer s H E0).nox (defBody s_l_pick) m_l_pick :=
    (dss_one (ds_ret (de_ix (de_var (pv 1)) (de_call (k_l_draw.up (by decide)) hr hgd (da_cons (de_var (pv 0)) (da_cons (de_callB cd_lenB B.len PySem.boot_len (da_cons (de_var (pv 1)) da_nil)) da_nil))))))
theorem b_l_divisor (B : BF mg)  (cdv : Value) (A : Around) (outer : List Env) (s : Shared) (H : Hp) (hr : Room 0 (A.deeper (envOfC "_law_divisor" (defScope s_l_divisor) s.heap.objs.size f cdv))) (hgd : (A.deeper (envOfC "_law_divisor" (defScope s_l_divisor) s.heap.objs.size f cdv)).guards = some []) : DSs (cxOf CX0 P w K mg base N_l_divisor "_law_divisor" (defScope s_l_divisor) f cdv A outer s H E0).nox (defBody s_l_divisor) m_l_divisor :=
    (dss_cons (ds_par (i := 2) (j := 3) rfl sc_l_divisor.nd rfl rfl (by decide) rfl rfl (da_cons (de_callB cd_abs B.abs PyProof.Rows.boot_abs (da_cons (de_var (pv 0)) da_nil)) (da_cons (de_callB cd_abs B.abs PyProof.Rows.boot_abs (da_cons (de_var (pv 1)) da_nil)) da_nil)))
    (dss_cons (ds_forR PassesOwn.never rfl B.range (da_cons de_int da_nil) (pg_name (i := 4) sc_l_divisor.nd rfl (.inl rfl)) (dss_cons (ds_if (dt_cmp od_eqI (de_var (pv 3)) de_int) (dss_one (ds_ret (de_var (pv 2)))) dss_nil)
    (dss_one (ds_par (i := 2) (j := 3) rfl sc_l_divisor.nd rfl rfl (by decide) rfl rfl (da_cons (de_var (pv 3)) (da_cons (de_bin od_mod (de_callTy cd_int B.int_ PyProof.Rows.boot_int (da_cons (de_var (pv 2)) da_nil)) (de_var (pv 3))) da_nil))))))
    (dss_one (ds_ret (de_var (pv 2))))))
theorem b_l_lean (B : BF mg) (k_l_divisor : Kn P w K mg base "_law_divisor" 2 1 S_l_divisor) (cdv : Value) (A : Around) (outer : List Env) (s : Shared) (H : Hp) (hr : Room 1 (A.deeper (envOfC "_law_lean" (defScope s_l_lean) s.heap.objs.size f cdv))) (hgd : (A.deeper (envOfC "_law_lean" (defScope s_l_lean) s.heap.objs.size f cdv)).guards = some []) : DSs (cxOf CX0 P w K mg base N_l_lean "_law_lean" (defScope s_l_lean) f cdv A outer s H E0).nox (defBody s_l_lean) m_l_lean :=
    (dss_cons (ds_set (i := 2) sc_l_lean.nd rfl (.inl rfl) (de_call (k_l_divisor.up (by decide)) hr hgd (da_cons (de_var (pv 0)) (da_cons (de_var (pv 1)) da_nil))))
    (dss_cons (ds_set (i := 2) sc_l_lean.nd rfl (.inl rfl) (de_if (dt_cmp od_gt (de_var (pv 1)) de_int) (de_var (pv 2)) (de_bin od_sub de_int (de_var (pv 2)))))
    (dss_one (ds_ret (de_tup (da_cons (de_bin od_fdiv (de_var (pv 0)) (de_var (pv 2))) (da_cons (de_bin od_fdiv (de_var (pv 1)) (de_var (pv 2))) da_nil)))))))
theorem b_l_sum (B : BF mg) (k_l_lean : Kn P w K mg base "_law_lean" 2 2 S_l_lean) (cdv : Value) (A : Around) (outer : List Env) (s : Shared) (H : Hp) (hr : Room 2 (A.deeper (envOfC "_law_sum" (defScope s_l_sum) s.heap.objs.size f cdv))) (hgd : (A.deeper (envOfC "_law_sum" (defScope s_l_sum) s.heap.objs.size f cdv)).guards = some []) : DSs (cxOf CX0 P w K mg base N_l_sum "_law_sum" (defScope s_l_sum) f cdv A outer s H E0).nox (defBody s_l_sum) m_l_sum :=
    (dss_one (ds_ret (de_call (k_l_lean.up (by decide)) hr hgd (da_cons (de_bin od_add (de_bin od_mul (de_ix (de_var (pv 0)) de_int) (de_ix (de_var (pv 1)) de_int)) (de_bin od_mul (de_ix (de_var (pv 1)) de_int) (de_ix (de_var (pv 0)) de_int))) (da_cons (de_bin od_mul (de_ix (de_var (pv 0)) de_int) (de_ix (de_var (pv 1)) de_int)) da_nil)))))
theorem b_l_product (B : BF mg) (k_l_lean : Kn P w K mg base "_law_lean" 2 2 S_l_lean) (cdv : Value) (A : Around) (outer : List Env) (s : Shared) (H : Hp) (hr : Room 2 (A.deeper (envOfC "_law_product" (defScope s_l_product) s.heap.objs.size f cdv))) (hgd : (A.deeper (envOfC "_law_product" (defScope s_l_product) s.heap.objs.size f cdv)).guards = some []) : DSs (cxOf CX0 P w K mg base N_l_product "_law_product" (defScope s_l_product) f cdv A outer s H E0).nox (defBody s_l_product) m_l_product :=
    (dss_one (ds_ret (de_call (k_l_lean.up (by decide)) hr hgd (da_cons (de_bin od_mul (de_ix (de_var (pv 0)) de_int) (de_ix (de_var (pv 1)) de_int)) (da_cons (de_bin od_mul (de_ix (de_var (pv 0)) de_int) (de_ix (de_var (pv 1)) de_int)) da_nil)))))
theorem b_l_side (B : BF mg)  (cdv : Value) (A : Around) (outer : List Env) (s : Shared) (H : Hp) (hr : Room 0 (A.deeper (envOfC "_law_side" (defScope s_l_side) s.heap.objs.size f cdv))) (hgd : (A.deeper (envOfC "_law_side" (defScope s_l_side) s.heap.objs.size f cdv)).guards = some []) : DSs (cxOf CX0 P w K mg base N_l_side "_law_side" (defScope s_l_side) f cdv A outer s H E0).nox (defBody s_l_side) m_l_side :=
    (dss_one (ds_ret (de_bin od_sub (de_callTy cd_int B.int_ PyProof.Rows.boot_int (da_cons (de_cmp od_gt (de_var (pv 0)) de_int) da_nil)) (de_callTy cd_int B.int_ PyProof.Rows.boot_int (da_cons (de_cmp od_lt (de_var (pv 0)) de_int) da_nil)))))
theorem b_l_sign (B : BF mg) (k_l_side : Kn P w K mg base "_law_side" 1 1 S_l_side) (cdv : Value) (A : Around) (outer : List Env) (s : Shared) (H : Hp) (hr : Room 1 (A.deeper (envOfC "_law_sign" (defScope s_l_sign) s.heap.objs.size f cdv))) (hgd : (A.deeper (envOfC "_law_sign" (defScope s_l_sign) s.heap.objs.size f cdv)).guards = some []) : DSs (cxOf CX0 P w K mg base N_l_sign "_law_sign" (defScope s_l_sign) f cdv A outer s H E0).nox (defBody s_l_sign) m_l_sign :=
    (dss_cons (ds_par (i := 3) (j := 4) rfl sc_l_sign.nd rfl rfl (by decide) rfl rfl (da_cons (de_call (k_l_side.up (by decide)) hr hgd (da_cons (de_var (pv 0)) da_nil)) (da_cons (de_if (dt_cmp od_gt (de_var (pv 2)) de_int) (de_call (k_l_side.up (by decide)) hr hgd (da_cons (de_var (pv 1)) da_nil)) de_int) da_nil)))
    (dss_cons (ds_if (DW.dt (dw_or (dt_cmp od_eqI (de_var (pv 4)) de_int) (dw_or1 (dt_cmp od_eqI (de_var (pv 3)) (de_var (pv 4)))))) (dss_one (ds_ret (de_var (pv 3)))) dss_nil)
    (dss_one (ds_ret (de_if (dt_cmp od_eqI (de_var (pv 3)) de_int) (de_var (pv 4)) (de_bin od_mul (de_var (pv 3)) (de_call (k_l_side.up (by decide)) hr hgd (da_cons (de_bin od_sub (de_bin od_mul (de_var (pv 0)) (de_var (pv 0))) (de_bin od_mul (de_bin od_mul (de_var (pv 1)) (de_var (pv 1))) (de_var (pv 2)))) da_nil))))))))
theorem b_l_sign_two (B : BF mg) (k_l_side : Kn P w K mg base "_law_side" 1 1 S_l_side) (k_l_sign : Kn P w K mg base "_law_sign" 3 2 S_l_sign) (cdv : Value) (A : Around) (outer : List Env) (s : Shared) (H : Hp) (hr : Room 2 (A.deeper (envOfC "_law_sign_two" (defScope s_l_sign_two) s.heap.objs.size f cdv))) (hgd : (A.deeper (envOfC "_law_sign_two" (defScope s_l_sign_two) s.heap.objs.size f cdv)).guards = some []) : DSs (cxOf CX0 P w K mg base N_l_sign_two "_law_sign_two" (defScope s_l_sign_two) f cdv A outer s H E0).nox (defBody s_l_sign_two) m_l_sign_two :=
    (dss_cons (ds_par (i := 5) (j := 6) rfl sc_l_sign_two.nd rfl rfl (by decide) rfl rfl (da_cons (de_call (k_l_sign.up (by decide)) hr hgd (da_cons (de_var (pv 0)) (da_cons (de_var (pv 1)) (da_cons (de_var (pv 2)) da_nil)))) (da_cons (de_if (dt_cmp od_gt (de_var (pv 4)) de_int) (de_call (k_l_side.up (by decide)) hr hgd (da_cons (de_var (pv 3)) da_nil)) de_int) da_nil)))
    (dss_cons (ds_if (DW.dt (dw_or (dt_cmp od_eqI (de_var (pv 6)) de_int) (dw_or1 (dt_cmp od_eqI (de_var (pv 5)) (de_var (pv 6)))))) (dss_one (ds_ret (de_var (pv 5)))) dss_nil)
    (dss_one (ds_ret (de_if (dt_cmp od_eqI (de_var (pv 5)) de_int) (de_var (pv 6)) (de_bin od_mul (de_var (pv 5)) (de_call (k_l_sign.up (by decide)) hr hgd (da_cons (de_bin od_sub (de_bin od_add (de_bin od_mul (de_var (pv 0)) (de_var (pv 0))) (de_bin od_mul (de_bin od_mul (de_var (pv 1)) (de_var (pv 1))) (de_var (pv 2)))) (de_bin od_mul (de_bin od_mul (de_var (pv 3)) (de_var (pv 3))) (de_var (pv 4)))) (da_cons (de_bin od_mul (de_bin od_mul de_int (de_var (pv 0))) (de_var (pv 1))) (da_cons (de_var (pv 2)) da_nil))))))))))
theorem b_l_order (B : BF mg) (k_l_sign_two : Kn P w K mg base "_law_sign_two" 5 3 S_l_sign_two) (cdv : Value) (A : Around) (outer : List Env) (s : Shared) (H : Hp) (hr : Room 3 (A.deeper (envOfC "_law_order" (defScope s_l_order) s.heap.objs.size f cdv))) (hgd : (A.deeper (envOfC "_law_order" (defScope s_l_order) s.heap.objs.size f cdv)).guards = some []) : DSs (cxOf CX0 P w K mg base N_l_order "_law_order" (defScope s_l_order) f cdv A outer s H E0).nox (defBody s_l_order) m_l_order :=
    (dss_cons (ds_asg (de_var (pv 0)) (dg_tup rfl (dgs_cons (dg_name (pg_name (i := 2) sc_l_order.nd rfl (.inl rfl))) (dgs_cons (dg_name (pg_name (i := 3) sc_l_order.nd rfl (.inl rfl))) (dgs_cons (dg_name (pg_name (i := 4) sc_l_order.nd rfl (.inl rfl))) (dgs_cons (dg_name (pg_name (i := 5) sc_l_order.nd rfl (.inl rfl))) dgs_nil))))))
    (dss_cons (ds_asg (de_var (pv 1)) (dg_tup rfl (dgs_cons (dg_name (pg_name (i := 6) sc_l_order.nd rfl (.inl rfl))) (dgs_cons (dg_name (pg_name (i := 7) sc_l_order.nd rfl (.inl rfl))) (dgs_cons (dg_name (pg_name (i := 8) sc_l_order.nd rfl (.inl rfl))) (dgs_cons (dg_name (pg_name (i := 9) sc_l_order.nd rfl (.inl rfl))) dgs_nil))))))
    (dss_one (ds_ret (de_call (k_l_sign_two.up (by decide)) hr hgd (da_cons (de_bin od_sub (de_bin od_mul (de_var (pv 2)) (de_var (pv 9))) (de_bin od_mul (de_var (pv 6)) (de_var (pv 5)))) (da_cons (de_bin od_mul (de_var (pv 3)) (de_var (pv 9))) (da_cons (de_var (pv 4)) (da_cons (de_bin od_sub de_int (de_bin od_mul (de_var (pv 7)) (de_var (pv 5)))) (da_cons (de_var (pv 8)) da_nil))))))))))
theorem b_l_floor (B : BF mg)  (cdv : Value) (A : Around) (outer : List Env) (s : Shared) (H : Hp) (hr : Room 0 (A.deeper (envOfC "_law_floor" (defScope s_l_floor) s.heap.objs.size f cdv))) (hgd : (A.deeper (envOfC "_law_floor" (defScope s_l_floor) s.heap.objs.size f cdv)).guards = some []) : DSs (cxOf CX0 P w K mg base N_l_floor "_law_floor" (defScope s_l_floor) f cdv A outer s H E0).nox (defBody s_l_floor) m_l_floor :=
    (dss_cons (ds_if (dt_cmp od_lt (de_var (pv 0)) de_int) (dss_one (ds_ret (de_var (pv 0)))) dss_nil)
    (dss_cons (ds_set (i := 1) sc_l_floor.nd rfl (.inl rfl) de_int)
    (dss_cons (ds_forR PassesOwn.never rfl B.range (da_cons (de_bin od_add (de_bin od_fdiv (de_bits (de_var (pv 0))) de_int) de_int) da_nil) (pg_name (i := 2) sc_l_floor.nd rfl (.inl rfl)) (dss_one (ds_set (i := 1) sc_l_floor.nd rfl (.inl rfl) (de_bin od_mul de_int (de_var (pv 1))))))
    (dss_cons (ds_forR PassesOwn.never rfl B.range (da_cons de_int da_nil) (pg_name (i := 2) sc_l_floor.nd rfl (.inl rfl)) (dss_cons (ds_set (i := 3) sc_l_floor.nd rfl (.inl rfl) (de_bin od_fdiv (de_bin od_add (de_var (pv 1)) (de_bin od_fdiv (de_var (pv 0)) (de_var (pv 1)))) de_int))
    (dss_cons (ds_if (dt_cmp od_ge (de_var (pv 3)) (de_var (pv 1))) (dss_one (ds_ret (de_var (pv 1)))) dss_nil)
    (dss_one (ds_set (i := 1) sc_l_floor.nd rfl (.inl rfl) (de_var (pv 3)))))))
    (dss_one (ds_ret (de_var (pv 1))))))))
theorem b_l_number (B : BF mg) (k_l_divisor : Kn P w K mg base "_law_divisor" 2 1 S_l_divisor) (k_l_floor : Kn P w K mg base "_law_floor" 1 1 S_l_floor) (k_l_lean : Kn P w K mg base "_law_lean" 2 2 S_l_lean) (cdv : Value) (A : Around) (outer : List Env) (s : Shared) (H : Hp) (hr : Room 2 (A.deeper (envOfC "_law_number" (defScope s_l_number) s.heap.objs.size f cdv))) (hgd : (A.deeper (envOfC "_law_number" (defScope s_l_number) s.heap.objs.size f cdv)).guards = some []) : DSs (cxOf CX0 P w K mg base N_l_number "_law_number" (defScope s_l_number) f cdv A outer s H E0).nox (defBody s_l_number) m_l_number :=
    (dss_cons (ds_set (i := 4) sc_l_number.nd rfl (.inl rfl) (de_call (k_l_floor.up (by decide)) hr hgd (da_cons (de_var (pv 2)) da_nil)))
    (dss_cons (ds_if (DW.dt (dw_or (dt_cmp od_eqI (de_var (pv 1)) de_int) (dw_or1 (dt_cmp od_eqI (de_bin od_mul (de_var (pv 4)) (de_var (pv 4))) (de_var (pv 2)))))) (dss_one (ds_ret (de_call (k_l_lean.up (by decide)) hr hgd (da_cons (de_bin od_add (de_var (pv 0)) (de_bin od_mul (de_var (pv 1)) (de_var (pv 4)))) (da_cons (de_var (pv 3)) da_nil))))) dss_nil)
    (dss_cons (ds_par3 (i := 5) (j := 6) (l := 7) rfl sc_l_number.nd rfl rfl rfl (by decide) (by decide) (by decide) rfl rfl rfl (da_cons (de_bin od_mul (de_var (pv 3)) (de_var (pv 3))) (da_cons (de_bin od_sub de_int (de_bin od_mul (de_bin od_mul de_int (de_var (pv 3))) (de_var (pv 0)))) (da_cons (de_bin od_sub (de_bin od_mul (de_var (pv 0)) (de_var (pv 0))) (de_bin od_mul (de_bin od_mul (de_var (pv 1)) (de_var (pv 1))) (de_var (pv 2)))) da_nil))))
    (dss_cons (ds_set (i := 8) sc_l_number.nd rfl (.inl rfl) (de_call (k_l_divisor.up (by decide)) hr hgd (da_cons (de_var (pv 5)) (da_cons (de_call (k_l_divisor.up (by decide)) hr hgd (da_cons (de_var (pv 6)) (da_cons (de_var (pv 7)) da_nil))) da_nil))))
    (dss_one (ds_ret (de_tup (da_cons (de_bin od_fdiv (de_var (pv 5)) (de_var (pv 8))) (da_cons (de_bin od_fdiv (de_var (pv 6)) (de_var (pv 8))) (da_cons (de_bin od_fdiv (de_var (pv 7)) (de_var (pv 8))) (da_cons (de_cmp od_gt (de_var (pv 1)) de_int) da_nil)))))))))))
theorem b_l_told (B : BF mg) (k_l_number : Kn P w K mg base "_law_number" 4 3 S_l_number) (cdv : Value) (A : Around) (outer : List Env) (s : Shared) (H : Hp) (hr : Room 3 (A.deeper (envOfC "_law_told" (defScope s_l_told) s.heap.objs.size f cdv))) (hgd : (A.deeper (envOfC "_law_told" (defScope s_l_told) s.heap.objs.size f cdv)).guards = some []) : DSs (cxOf CX0 P w K mg base N_l_told "_law_told" (defScope s_l_told) f cdv A outer s H E0).nox (defBody s_l_told) m_l_told :=
    (dss_cons (ds_asg (de_var (pv 0)) (dg_tup rfl (dgs_cons (dg_name (pg_name (i := 1) sc_l_told.nd rfl (.inl rfl))) (dgs_cons (dg_name (pg_name (i := 2) sc_l_told.nd rfl (.inl rfl))) (dgs_cons (dg_name (pg_name (i := 3) sc_l_told.nd rfl (.inl rfl))) (dgs_cons (dg_name (pg_name (i := 4) sc_l_told.nd rfl (.inl rfl))) (dgs_cons (dg_name (pg_name (i := 5) sc_l_told.nd rfl (.inl rfl))) (dgs_cons (dg_name (pg_name (i := 6) sc_l_told.nd rfl (.inl rfl))) dgs_nil))))))))
    (dss_one (ds_ret (de_tup (da_cons (de_call (k_l_number.up (by decide)) hr hgd (da_cons (de_var (pv 1)) (da_cons (de_var (pv 2)) (da_cons (de_var (pv 5)) (da_cons (de_var (pv 6)) da_nil))))) (da_cons (de_call (k_l_number.up (by decide)) hr hgd (da_cons (de_var (pv 3)) (da_cons (de_var (pv 4)) (da_cons (de_var (pv 5)) (da_cons (de_var (pv 6)) da_nil))))) da_nil))))))
theorem b_l_flat (B : BF mg)  (cdv : Value) (A : Around) (outer : List Env) (s : Shared) (H : Hp) (hr : Room 0 (A.deeper (envOfC "_law_flat" (defScope s_l_flat) s.heap.objs.size f cdv))) (hgd : (A.deeper (envOfC "_law_flat" (defScope s_l_flat) s.heap.objs.size f cdv)).guards = some []) : DSs (cxOf CX0 P w K mg base N_l_flat "_law_flat" (defScope s_l_flat) f cdv A outer s H E0).nox (defBody s_l_flat) m_l_flat :=
    (dss_cons (ds_asg (de_cut (de_var (pv 0)) (end_some (i := 1)) end_none) (dg_tup rfl (dgs_cons (dg_name (pg_name (i := 1) sc_l_flat.nd rfl (.inl rfl))) (dgs_cons (dg_name (pg_name (i := 2) sc_l_flat.nd rfl (.inl rfl))) (dgs_cons (dg_name (pg_name (i := 3) sc_l_flat.nd rfl (.inl rfl))) dgs_nil)))))
    (dss_cons (ds_if (dt_cmp od_eqS (de_ix (de_var (pv 0)) de_int) de_str) (dss_cons (ds_set (i := 4) sc_l_flat.nd rfl (.inl rfl) (de_bin od_mul (de_ix (de_var (pv 1)) de_int) (de_ix (de_var (pv 2)) de_int)))
    (dss_one (ds_ret (de_tup (da_cons de_int (da_cons (de_bin od_mul (de_bin od_mul (de_ix (de_var (pv 1)) de_int) (de_ix (de_var (pv 2)) de_int)) (de_ix (de_var (pv 3)) de_int)) (da_cons (de_bin od_mul (de_bin od_mul (de_ix (de_var (pv 2)) de_int) (de_ix (de_var (pv 1)) de_int)) (de_ix (de_var (pv 3)) de_int)) (da_cons (de_bin od_sub de_int (de_bin od_mul (de_ix (de_var (pv 3)) de_int) (de_var (pv 4)))) da_nil)))))))) dss_nil)
    (dss_cons (ds_par (i := 5) (j := 6) rfl sc_l_flat.nd rfl rfl (by decide) rfl rfl (da_cons (de_bin od_mul (de_ix (de_var (pv 1)) de_int) (de_ix (de_var (pv 1)) de_int)) (da_cons (de_bin od_mul (de_ix (de_var (pv 2)) de_int) (de_ix (de_var (pv 2)) de_int)) da_nil)))
    (dss_cons (ds_par (i := 7) (j := 8) rfl sc_l_flat.nd rfl rfl (by decide) rfl rfl (da_cons (de_bin od_sub de_int (de_bin od_mul (de_bin od_mul (de_bin od_mul (de_bin od_mul de_int (de_ix (de_var (pv 1)) de_int)) (de_ix (de_var (pv 1)) de_int)) (de_var (pv 6))) (de_ix (de_var (pv 3)) de_int))) (da_cons (de_bin od_sub de_int (de_bin od_mul (de_bin od_mul (de_bin od_mul (de_bin od_mul de_int (de_ix (de_var (pv 2)) de_int)) (de_ix (de_var (pv 2)) de_int)) (de_var (pv 5))) (de_ix (de_var (pv 3)) de_int))) da_nil)))
    (dss_cons (ds_set (i := 9) sc_l_flat.nd rfl (.inl rfl) (de_bin od_sub (de_bin od_mul (de_bin od_add (de_bin od_mul (de_bin od_mul (de_ix (de_var (pv 1)) de_int) (de_ix (de_var (pv 1)) de_int)) (de_var (pv 6))) (de_bin od_mul (de_bin od_mul (de_ix (de_var (pv 2)) de_int) (de_ix (de_var (pv 2)) de_int)) (de_var (pv 5)))) (de_ix (de_var (pv 3)) de_int)) (de_bin od_mul (de_bin od_mul (de_ix (de_var (pv 3)) de_int) (de_var (pv 5))) (de_var (pv 6)))))
    (dss_one (ds_ret (de_tup (da_cons (de_bin od_mul (de_bin od_mul (de_var (pv 5)) (de_var (pv 6))) (de_ix (de_var (pv 3)) de_int)) (da_cons (de_var (pv 7)) (da_cons (de_var (pv 8)) (da_cons (de_var (pv 9)) da_nil))))))))))))
theorem b_l_at (B : BF mg) (k_l_sign : Kn P w K mg base "_law_sign" 3 2 S_l_sign) (cdv : Value) (A : Around) (outer : List Env) (s : Shared) (H : Hp) (hr : Room 2 (A.deeper (envOfC "_law_at" (defScope s_l_at) s.heap.objs.size f cdv))) (hgd : (A.deeper (envOfC "_law_at" (defScope s_l_at) s.heap.objs.size f cdv)).guards = some []) : DSs (cxOf CX0 P w K mg base N_l_at "_law_at" (defScope s_l_at) f cdv A outer s H E0).nox (defBody s_l_at) m_l_at :=
    (dss_cons (ds_asg (de_var (pv 0)) (dg_tup rfl (dgs_cons (dg_name (pg_name (i := 2) sc_l_at.nd rfl (.inl rfl))) (dgs_cons (dg_name (pg_name (i := 3) sc_l_at.nd rfl (.inl rfl))) (dgs_cons (dg_name (pg_name (i := 4) sc_l_at.nd rfl (.inl rfl))) (dgs_cons (dg_name (pg_name (i := 5) sc_l_at.nd rfl (.inl rfl))) dgs_nil))))))
    (dss_cons (ds_asg (de_var (pv 1)) (dg_tup rfl (dgs_cons (dg_name (pg_name (i := 6) sc_l_at.nd rfl (.inl rfl))) (dgs_cons (dg_name (pg_name (i := 7) sc_l_at.nd rfl (.inl rfl))) (dgs_cons (dg_name (pg_name (i := 8) sc_l_at.nd rfl (.inl rfl))) (dgs_cons (dg_name (pg_name (i := 9) sc_l_at.nd rfl (.inl rfl))) (dgs_cons (dg_name (pg_name (i := 10) sc_l_at.nd rfl (.inl rfl))) (dgs_cons (dg_name (pg_name (i := 11) sc_l_at.nd rfl (.inl rfl))) dgs_nil))))))))
    (dss_cons (ds_set (i := 12) sc_l_at.nd rfl (.inl rfl) (de_bin od_add (de_bin od_add (de_bin od_mul (de_var (pv 2)) (de_bin od_add (de_bin od_add (de_bin od_mul (de_var (pv 6)) (de_var (pv 6))) (de_bin od_mul (de_var (pv 8)) (de_var (pv 8)))) (de_bin od_mul (de_var (pv 10)) (de_bin od_add (de_bin od_mul (de_var (pv 7)) (de_var (pv 7))) (de_bin od_mul (de_var (pv 9)) (de_var (pv 9))))))) (de_bin od_mul (de_var (pv 11)) (de_bin od_add (de_bin od_mul (de_var (pv 3)) (de_var (pv 6))) (de_bin od_mul (de_var (pv 4)) (de_var (pv 8)))))) (de_bin od_mul (de_bin od_mul (de_var (pv 11)) (de_var (pv 11))) (de_var (pv 5)))))
    (dss_one (ds_ret (de_call (k_l_sign.up (by decide)) hr hgd (da_cons (de_var (pv 12)) (da_cons (de_bin od_add (de_bin od_mul (de_bin od_mul de_int (de_var (pv 2))) (de_bin od_add (de_bin od_mul (de_var (pv 6)) (de_var (pv 7))) (de_bin od_mul (de_var (pv 8)) (de_var (pv 9))))) (de_bin od_mul (de_var (pv 11)) (de_bin od_add (de_bin od_mul (de_var (pv 3)) (de_var (pv 7))) (de_bin od_mul (de_var (pv 4)) (de_var (pv 9)))))) (da_cons (de_var (pv 10)) da_nil)))))))))
theorem b_l_on_line (B : BF mg)  (cdv : Value) (A : Around) (outer : List Env) (s : Shared) (H : Hp) (hr : Room 0 (A.deeper (envOfC "_law_on_line" (defScope s_l_on_line) s.heap.objs.size f cdv))) (hgd : (A.deeper (envOfC "_law_on_line" (defScope s_l_on_line) s.heap.objs.size f cdv)).guards = some []) : DSs (cxOf CX0 P w K mg base N_l_on_line "_law_on_line" (defScope s_l_on_line) f cdv A outer s H E0).nox (defBody s_l_on_line) m_l_on_line :=
    (dss_cons (ds_asg (de_cut (de_var (pv 0)) (end_some (i := 1)) end_none) (dg_tup rfl (dgs_cons (dg_name (pg_name (i := 2) sc_l_on_line.nd rfl (.inl rfl))) (dgs_cons (dg_name (pg_name (i := 3) sc_l_on_line.nd rfl (.inl rfl))) (dgs_cons (dg_name (pg_name (i := 4) sc_l_on_line.nd rfl (.inl rfl))) dgs_nil)))))
    (dss_cons (ds_asg (de_var (pv 1)) (dg_tup rfl (dgs_cons (dg_name (pg_name (i := 5) sc_l_on_line.nd rfl (.inl rfl))) (dgs_cons (dg_name (pg_name (i := 6) sc_l_on_line.nd rfl (.inl rfl))) (dgs_cons (dg_name (pg_name (i := 7) sc_l_on_line.nd rfl (.inl rfl))) (dgs_cons (dg_name (pg_name (i := 8) sc_l_on_line.nd rfl (.inl rfl))) dgs_nil))))))
    (dss_cons (ds_par (i := 9) (j := 10) rfl sc_l_on_line.nd rfl rfl (by decide) rfl rfl (da_cons (de_bin od_add (de_bin od_mul (de_var (pv 2)) (de_var (pv 2))) (de_bin od_mul (de_var (pv 3)) (de_var (pv 3)))) (da_cons (de_bin od_sub (de_bin od_mul (de_var (pv 7)) (de_var (pv 2))) (de_bin od_mul (de_var (pv 6)) (de_var (pv 3)))) da_nil)))
    (dss_cons (ds_set (i := 11) sc_l_on_line.nd rfl (.inl rfl) (de_bin od_sub (de_bin od_mul (de_var (pv 10)) (de_var (pv 10))) (de_bin od_mul (de_bin od_mul de_int (de_var (pv 5))) (de_bin od_add (de_bin od_sub (de_bin od_mul (de_bin od_mul (de_var (pv 5)) (de_var (pv 4))) (de_var (pv 4))) (de_bin od_mul (de_var (pv 4)) (de_bin od_add (de_bin od_mul (de_var (pv 6)) (de_var (pv 2))) (de_bin od_mul (de_var (pv 7)) (de_var (pv 3)))))) (de_bin od_mul (de_var (pv 8)) (de_var (pv 9)))))))
    (dss_cons (ds_par3 (i := 12) (j := 13) (l := 14) rfl sc_l_on_line.nd rfl rfl rfl (by decide) (by decide) (by decide) rfl rfl rfl (da_cons (de_bin od_sub (de_bin od_mul (de_var (pv 3)) (de_var (pv 10))) (de_bin od_mul (de_bin od_mul (de_bin od_mul de_int (de_var (pv 5))) (de_var (pv 2))) (de_var (pv 4)))) (da_cons (de_bin od_sub (de_bin od_sub de_int (de_bin od_mul (de_var (pv 2)) (de_var (pv 10)))) (de_bin od_mul (de_bin od_mul (de_bin od_mul de_int (de_var (pv 5))) (de_var (pv 3))) (de_var (pv 4)))) (da_cons (de_bin od_mul (de_bin od_mul de_int (de_var (pv 5))) (de_var (pv 9))) da_nil))))
    (dss_cons (ds_if (dt_cmp od_lt (de_var (pv 11)) de_int) (dss_one (ds_ret (de_lst da_nil))) dss_nil)
    (dss_one (ds_ret (de_if (dt_cmp od_eqI (de_var (pv 11)) de_int) (de_lst (da_cons (de_tup (da_cons (de_var (pv 12)) (da_cons de_int (da_cons (de_var (pv 13)) (da_cons de_int (da_cons de_int (da_cons (de_var (pv 14)) da_nil))))))) da_nil)) (de_lst (da_cons (de_tup (da_cons (de_var (pv 12)) (da_cons (de_var (pv 3)) (da_cons (de_var (pv 13)) (da_cons (de_bin od_sub de_int (de_var (pv 2))) (da_cons (de_var (pv 11)) (da_cons (de_var (pv 14)) da_nil))))))) (da_cons (de_tup (da_cons (de_var (pv 12)) (da_cons (de_bin od_sub de_int (de_var (pv 3))) (da_cons (de_var (pv 13)) (da_cons (de_var (pv 2)) (da_cons (de_var (pv 11)) (da_cons (de_var (pv 14)) da_nil))))))) da_nil))))))))))))
theorem b_l_meet (B : BF mg) (k_l_on_line : Kn P w K mg base "_law_on_line" 2 1 S_l_on_line) (k_l_side : Kn P w K mg base "_law_side" 1 1 S_l_side) (cdv : Value) (A : Around) (outer : List Env) (s : Shared) (H : Hp) (hr : Room 1 (A.deeper (envOfC "_law_meet" (defScope s_l_meet) s.heap.objs.size f cdv))) (hgd : (A.deeper (envOfC "_law_meet" (defScope s_l_meet) s.heap.objs.size f cdv)).guards = some []) : DSs (cxOf CX0 P w K mg base N_l_meet "_law_meet" (defScope s_l_meet) f cdv A outer s H E0).nox (defBody s_l_meet) m_l_meet :=
    (dss_cons (ds_if (DW.dt (dw_and (dt_cmp od_gt (de_ix (de_var (pv 0)) de_int) de_int) (dw_and1 (dt_cmp od_gt (de_ix (de_var (pv 1)) de_int) de_int)))) (dss_cons (ds_setLcZ (l := 2) (i := 7) (j := 8) rfl sc_l_meet.nd rfl rfl (sw_true rfl rfl rfl (by decide +kernel)) B.zip (da_cons (de_var (pv 0)) (da_cons (de_var (pv 1)) da_nil)) (by decide) (blkOk_by (own := [("_law_here", 7), ("_law_far", 8)]) (N := N_l_meet) (sc := defScope s_l_meet) (by decide +kernel)) (fun _ _ _ _ _ => (pg_tup rfl (pgs_cons (pg_name (i := 7) sc_l_meet.nd rfl (Or.inl rfl)) (pgs_cons (pg_name (i := 8) sc_l_meet.nd rfl (Or.inl rfl)) pgs_nil)))) (fun _ _ _ _ _ => (de_bin od_sub (de_bin od_mul (de_ix (de_var (pv 0)) de_int) (de_var (pv 8))) (de_bin od_mul (de_ix (de_var (pv 1)) de_int) (de_var (pv 7))))) s)
    (dss_one (ds_ret (de_if (DW.dt (dw_and (dt_cmp od_eqI (de_ix (de_var (pv 2)) de_int) de_int) (dw_and1 (dt_cmp od_eqI (de_ix (de_var (pv 2)) de_int) de_int)))) (de_lst da_nil) (de_call (k_l_on_line.up (by decide)) hr hgd (da_cons (de_var (pv 2)) (da_cons (de_var (pv 0)) da_nil))))))) dss_nil)
    (dss_cons (ds_if (DW.dt (dw_or (dt_cmp od_gt (de_ix (de_var (pv 0)) de_int) de_int) (dw_or1 (dt_cmp od_gt (de_ix (de_var (pv 1)) de_int) de_int)))) (dss_one (ds_ret (de_if (dt_cmp od_gt (de_ix (de_var (pv 0)) de_int) de_int) (de_call (k_l_on_line.up (by decide)) hr hgd (da_cons (de_var (pv 1)) (da_cons (de_var (pv 0)) da_nil))) (de_call (k_l_on_line.up (by decide)) hr hgd (da_cons (de_var (pv 0)) (da_cons (de_var (pv 1)) da_nil)))))) dss_nil)
    (dss_cons (ds_set (i := 3) sc_l_meet.nd rfl (.inl rfl) (de_bin od_sub (de_bin od_mul (de_ix (de_var (pv 0)) de_int) (de_ix (de_var (pv 1)) de_int)) (de_bin od_mul (de_ix (de_var (pv 1)) de_int) (de_ix (de_var (pv 0)) de_int))))
    (dss_cons (ds_set (i := 4) sc_l_meet.nd rfl (.inl rfl) (de_call (k_l_side.up (by decide)) hr hgd (da_cons (de_var (pv 3)) da_nil)))
    (dss_cons (ds_par (i := 5) (j := 6) rfl sc_l_meet.nd rfl rfl (by decide) rfl rfl (da_cons (de_bin od_sub (de_bin od_mul (de_ix (de_var (pv 0)) de_int) (de_ix (de_var (pv 1)) de_int)) (de_bin od_mul (de_ix (de_var (pv 1)) de_int) (de_ix (de_var (pv 0)) de_int))) (da_cons (de_bin od_sub (de_bin od_mul (de_ix (de_var (pv 0)) de_int) (de_ix (de_var (pv 1)) de_int)) (de_bin od_mul (de_ix (de_var (pv 1)) de_int) (de_ix (de_var (pv 0)) de_int))) da_nil)))
    (dss_one (ds_ret (de_if (dt_cmp od_eqI (de_var (pv 3)) de_int) (de_lst da_nil) (de_lst (da_cons (de_tup (da_cons (de_bin od_mul (de_var (pv 4)) (de_var (pv 5))) (da_cons de_int (da_cons (de_bin od_mul (de_var (pv 4)) (de_var (pv 6))) (da_cons de_int (da_cons de_int (da_cons (de_bin od_mul (de_var (pv 4)) (de_var (pv 3))) da_nil))))))) da_nil))))))))))
theorem b_l_after (B : BF mg) (k_l_order : Kn P w K mg base "_law_order" 2 4 S_l_order) (cdv : Value) (A : Around) (outer : List Env) (s : Shared) (H : Hp) (hr : Room 4 (A.deeper (envOfC "_law_after" (defScope s_l_after) s.heap.objs.size f cdv))) (hgd : (A.deeper (envOfC "_law_after" (defScope s_l_after) s.heap.objs.size f cdv)).guards = some []) : DSs (cxOf CX0 P w K mg base N_l_after "_law_after" (defScope s_l_after) f cdv A outer s H E0).nox (defBody s_l_after) m_l_after :=
    (dss_cons (ds_set (i := 2) sc_l_after.nd rfl (.inl rfl) (de_call (k_l_order.up (by decide)) hr hgd (da_cons (de_bin od_catT (de_cut (de_var (pv 0)) end_none (end_some (i := 2))) (de_cut (de_var (pv 0)) (end_some (i := 4)) end_none)) (da_cons (de_bin od_catT (de_cut (de_var (pv 1)) end_none (end_some (i := 2))) (de_cut (de_var (pv 1)) (end_some (i := 4)) end_none)) da_nil))))
    (dss_one (ds_ret (de_if (dt_cmp od_neI (de_var (pv 2)) de_int) (de_var (pv 2)) (de_call (k_l_order.up (by decide)) hr hgd (da_cons (de_cut (de_var (pv 0)) (end_some (i := 2)) end_none) (da_cons (de_cut (de_var (pv 1)) (end_some (i := 2)) end_none) da_nil)))))))
theorem b_l_small (B : BF mg) (k_l_draw : Kn P w K mg base "_law_draw" 2 1 S_l_draw) (k_l_lean : Kn P w K mg base "_law_lean" 2 2 S_l_lean) (cdv : Value) (A : Around) (outer : List Env) (s : Shared) (H : Hp) (hr : Room 2 (A.deeper (envOfC "_law_small" (defScope s_l_small) s.heap.objs.size f cdv))) (hgd : (A.deeper (envOfC "_law_small" (defScope s_l_small) s.heap.objs.size f cdv)).guards = some []) : DSs (cxOf CX0 P w K mg base N_l_small "_law_small" (defScope s_l_small) f cdv A outer s H E0).nox (defBody s_l_small) m_l_small :=
    (dss_cons (ds_set (i := 1) sc_l_small.nd rfl (.inl rfl) (de_call (k_l_draw.up (by decide)) hr hgd (da_cons (de_var (pv 0)) (da_cons de_int da_nil))))
    (dss_cons (ds_if (DW.dt (dw_and (dt_cmp od_eqI (de_var (pv 1)) de_int) (dw_and1 (dt_cmp od_gt (de_wix 3 (pv 0) rfl) de_int)))) (dss_cons (ds_wset 3 de_int (pv 0) rfl)
    (dss_one (ds_ret (de_call (k_l_lean.up (by decide)) hr hgd (da_cons (de_bin od_sub (de_call (k_l_draw.up (by decide)) hr hgd (da_cons (de_var (pv 0)) (da_cons de_int da_nil))) de_int) (da_cons (de_bin od_add de_int (de_call (k_l_draw.up (by decide)) hr hgd (da_cons (de_var (pv 0)) (da_cons de_int da_nil)))) da_nil)))))) dss_nil)
    (dss_cons (ds_if (dt_cmp od_gt (de_var (pv 1)) de_int) (dss_one (ds_ret (de_call (k_l_lean.up (by decide)) hr hgd (da_cons (de_bin od_sub (de_call (k_l_draw.up (by decide)) hr hgd (da_cons (de_var (pv 0)) (da_cons de_int da_nil))) de_int) (da_cons (de_bin od_add de_int (de_call (k_l_draw.up (by decide)) hr hgd (da_cons (de_var (pv 0)) (da_cons de_int da_nil)))) da_nil))))) dss_nil)
    (dss_one (ds_ret (de_tup (da_cons (de_ix (de_tup (da_cons de_int (da_cons de_int (da_cons (de_neg de_int) (da_cons de_int (da_cons de_int (da_cons de_int (da_cons (de_neg de_int) (da_cons de_int da_nil))))))))) (de_call (k_l_draw.up (by decide)) hr hgd (da_cons (de_var (pv 0)) (da_cons de_int da_nil)))) (da_cons de_int da_nil))))))))
theorem b_l_form (B : BF mg) (k_l_divisor : Kn P w K mg base "_law_divisor" 2 1 S_l_divisor) (cdv : Value) (A : Around) (outer : List Env) (s : Shared) (H : Hp) (hr : Room 1 (A.deeper (envOfC "_law_form" (defScope s_l_form) s.heap.objs.size f cdv))) (hgd : (A.deeper (envOfC "_law_form" (defScope s_l_form) s.heap.objs.size f cdv)).guards = some []) : DSs (cxOf CX0 P w K mg base N_l_form "_law_form" (defScope s_l_form) f cdv A outer s H E0).nox (defBody s_l_form) m_l_form :=
    (dss_cons (ds_par3 (i := 3) (j := 4) (l := 5) rfl sc_l_form.nd rfl rfl rfl (by decide) (by decide) (by decide) rfl rfl rfl (da_cons (de_bin od_mul (de_bin od_mul (de_ix (de_var (pv 0)) de_int) (de_ix (de_var (pv 1)) de_int)) (de_ix (de_var (pv 2)) de_int)) (da_cons (de_bin od_mul (de_bin od_mul (de_ix (de_var (pv 1)) de_int) (de_ix (de_var (pv 0)) de_int)) (de_ix (de_var (pv 2)) de_int)) (da_cons (de_bin od_mul (de_bin od_mul (de_ix (de_var (pv 2)) de_int) (de_ix (de_var (pv 0)) de_int)) (de_ix (de_var (pv 1)) de_int)) da_nil))))
    (dss_cons (ds_set (i := 6) sc_l_form.nd rfl (.inl rfl) (de_call (k_l_divisor.up (by decide)) hr hgd (da_cons (de_var (pv 3)) (da_cons (de_call (k_l_divisor.up (by decide)) hr hgd (da_cons (de_var (pv 4)) (da_cons (de_var (pv 5)) da_nil))) da_nil))))
    (dss_cons (ds_if (DW.dt (dw_or (dt_cmp od_lt (de_var (pv 3)) de_int) (dw_or1 (DW.dt (dw_and (dt_cmp od_eqI (de_var (pv 3)) de_int) (dw_and1 (dt_cmp od_lt (de_var (pv 4)) de_int))))))) (dss_one (ds_set (i := 6) sc_l_form.nd rfl (.inl rfl) (de_bin od_sub de_int (de_var (pv 6))))) dss_nil)
    (dss_one (ds_ret (de_tup (da_cons de_str (da_cons (de_tup (da_cons (de_bin od_fdiv (de_var (pv 3)) (de_var (pv 6))) (da_cons de_int da_nil))) (da_cons (de_tup (da_cons (de_bin od_fdiv (de_var (pv 4)) (de_var (pv 6))) (da_cons de_int da_nil))) (da_cons (de_tup (da_cons (de_bin od_fdiv (de_var (pv 5)) (de_var (pv 6))) (da_cons de_int da_nil))) da_nil))))))))))
theorem b_l_norm (B : BF mg) (k_l_product : Kn P w K mg base "_law_product" 2 3 S_l_product) (k_l_sum : Kn P w K mg base "_law_sum" 2 3 S_l_sum) (cdv : Value) (A : Around) (outer : List Env) (s : Shared) (H : Hp) (hr : Room 3 (A.deeper (envOfC "_law_norm" (defScope s_l_norm) s.heap.objs.size f cdv))) (hgd : (A.deeper (envOfC "_law_norm" (defScope s_l_norm) s.heap.objs.size f cdv)).guards = some []) : DSs (cxOf CX0 P w K mg base N_l_norm "_law_norm" (defScope s_l_norm) f cdv A outer s H E0).nox (defBody s_l_norm) m_l_norm :=
    (dss_one (ds_ret (de_call (k_l_sum.up (by decide)) hr hgd (da_cons (de_call (k_l_product.up (by decide)) hr hgd (da_cons (de_var (pv 0)) (da_cons (de_var (pv 0)) da_nil))) (da_cons (de_call (k_l_product.up (by decide)) hr hgd (da_cons (de_var (pv 1)) (da_cons (de_var (pv 1)) da_nil))) da_nil)))))
theorem b_l_line (B : BF mg) (k_l_draw : Kn P w K mg base "_law_draw" 2 1 S_l_draw) (k_l_form : Kn P w K mg base "_law_form" 3 2 S_l_form) (k_l_pick : Kn P w K mg base "_law_pick" 2 2 S_l_pick) (k_l_product : Kn P w K mg base "_law_product" 2 3 S_l_product) (k_l_small : Kn P w K mg base "_law_small" 1 3 S_l_small) (k_l_sum : Kn P w K mg base "_law_sum" 2 3 S_l_sum) (cdv : Value) (A : Around) (outer : List Env) (s : Shared) (H : Hp) (hr : Room 3 (A.deeper (envOfC "_law_line" (defScope s_l_line) s.heap.objs.size f cdv))) (hgd : (A.deeper (envOfC "_law_line" (defScope s_l_line) s.heap.objs.size f cdv)).guards = some []) : DSs (cxOf CX0 P w K mg base N_l_line "_law_line" (defScope s_l_line) f cdv A outer s H E0).nox (defBody s_l_line) m_l_line :=
    (dss_cons (ds_set (i := 3) sc_l_line.nd rfl (.inl rfl) (de_call (k_l_draw.up (by decide)) hr hgd (da_cons (de_var (pv 0)) (da_cons de_int da_nil))))
    (dss_cons (ds_if (dt_cmp od_gt (de_var (pv 3)) de_int) (dss_cons (ds_asg (de_call (k_l_pick.up (by decide)) hr hgd (da_cons (de_var (pv 0)) (da_cons (de_tup (da_cons (de_tup (da_cons de_int (da_cons de_int da_nil))) (da_cons (de_tup (da_cons de_int (da_cons de_int da_nil))) (da_cons (de_tup (da_cons de_int (da_cons de_int da_nil))) (da_cons (de_tup (da_cons de_int (da_cons de_int da_nil))) (da_cons (de_tup (da_cons de_int (da_cons (de_neg de_int) da_nil))) (da_cons (de_tup (da_cons de_int (da_cons de_int da_nil))) (da_cons (de_tup (da_cons de_int (da_cons (de_neg de_int) da_nil))) (da_cons (de_tup (da_cons de_int (da_cons de_int da_nil))) (da_cons (de_tup (da_cons de_int (da_cons de_int da_nil))) da_nil)))))))))) da_nil))) (dg_tup rfl (dgs_cons (dg_name (pg_name (i := 4) sc_l_line.nd rfl (.inl rfl))) (dgs_cons (dg_name (pg_name (i := 5) sc_l_line.nd rfl (.inl rfl))) dgs_nil))))
    (dss_one (ds_set (i := 2) sc_l_line.nd rfl (.inl rfl) (de_tup (da_cons (de_tup (da_cons (de_var (pv 4)) (da_cons de_int da_nil))) (da_cons (de_tup (da_cons (de_var (pv 5)) (da_cons de_int da_nil))) da_nil)))))) dss_nil)
    (dss_cons (ds_if (dt_cmp od_gt (de_var (pv 3)) de_int) (dss_one (ds_ret (de_call (k_l_form.up (by decide)) hr hgd (da_cons (de_ix (de_var (pv 2)) de_int) (da_cons (de_ix (de_var (pv 2)) de_int) (da_cons (de_call (k_l_small.up (by decide)) hr hgd (da_cons (de_var (pv 0)) da_nil)) da_nil)))))) dss_nil)
    (dss_one (ds_ret (de_call (k_l_form.up (by decide)) hr hgd (da_cons (de_ix (de_var (pv 2)) de_int) (da_cons (de_ix (de_var (pv 2)) de_int) (da_cons (de_call (k_l_sum.up (by decide)) hr hgd (da_cons (de_call (k_l_product.up (by decide)) hr hgd (da_cons (de_ix (de_var (pv 2)) de_int) (da_cons (de_ix (de_var (pv 1)) de_int) da_nil))) (da_cons (de_call (k_l_product.up (by decide)) hr hgd (da_cons (de_ix (de_var (pv 2)) de_int) (da_cons (de_ix (de_var (pv 1)) de_int) da_nil))) da_nil))) da_nil)))))))))
theorem b_l_ring (B : BF mg) (k_l_draw : Kn P w K mg base "_law_draw" 2 1 S_l_draw) (k_l_norm : Kn P w K mg base "_law_norm" 2 4 S_l_norm) (k_l_pick : Kn P w K mg base "_law_pick" 2 2 S_l_pick) (k_l_product : Kn P w K mg base "_law_product" 2 3 S_l_product) (k_l_small : Kn P w K mg base "_law_small" 1 3 S_l_small) (k_l_sum : Kn P w K mg base "_law_sum" 2 3 S_l_sum) (cdv : Value) (A : Around) (outer : List Env) (s : Shared) (H : Hp) (hr : Room 4 (A.deeper (envOfC "_law_ring" (defScope s_l_ring) s.heap.objs.size f cdv))) (hgd : (A.deeper (envOfC "_law_ring" (defScope s_l_ring) s.heap.objs.size f cdv)).guards = some []) : DSs (cxOf CX0 P w K mg base N_l_ring "_law_ring" (defScope s_l_ring) f cdv A outer s H E0).nox (defBody s_l_ring) m_l_ring :=
    (dss_cons (ds_set (i := 3) sc_l_ring.nd rfl (.inl rfl) (de_call (k_l_draw.up (by decide)) hr hgd (da_cons (de_var (pv 0)) (da_cons de_int da_nil))))
    (dss_cons (ds_if (dt_cmp od_lt (de_var (pv 3)) de_int) (dss_cons (ds_set (i := 4) sc_l_ring.nd rfl (.inl rfl) (de_call (k_l_pick.up (by decide)) hr hgd (da_cons (de_var (pv 0)) (da_cons (de_tup (da_cons (de_tup (da_cons de_int (da_cons de_int da_nil))) (da_cons (de_tup (da_cons (de_neg de_int) (da_cons de_int da_nil))) (da_cons (de_tup (da_cons de_int (da_cons de_int da_nil))) (da_cons (de_tup (da_cons (de_neg de_int) (da_cons de_int da_nil))) (da_cons (de_tup (da_cons de_int (da_cons de_int da_nil))) (da_cons (de_tup (da_cons (de_neg de_int) (da_cons de_int da_nil))) (da_cons (de_tup (da_cons de_int (da_cons de_int da_nil))) da_nil)))))))) da_nil))))
    (dss_cons (ds_set (i := 5) sc_l_ring.nd rfl (.inl rfl) (de_tup (da_cons (de_call (k_l_product.up (by decide)) hr hgd (da_cons (de_var (pv 4)) (da_cons (de_ix (de_var (pv 2)) de_int) da_nil))) (da_cons (de_call (k_l_product.up (by decide)) hr hgd (da_cons (de_var (pv 4)) (da_cons (de_ix (de_var (pv 2)) de_int) da_nil))) da_nil))))
    (dss_one (ds_ret (de_tup (da_cons de_str (da_cons (de_call (k_l_sum.up (by decide)) hr hgd (da_cons (de_ix (de_var (pv 1)) de_int) (da_cons (de_ix (de_var (pv 5)) de_int) da_nil))) (da_cons (de_call (k_l_sum.up (by decide)) hr hgd (da_cons (de_ix (de_var (pv 1)) de_int) (da_cons (de_ix (de_var (pv 5)) de_int) da_nil))) (da_cons (de_call (k_l_norm.up (by decide)) hr hgd (da_cons (de_ix (de_var (pv 5)) de_int) (da_cons (de_ix (de_var (pv 5)) de_int) da_nil))) da_nil))))))))) dss_nil)
    (dss_cons (ds_par (i := 6) (j := 7) rfl sc_l_ring.nd rfl rfl (by decide) rfl rfl (da_cons (de_call (k_l_small.up (by decide)) hr hgd (da_cons (de_var (pv 0)) da_nil)) (da_cons (de_call (k_l_small.up (by decide)) hr hgd (da_cons (de_var (pv 0)) da_nil)) da_nil)))
    (dss_cons (ds_if (DW.dt (dw_and (dt_cmp od_eqI (de_var (pv 3)) de_int) (dw_and1 (dt_cmp (od_ne hr) (de_tup (da_cons (de_var (pv 6)) (da_cons (de_var (pv 7)) da_nil))) (de_var (pv 1)))))) (dss_cons (ds_set (i := 8) sc_l_ring.nd rfl (.inl rfl) (de_call (k_l_norm.up (by decide)) hr hgd (da_cons (de_call (k_l_sum.up (by decide)) hr hgd (da_cons (de_var (pv 6)) (da_cons (de_tup (da_cons (de_bin od_sub de_int (de_ix (de_ix (de_var (pv 1)) de_int) de_int)) (da_cons (de_ix (de_ix (de_var (pv 1)) de_int) de_int) da_nil))) da_nil))) (da_cons (de_call (k_l_sum.up (by decide)) hr hgd (da_cons (de_var (pv 7)) (da_cons (de_tup (da_cons (de_bin od_sub de_int (de_ix (de_ix (de_var (pv 1)) de_int) de_int)) (da_cons (de_ix (de_ix (de_var (pv 1)) de_int) de_int) da_nil))) da_nil))) da_nil))))
    (dss_one (ds_ret (de_tup (da_cons de_str (da_cons (de_var (pv 6)) (da_cons (de_var (pv 7)) (da_cons (de_var (pv 8)) da_nil)))))))) dss_nil)
    (dss_one (ds_ret (de_tup (da_cons de_str (da_cons (de_var (pv 6)) (da_cons (de_var (pv 7)) (da_cons (de_call (k_l_pick.up (by decide)) hr hgd (da_cons (de_var (pv 0)) (da_cons (de_tup (da_cons (de_tup (da_cons de_int (da_cons de_int da_nil))) (da_cons (de_tup (da_cons de_int (da_cons de_int da_nil))) (da_cons (de_tup (da_cons de_int (da_cons de_int da_nil))) (da_cons (de_tup (da_cons de_int (da_cons de_int da_nil))) (da_cons (de_tup (da_cons de_int (da_cons de_int da_nil))) (da_cons (de_tup (da_cons de_int (da_cons de_int da_nil))) (da_cons (de_tup (da_cons de_int (da_cons de_int da_nil))) (da_cons (de_tup (da_cons de_int (da_cons de_int da_nil))) da_nil))))))))) da_nil))) da_nil)))))))))))
theorem b_l_bow (B : BF mg) (k_l_draw : Kn P w K mg base "_law_draw" 2 1 S_l_draw) (k_l_form : Kn P w K mg base "_law_form" 3 2 S_l_form) (k_l_line : Kn P w K mg base "_law_line" 3 4 S_l_line) (k_l_pick : Kn P w K mg base "_law_pick" 2 2 S_l_pick) (k_l_product : Kn P w K mg base "_law_product" 2 3 S_l_product) (k_l_ring : Kn P w K mg base "_law_ring" 3 5 S_l_ring) (k_l_sum : Kn P w K mg base "_law_sum" 2 3 S_l_sum) (cdv : Value) (A : Around) (outer : List Env) (s : Shared) (H : Hp) (hr : Room 5 (A.deeper (envOfC "_law_bow" (defScope s_l_bow) s.heap.objs.size f cdv))) (hgd : (A.deeper (envOfC "_law_bow" (defScope s_l_bow) s.heap.objs.size f cdv)).guards = some []) : DSs (cxOf CX0 P w K mg base N_l_bow "_law_bow" (defScope s_l_bow) f cdv A outer s H E0).nox (defBody s_l_bow) m_l_bow :=
    (dss_cons (ds_set (i := 4) sc_l_bow.nd rfl (.inl rfl) (de_call (k_l_draw.up (by decide)) hr hgd (da_cons (de_var (pv 0)) (da_cons de_int da_nil))))
    (dss_cons (ds_if (DW.dt (dw_and (dt_cmp od_gt (de_var (pv 4)) de_int) (dw_and1 (dt_cmp (od_ne hr) (de_var (pv 3)) (de_lst da_nil))))) (dss_cons (ds_asg (de_call (k_l_pick.up (by decide)) hr hgd (da_cons (de_var (pv 0)) (da_cons (de_var (pv 3)) da_nil))) (dg_tup rfl (dgs_cons (dg_name (pg_name (i := 5) sc_l_bow.nd rfl (.inl rfl))) (dgs_cons (dg_name (pg_name (i := 6) sc_l_bow.nd rfl (.inl rfl))) (dgs_cons (dg_name (pg_name (i := 7) sc_l_bow.nd rfl (.inl rfl))) (dgs_cons (dg_name (pg_name (i := 8) sc_l_bow.nd rfl (.inl rfl))) dgs_nil))))))
    (dss_cons (ds_if (dt_cmp od_eqS (de_var (pv 5)) de_str) (dss_one (ds_ret (de_call (k_l_form.up (by decide)) hr hgd (da_cons (de_var (pv 6)) (da_cons (de_tup (da_cons (de_bin od_sub de_int (de_ix (de_var (pv 7)) de_int)) (da_cons (de_ix (de_var (pv 7)) de_int) da_nil))) (da_cons (de_var (pv 8)) da_nil)))))) dss_nil)
    (dss_cons (ds_if (dt_cmp od_eqI (de_call (k_l_draw.up (by decide)) hr hgd (da_cons (de_var (pv 0)) (da_cons de_int da_nil))) de_int) (dss_one (ds_ret (de_tup (da_cons (de_var (pv 5)) (da_cons (de_var (pv 6)) (da_cons (de_var (pv 7)) (da_cons (de_call (k_l_product.up (by decide)) hr hgd (da_cons (de_var (pv 8)) (da_cons (de_call (k_l_pick.up (by decide)) hr hgd (da_cons (de_var (pv 0)) (da_cons (de_tup (da_cons (de_tup (da_cons de_int (da_cons de_int da_nil))) (da_cons (de_tup (da_cons de_int (da_cons de_int da_nil))) (da_cons (de_tup (da_cons de_int (da_cons de_int da_nil))) da_nil)))) da_nil))) da_nil))) da_nil))))))) dss_nil)
    (dss_one (ds_ret (de_tup (da_cons (de_var (pv 5)) (da_cons (de_var (pv 6)) (da_cons (de_call (k_l_sum.up (by decide)) hr hgd (da_cons (de_var (pv 7)) (da_cons (de_call (k_l_pick.up (by decide)) hr hgd (da_cons (de_var (pv 0)) (da_cons (de_tup (da_cons (de_tup (da_cons de_int (da_cons de_int da_nil))) (da_cons (de_tup (da_cons de_int (da_cons de_int da_nil))) (da_cons (de_tup (da_cons (de_neg de_int) (da_cons de_int da_nil))) (da_cons (de_tup (da_cons de_int (da_cons de_int da_nil))) da_nil))))) da_nil))) da_nil))) (da_cons (de_var (pv 8)) da_nil)))))))))) dss_nil)
    (dss_one (ds_ret (de_if (dt_cmp od_eqI (de_bin od_mod (de_callTy cd_int B.int_ PyProof.Rows.boot_int (da_cons (de_var (pv 4)) da_nil)) de_int) de_int) (de_call (k_l_line.up (by decide)) hr hgd (da_cons (de_var (pv 0)) (da_cons (de_var (pv 1)) (da_cons (de_var (pv 2)) da_nil)))) (de_call (k_l_ring.up (by decide)) hr hgd (da_cons (de_var (pv 0)) (da_cons (de_var (pv 1)) (da_cons (de_var (pv 2)) da_nil)))))))))
theorem b_l_turned (B : BF mg) (k_l_product : Kn P w K mg base "_law_product" 2 3 S_l_product) (k_l_sum : Kn P w K mg base "_law_sum" 2 3 S_l_sum) (cdv : Value) (A : Around) (outer : List Env) (s : Shared) (H : Hp) (hr : Room 3 (A.deeper (envOfC "_law_turned" (defScope s_l_turned) s.heap.objs.size f cdv))) (hgd : (A.deeper (envOfC "_law_turned" (defScope s_l_turned) s.heap.objs.size f cdv)).guards = some []) : DSs (cxOf CX0 P w K mg base N_l_turned "_law_turned" (defScope s_l_turned) f cdv A outer s H E0).nox (defBody s_l_turned) m_l_turned :=
    (dss_cons (ds_asg (de_cut (de_var (pv 0)) end_none (end_some (i := 2))) (dg_tup rfl (dgs_cons (dg_name (pg_name (i := 2) sc_l_turned.nd rfl (.inl rfl))) (dgs_cons (dg_name (pg_name (i := 3) sc_l_turned.nd rfl (.inl rfl))) dgs_nil))))
    (dss_cons (ds_par (i := 4) (j := 5) rfl sc_l_turned.nd rfl rfl (by decide) rfl rfl (da_cons (de_ix (de_var (pv 1)) de_int) (da_cons (de_if (dt_val (de_ix (de_var (pv 0)) de_int)) (de_tup (da_cons (de_bin od_sub de_int (de_ix (de_ix (de_var (pv 1)) de_int) de_int)) (da_cons (de_ix (de_ix (de_var (pv 1)) de_int) de_int) da_nil))) (de_ix (de_var (pv 1)) de_int)) da_nil)))
    (dss_cons (ds_set (i := 6) sc_l_turned.nd rfl (.inl rfl) (de_tup (da_cons (de_bin od_sub de_int (de_ix (de_var (pv 5)) de_int)) (da_cons (de_ix (de_var (pv 5)) de_int) da_nil))))
    (dss_cons (ds_par (i := 7) (j := 8) rfl sc_l_turned.nd rfl rfl (by decide) rfl rfl (da_cons (de_call (k_l_sum.up (by decide)) hr hgd (da_cons (de_call (k_l_product.up (by decide)) hr hgd (da_cons (de_var (pv 2)) (da_cons (de_var (pv 4)) da_nil))) (da_cons (de_call (k_l_product.up (by decide)) hr hgd (da_cons (de_var (pv 3)) (da_cons (de_var (pv 6)) da_nil))) da_nil))) (da_cons (de_call (k_l_product.up (by decide)) hr hgd (da_cons (de_var (pv 3)) (da_cons (de_var (pv 4)) da_nil))) da_nil)))
    (dss_one (ds_ret (de_tup (da_cons (de_var (pv 7)) (da_cons (de_call (k_l_sum.up (by decide)) hr hgd (da_cons (de_var (pv 8)) (da_cons (de_call (k_l_product.up (by decide)) hr hgd (da_cons (de_var (pv 2)) (da_cons (de_var (pv 5)) da_nil))) da_nil))) da_nil)))))))))
theorem b_l_led (B : BF mg) (k_l_norm : Kn P w K mg base "_law_norm" 2 4 S_l_norm) (k_l_product : Kn P w K mg base "_law_product" 2 3 S_l_product) (k_l_sum : Kn P w K mg base "_law_sum" 2 3 S_l_sum) (k_l_turned : Kn P w K mg base "_law_turned" 2 4 S_l_turned) (cdv : Value) (A : Around) (outer : List Env) (s : Shared) (H : Hp) (hr : Room 4 (A.deeper (envOfC "_law_led" (defScope s_l_led) s.heap.objs.size f cdv))) (hgd : (A.deeper (envOfC "_law_led" (defScope s_l_led) s.heap.objs.size f cdv)).guards = some []) : DSs (cxOf CX0 P w K mg base N_l_led "_law_led" (defScope s_l_led) f cdv A outer s H E0).nox (defBody s_l_led) m_l_led :=
    (dss_cons (ds_par3 (i := 2) (j := 3) (l := 4) rfl sc_l_led.nd rfl rfl rfl (by decide) (by decide) (by decide) rfl rfl rfl (da_cons (de_call (k_l_norm.up (by decide)) hr hgd (da_cons (de_ix (de_var (pv 0)) de_int) (da_cons (de_ix (de_var (pv 0)) de_int) da_nil))) (da_cons (de_call (k_l_turned.up (by decide)) hr hgd (da_cons (de_var (pv 0)) (da_cons (de_cut (de_var (pv 1)) (end_some (i := 1)) (end_some (i := 3))) da_nil))) (da_cons (de_ix (de_var (pv 0)) de_int) da_nil))))
    (dss_cons (ds_set (i := 5) sc_l_led.nd rfl (.inl rfl) (de_call (k_l_product.up (by decide)) hr hgd (da_cons (de_var (pv 2)) (da_cons (de_ix (de_var (pv 1)) de_int) da_nil))))
    (dss_cons (ds_if (dt_cmp od_eqS (de_ix (de_var (pv 1)) de_int) de_str) (dss_one (ds_ret (de_tup (da_cons de_str (da_cons (de_call (k_l_sum.up (by decide)) hr hgd (da_cons (de_ix (de_var (pv 3)) de_int) (da_cons (de_ix (de_var (pv 4)) de_int) da_nil))) (da_cons (de_call (k_l_sum.up (by decide)) hr hgd (da_cons (de_ix (de_var (pv 3)) de_int) (da_cons (de_ix (de_var (pv 4)) de_int) da_nil))) (da_cons (de_var (pv 5)) da_nil))))))) dss_nil)
    (dss_cons (ds_set (i := 6) sc_l_led.nd rfl (.inl rfl) (de_call (k_l_sum.up (by decide)) hr hgd (da_cons (de_call (k_l_product.up (by decide)) hr hgd (da_cons (de_ix (de_var (pv 3)) de_int) (da_cons (de_ix (de_var (pv 4)) de_int) da_nil))) (da_cons (de_call (k_l_product.up (by decide)) hr hgd (da_cons (de_ix (de_var (pv 3)) de_int) (da_cons (de_ix (de_var (pv 4)) de_int) da_nil))) da_nil))))
    (dss_one (ds_ret (de_tup (da_cons de_str (da_cons (de_ix (de_var (pv 3)) de_int) (da_cons (de_ix (de_var (pv 3)) de_int) (da_cons (de_call (k_l_sum.up (by decide)) hr hgd (da_cons (de_var (pv 5)) (da_cons (de_var (pv 6)) da_nil))) da_nil)))))))))))
theorem b_l_undone (B : BF mg) (k_l_norm : Kn P w K mg base "_law_norm" 2 4 S_l_norm) (k_l_product : Kn P w K mg base "_law_product" 2 3 S_l_product) (k_l_turned : Kn P w K mg base "_law_turned" 2 4 S_l_turned) (cdv : Value) (A : Around) (outer : List Env) (s : Shared) (H : Hp) (hr : Room 4 (A.deeper (envOfC "_law_undone" (defScope s_l_undone) s.heap.objs.size f cdv))) (hgd : (A.deeper (envOfC "_law_undone" (defScope s_l_undone) s.heap.objs.size f cdv)).guards = some []) : DSs (cxOf CX0 P w K mg base N_l_undone "_law_undone" (defScope s_l_undone) f cdv A outer s H E0).nox (defBody s_l_undone) m_l_undone :=
    (dss_cons (ds_set (i := 1) sc_l_undone.nd rfl (.inl rfl) (de_call (k_l_norm.up (by decide)) hr hgd (da_cons (de_ix (de_var (pv 0)) de_int) (da_cons (de_ix (de_var (pv 0)) de_int) da_nil))))
    (dss_cons (ds_set (i := 2) sc_l_undone.nd rfl (.inl rfl) (de_tup (da_cons (de_ix (de_var (pv 1)) de_int) (da_cons (de_ix (de_var (pv 1)) de_int) da_nil))))
    (dss_cons (ds_par (i := 3) (j := 4) rfl sc_l_undone.nd rfl rfl (by decide) rfl rfl (da_cons (de_call (k_l_product.up (by decide)) hr hgd (da_cons (de_ix (de_var (pv 0)) de_int) (da_cons (de_var (pv 2)) da_nil))) (da_cons (de_call (k_l_product.up (by decide)) hr hgd (da_cons (de_ix (de_var (pv 0)) de_int) (da_cons (de_var (pv 2)) da_nil))) da_nil)))
    (dss_cons (ds_set (i := 5) sc_l_undone.nd rfl (.inl rfl) (de_tup (da_cons (de_var (pv 3)) (da_cons (de_if (dt_val (de_ix (de_var (pv 0)) de_int)) (de_var (pv 4)) (de_tup (da_cons (de_bin od_sub de_int (de_ix (de_var (pv 4)) de_int)) (da_cons (de_ix (de_var (pv 4)) de_int) da_nil)))) (da_cons (de_ix (de_var (pv 0)) de_int) da_nil)))))
    (dss_cons (ds_asg (de_call (k_l_turned.up (by decide)) hr hgd (da_cons (de_var (pv 5)) (da_cons (de_ix (de_var (pv 0)) de_int) da_nil))) (dg_tup rfl (dgs_cons (dg_name (pg_name (i := 6) sc_l_undone.nd rfl (.inl rfl))) (dgs_cons (dg_name (pg_name (i := 7) sc_l_undone.nd rfl (.inl rfl))) dgs_nil))))
    (dss_one (ds_ret (de_bin od_catT (de_var (pv 5)) (de_tup (da_cons (de_tup (da_cons (de_tup (da_cons (de_bin od_sub de_int (de_ix (de_var (pv 6)) de_int)) (da_cons (de_ix (de_var (pv 6)) de_int) da_nil))) (da_cons (de_tup (da_cons (de_bin od_sub de_int (de_ix (de_var (pv 7)) de_int)) (da_cons (de_ix (de_var (pv 7)) de_int) da_nil))) da_nil))) da_nil))))))))))
theorem b_l_rule (B : BF mg) (k_l_draw : Kn P w K mg base "_law_draw" 2 1 S_l_draw) (k_l_lean : Kn P w K mg base "_law_lean" 2 2 S_l_lean) (k_l_pick : Kn P w K mg base "_law_pick" 2 2 S_l_pick) (k_l_small : Kn P w K mg base "_law_small" 1 3 S_l_small) (cdv : Value) (A : Around) (outer : List Env) (s : Shared) (H : Hp) (hr : Room 3 (A.deeper (envOfC "_law_rule" (defScope s_l_rule) s.heap.objs.size f cdv))) (hgd : (A.deeper (envOfC "_law_rule" (defScope s_l_rule) s.heap.objs.size f cdv)).guards = some []) : DSs (cxOf CX0 P w K mg base N_l_rule "_law_rule" (defScope s_l_rule) f cdv A outer s H E0).nox (defBody s_l_rule) m_l_rule :=
    (dss_cons (ds_set (i := 1) sc_l_rule.nd rfl (.inl rfl) (de_tup (da_cons (de_tup (da_cons de_int (da_cons de_int (da_cons de_int da_nil)))) (da_cons (de_tup (da_cons de_int (da_cons de_int (da_cons de_int da_nil)))) (da_cons (de_tup (da_cons de_int (da_cons de_int (da_cons de_int da_nil)))) (da_cons (de_tup (da_cons (de_neg de_int) (da_cons de_int (da_cons de_int da_nil)))) (da_cons (de_tup (da_cons de_int (da_cons de_int (da_cons de_int da_nil)))) (da_cons (de_tup (da_cons de_int (da_cons de_int (da_cons de_int da_nil)))) (da_cons (de_tup (da_cons de_int (da_cons de_int (da_cons de_int da_nil)))) (da_cons (de_tup (da_cons de_int (da_cons de_int (da_cons de_int da_nil)))) (da_cons (de_tup (da_cons de_int (da_cons (de_neg de_int) (da_cons de_int da_nil)))) da_nil)))))))))))
    (dss_cons (ds_asg (de_call (k_l_pick.up (by decide)) hr hgd (da_cons (de_var (pv 0)) (da_cons (de_var (pv 1)) da_nil))) (dg_tup rfl (dgs_cons (dg_name (pg_name (i := 2) sc_l_rule.nd rfl (.inl rfl))) (dgs_cons (dg_name (pg_name (i := 3) sc_l_rule.nd rfl (.inl rfl))) (dgs_cons (dg_name (pg_name (i := 4) sc_l_rule.nd rfl (.inl rfl))) dgs_nil)))))
    (dss_cons (ds_set (i := 5) sc_l_rule.nd rfl (.inl rfl) (de_cmp od_eqI (de_call (k_l_draw.up (by decide)) hr hgd (da_cons (de_var (pv 0)) (da_cons de_int da_nil))) de_int))
    (dss_one (ds_ret (de_tup (da_cons (de_call (k_l_lean.up (by decide)) hr hgd (da_cons (de_var (pv 2)) (da_cons (de_var (pv 4)) da_nil))) (da_cons (de_call (k_l_lean.up (by decide)) hr hgd (da_cons (de_var (pv 3)) (da_cons (de_var (pv 4)) da_nil))) (da_cons (de_var (pv 5)) (da_cons (de_tup (da_cons (de_call (k_l_small.up (by decide)) hr hgd (da_cons (de_var (pv 0)) da_nil)) (da_cons (de_call (k_l_small.up (by decide)) hr hgd (da_cons (de_var (pv 0)) da_nil)) da_nil))) da_nil))))))))))
theorem b_l_led_spot (B : BF mg)  (cdv : Value) (A : Around) (outer : List Env) (s : Shared) (H : Hp) (hr : Room 0 (A.deeper (envOfC "_law_led_spot" (defScope s_l_led_spot) s.heap.objs.size f cdv))) (hgd : (A.deeper (envOfC "_law_led_spot" (defScope s_l_led_spot) s.heap.objs.size f cdv)).guards = some []) : DSs (cxOf CX0 P w K mg base N_l_led_spot "_law_led_spot" (defScope s_l_led_spot) f cdv A outer s H E0).nox (defBody s_l_led_spot) m_l_led_spot :=
    (dss_cons (ds_asg (de_var (pv 0)) (dg_tup rfl (dgs_cons (dg_name (pg_name (i := 2) sc_l_led_spot.nd rfl (.inl rfl))) (dgs_cons (dg_name (pg_name (i := 3) sc_l_led_spot.nd rfl (.inl rfl))) (dgs_cons (dg_name (pg_name (i := 4) sc_l_led_spot.nd rfl (.inl rfl))) (dgs_cons (dg_name (pg_name (i := 5) sc_l_led_spot.nd rfl (.inl rfl))) dgs_nil))))))
    (dss_cons (ds_asg (de_var (pv 1)) (dg_tup rfl (dgs_cons (dg_name (pg_name (i := 6) sc_l_led_spot.nd rfl (.inl rfl))) (dgs_cons (dg_name (pg_name (i := 7) sc_l_led_spot.nd rfl (.inl rfl))) (dgs_cons (dg_name (pg_name (i := 8) sc_l_led_spot.nd rfl (.inl rfl))) (dgs_cons (dg_name (pg_name (i := 9) sc_l_led_spot.nd rfl (.inl rfl))) (dgs_cons (dg_name (pg_name (i := 10) sc_l_led_spot.nd rfl (.inl rfl))) (dgs_cons (dg_name (pg_name (i := 11) sc_l_led_spot.nd rfl (.inl rfl))) dgs_nil))))))))
    (dss_cons (ds_asg (de_if (dt_val (de_var (pv 4))) (de_tup (da_cons (de_bin od_sub de_int (de_var (pv 8))) (da_cons (de_bin od_sub de_int (de_var (pv 9))) da_nil))) (de_tup (da_cons (de_var (pv 8)) (da_cons (de_var (pv 9)) da_nil)))) (dg_tup rfl (dgs_cons (dg_name (pg_name (i := 8) sc_l_led_spot.nd rfl (.inl rfl))) (dgs_cons (dg_name (pg_name (i := 9) sc_l_led_spot.nd rfl (.inl rfl))) dgs_nil))))
    (dss_cons (ds_par (i := 12) (j := 13) rfl sc_l_led_spot.nd rfl rfl (by decide) rfl rfl (da_cons (de_bin od_mul (de_ix (de_var (pv 2)) de_int) (de_ix (de_var (pv 3)) de_int)) (da_cons (de_bin od_mul (de_ix (de_ix (de_var (pv 5)) de_int) de_int) (de_ix (de_ix (de_var (pv 5)) de_int) de_int)) da_nil)))
    (dss_cons (ds_par (i := 14) (j := 15) rfl sc_l_led_spot.nd rfl rfl (by decide) rfl rfl (da_cons (de_bin od_mul (de_bin od_mul (de_ix (de_var (pv 2)) de_int) (de_ix (de_var (pv 3)) de_int)) (de_var (pv 13))) (da_cons (de_bin od_mul (de_bin od_mul (de_ix (de_var (pv 3)) de_int) (de_ix (de_var (pv 2)) de_int)) (de_var (pv 13))) da_nil)))
    (dss_cons (ds_par (i := 16) (j := 17) rfl sc_l_led_spot.nd rfl rfl (by decide) rfl rfl (da_cons (de_bin od_mul (de_bin od_mul (de_bin od_mul (de_ix (de_ix (de_var (pv 5)) de_int) de_int) (de_ix (de_ix (de_var (pv 5)) de_int) de_int)) (de_var (pv 12))) (de_var (pv 11))) (da_cons (de_bin od_mul (de_bin od_mul (de_bin od_mul (de_ix (de_ix (de_var (pv 5)) de_int) de_int) (de_ix (de_ix (de_var (pv 5)) de_int) de_int)) (de_var (pv 12))) (de_var (pv 11))) da_nil)))
    (dss_one (ds_ret (de_tup (da_cons (de_bin od_add (de_bin od_sub (de_bin od_mul (de_var (pv 14)) (de_var (pv 6))) (de_bin od_mul (de_var (pv 15)) (de_var (pv 8)))) (de_var (pv 16))) (da_cons (de_bin od_sub (de_bin od_mul (de_var (pv 14)) (de_var (pv 7))) (de_bin od_mul (de_var (pv 15)) (de_var (pv 9)))) (da_cons (de_bin od_add (de_bin od_add (de_bin od_mul (de_var (pv 15)) (de_var (pv 6))) (de_bin od_mul (de_var (pv 14)) (de_var (pv 8)))) (de_var (pv 17))) (da_cons (de_bin od_add (de_bin od_mul (de_var (pv 15)) (de_var (pv 7))) (de_bin od_mul (de_var (pv 14)) (de_var (pv 9)))) (da_cons (de_var (pv 10)) (da_cons (de_bin od_mul (de_bin od_mul (de_var (pv 12)) (de_var (pv 13))) (de_var (pv 11))) da_nil)))))))))))))))
theorem b_l_raw (B : BF mg)  (cdv : Value) (A : Around) (outer : List Env) (s : Shared) (H : Hp) (hr : Room 0 (A.deeper (envOfC "_law_raw" (defScope s_l_raw) s.heap.objs.size f cdv))) (hgd : (A.deeper (envOfC "_law_raw" (defScope s_l_raw) s.heap.objs.size f cdv)).guards = some []) : DSs (cxOf CX0 P w K mg base N_l_raw "_law_raw" (defScope s_l_raw) f cdv A outer s H E0).nox (defBody s_l_raw) m_l_raw :=
    (dss_one (ds_ret (de_tup (da_cons (de_bin od_mul (de_ix (de_var (pv 0)) de_int) (de_ix (de_var (pv 1)) de_int)) (da_cons de_int (da_cons (de_bin od_mul (de_ix (de_var (pv 1)) de_int) (de_ix (de_var (pv 0)) de_int)) (da_cons de_int (da_cons de_int (da_cons (de_bin od_mul (de_ix (de_var (pv 0)) de_int) (de_ix (de_var (pv 1)) de_int)) da_nil)))))))))
theorem b_l_crossing (B : BF mg) (k_l_meet : Kn P w K mg base "_law_meet" 2 2 S_l_meet) (k_l_pick : Kn P w K mg base "_law_pick" 2 2 S_l_pick) (k_l_raw : Kn P w K mg base "_law_raw" 2 1 S_l_raw) (k_l_small : Kn P w K mg base "_law_small" 1 3 S_l_small) (cdv : Value) (A : Around) (outer : List Env) (s : Shared) (H : Hp) (hr : Room 3 (A.deeper (envOfC "_law_crossing" (defScope s_l_crossing) s.heap.objs.size f cdv))) (hgd : (A.deeper (envOfC "_law_crossing" (defScope s_l_crossing) s.heap.objs.size f cdv)).guards = some []) : DSs (cxOf CX0 P w K mg base N_l_crossing "_law_crossing" (defScope s_l_crossing) f cdv A outer s H E0).nox (defBody s_l_crossing) m_l_crossing :=
    (dss_cons (ds_set (i := 3) sc_l_crossing.nd rfl (.inl rfl) (de_bin od_catL (de_var (pv 1)) (de_var (pv 2))))
    (dss_cons (ds_par (i := 4) (j := 5) rfl sc_l_crossing.nd rfl rfl (by decide) rfl rfl (da_cons (de_call (k_l_pick.up (by decide)) hr hgd (da_cons (de_var (pv 0)) (da_cons (de_var (pv 3)) da_nil))) (da_cons (de_call (k_l_pick.up (by decide)) hr hgd (da_cons (de_var (pv 0)) (da_cons (de_var (pv 3)) da_nil))) da_nil)))
    (dss_cons (ds_set (i := 6) sc_l_crossing.nd rfl (.inl rfl) (de_if (dt_cmp (od_eq hr) (de_var (pv 4)) (de_var (pv 5))) (de_lst da_nil) (de_call (k_l_meet.up (by decide)) hr hgd (da_cons (de_var (pv 4)) (da_cons (de_var (pv 5)) da_nil)))))
    (dss_one (ds_ret (de_if (dt_cmp (od_eq hr) (de_var (pv 6)) (de_lst da_nil)) (de_call (k_l_raw.up (by decide)) hr hgd (da_cons (de_call (k_l_small.up (by decide)) hr hgd (da_cons (de_var (pv 0)) da_nil)) (da_cons (de_call (k_l_small.up (by decide)) hr hgd (da_cons (de_var (pv 0)) da_nil)) da_nil))) (de_call (k_l_pick.up (by decide)) hr hgd (da_cons (de_var (pv 0)) (da_cons (de_var (pv 6)) da_nil)))))))))
theorem b_l_spot (B : BF mg) (k_l_crossing : Kn P w K mg base "_law_crossing" 3 4 S_l_crossing) (k_l_draw : Kn P w K mg base "_law_draw" 2 1 S_l_draw) (k_l_flat : Kn P w K mg base "_law_flat" 1 1 S_l_flat) (k_l_line : Kn P w K mg base "_law_line" 3 4 S_l_line) (k_l_pick : Kn P w K mg base "_law_pick" 2 2 S_l_pick) (k_l_raw : Kn P w K mg base "_law_raw" 2 1 S_l_raw) (k_l_ring : Kn P w K mg base "_law_ring" 3 5 S_l_ring) (k_l_small : Kn P w K mg base "_law_small" 1 3 S_l_small) (cdv : Value) (A : Around) (outer : List Env) (s : Shared) (H : Hp) (hr : Room 5 (A.deeper (envOfC "_law_spot" (defScope s_l_spot) s.heap.objs.size f cdv))) (hgd : (A.deeper (envOfC "_law_spot" (defScope s_l_spot) s.heap.objs.size f cdv)).guards = some []) : DSs (cxOf CX0 P w K mg base N_l_spot "_law_spot" (defScope s_l_spot) f cdv A outer s H E0).nox (defBody s_l_spot) m_l_spot :=
    (dss_cons (ds_set (i := 3) sc_l_spot.nd rfl (.inl rfl) (de_call (k_l_draw.up (by decide)) hr hgd (da_cons (de_var (pv 0)) (da_cons de_int da_nil))))
    (dss_cons (ds_setLcL (l := 4) rfl sc_l_spot.nd rfl rfl (sw_true rfl rfl rfl (by decide +kernel)) (de_var (pv 1)) (blkOk_by (own := [("_law_flat_here", 12)]) (N := N_l_spot) (sc := defScope s_l_spot) (by decide +kernel)) (fun _ _ _ _ _ => pg_name (i := 12) sc_l_spot.nd rfl (Or.inl rfl)) (fun _ _ _ _ _ => (dts_one (dt_cmp od_gt (de_ix (de_var (pv 12)) de_int) de_int))) (fun _ _ _ _ _ => (de_var (pv 12))) s)
    (dss_cons (ds_if (DW.dt (dw_and (dt_cmp od_lt (de_var (pv 3)) de_int) (dw_and1 (dt_cmp (od_ne hr) (de_var (pv 2)) (de_lst da_nil))))) (dss_one (ds_ret (de_call (k_l_pick.up (by decide)) hr hgd (da_cons (de_var (pv 0)) (da_cons (de_var (pv 2)) da_nil))))) dss_nil)
    (dss_cons (ds_if (DW.dt (dw_and (dt_cmp od_eqI (de_var (pv 3)) de_int) (dw_and1 (dt_cmp (od_ne hr) (de_var (pv 4)) (de_lst da_nil))))) (dss_cons (ds_asg (de_call (k_l_pick.up (by decide)) hr hgd (da_cons (de_var (pv 0)) (da_cons (de_var (pv 4)) da_nil))) (dg_tup rfl (dgs_cons (dg_name (pg_name (i := 5) sc_l_spot.nd rfl (.inl rfl))) (dgs_cons (dg_name (pg_name (i := 6) sc_l_spot.nd rfl (.inl rfl))) (dgs_cons (dg_name (pg_name (i := 7) sc_l_spot.nd rfl (.inl rfl))) (dgs_cons (dg_name (pg_name (i := 8) sc_l_spot.nd rfl (.inl rfl))) dgs_nil))))))
    (dss_cons (ds_set (i := 9) sc_l_spot.nd rfl (.inl rfl) (de_call (k_l_pick.up (by decide)) hr hgd (da_cons (de_var (pv 0)) (da_cons (de_tup (da_cons (de_tup (da_cons de_int (da_cons de_int da_nil))) (da_cons (de_tup (da_cons (de_neg de_int) (da_cons de_int da_nil))) (da_cons (de_tup (da_cons de_int (da_cons de_int da_nil))) (da_cons (de_tup (da_cons de_int (da_cons (de_neg de_int) da_nil))) da_nil))))) da_nil))))
    (dss_one (ds_ret (de_tup (da_cons (de_bin od_sub de_int (de_var (pv 6))) (da_cons (de_ix (de_var (pv 9)) de_int) (da_cons (de_bin od_sub de_int (de_var (pv 7))) (da_cons (de_ix (de_var (pv 9)) de_int) (da_cons (de_bin od_sub (de_bin od_add (de_bin od_mul (de_var (pv 6)) (de_var (pv 6))) (de_bin od_mul (de_var (pv 7)) (de_var (pv 7)))) (de_bin od_mul (de_bin od_mul de_int (de_var (pv 5))) (de_var (pv 8)))) (da_cons (de_bin od_mul de_int (de_var (pv 5))) da_nil))))))))))) dss_nil)
    (dss_cons (ds_if (DW.dt (dw_or (dt_cmp od_eqI (de_var (pv 3)) de_int) (dw_or1 (dt_cmp (od_eq hr) (de_var (pv 1)) (de_lst da_nil))))) (dss_one (ds_ret (de_call (k_l_raw.up (by decide)) hr hgd (da_cons (de_call (k_l_small.up (by decide)) hr hgd (da_cons (de_var (pv 0)) da_nil)) (da_cons (de_call (k_l_small.up (by decide)) hr hgd (da_cons (de_var (pv 0)) da_nil)) da_nil))))) dss_nil)
    (dss_cons (ds_set (i := 10) sc_l_spot.nd rfl (.inl rfl) (de_tup (da_cons (de_call (k_l_small.up (by decide)) hr hgd (da_cons (de_var (pv 0)) da_nil)) (da_cons (de_call (k_l_small.up (by decide)) hr hgd (da_cons (de_var (pv 0)) da_nil)) da_nil))))
    (dss_cons (ds_set (i := 11) sc_l_spot.nd rfl (.inl rfl) (de_lst (da_cons (de_call (k_l_flat.up (by decide)) hr hgd (da_cons (de_call (k_l_line.up (by decide)) hr hgd (da_cons (de_var (pv 0)) (da_cons (de_var (pv 10)) (da_cons (de_tup (da_cons (de_tup (da_cons de_int (da_cons de_int da_nil))) (da_cons (de_tup (da_cons de_int (da_cons de_int da_nil))) da_nil))) da_nil)))) da_nil)) (da_cons (de_call (k_l_flat.up (by decide)) hr hgd (da_cons (de_call (k_l_ring.up (by decide)) hr hgd (da_cons (de_var (pv 0)) (da_cons (de_var (pv 10)) (da_cons (de_tup (da_cons (de_tup (da_cons de_int (da_cons de_int da_nil))) (da_cons (de_tup (da_cons de_int (da_cons de_int da_nil))) da_nil))) da_nil)))) da_nil)) da_nil))))
    (dss_one (ds_ret (de_call (k_l_crossing.up (by decide)) hr hgd (da_cons (de_var (pv 0)) (da_cons (de_if (dt_cmp od_lt (de_var (pv 3)) de_int) (de_var (pv 1)) (de_lst da_nil)) (da_cons (de_var (pv 11)) da_nil)))))))))))))
theorem b_l_both (B : BF mg) (k_l_sum : Kn P w K mg base "_law_sum" 2 3 S_l_sum) (k_l_turned : Kn P w K mg base "_law_turned" 2 4 S_l_turned) (cdv : Value) (A : Around) (outer : List Env) (s : Shared) (H : Hp) (hr : Room 4 (A.deeper (envOfC "_law_both" (defScope s_l_both) s.heap.objs.size f cdv))) (hgd : (A.deeper (envOfC "_law_both" (defScope s_l_both) s.heap.objs.size f cdv)).guards = some []) : DSs (cxOf CX0 P w K mg base N_l_both "_law_both" (defScope s_l_both) f cdv A outer s H E0).nox (defBody s_l_both) m_l_both :=
    (dss_cons (ds_asg (de_call (k_l_turned.up (by decide)) hr hgd (da_cons (de_var (pv 1)) (da_cons (de_tup (da_cons (de_ix (de_var (pv 0)) de_int) (da_cons (de_ix (de_var (pv 0)) de_int) da_nil))) da_nil))) (dg_tup rfl (dgs_cons (dg_name (pg_name (i := 2) sc_l_both.nd rfl (.inl rfl))) (dgs_cons (dg_name (pg_name (i := 3) sc_l_both.nd rfl (.inl rfl))) dgs_nil))))
    (dss_cons (ds_asg (de_call (k_l_turned.up (by decide)) hr hgd (da_cons (de_var (pv 1)) (da_cons (de_ix (de_var (pv 0)) de_int) da_nil))) (dg_tup rfl (dgs_cons (dg_name (pg_name (i := 4) sc_l_both.nd rfl (.inl rfl))) (dgs_cons (dg_name (pg_name (i := 5) sc_l_both.nd rfl (.inl rfl))) dgs_nil))))
    (dss_one (ds_ret (de_tup (da_cons (de_var (pv 2)) (da_cons (de_var (pv 3)) (da_cons (de_cmp (od_ne hr) (de_ix (de_var (pv 0)) de_int) (de_ix (de_var (pv 1)) de_int)) (da_cons (de_tup (da_cons (de_call (k_l_sum.up (by decide)) hr hgd (da_cons (de_var (pv 4)) (da_cons (de_ix (de_ix (de_var (pv 1)) de_int) de_int) da_nil))) (da_cons (de_call (k_l_sum.up (by decide)) hr hgd (da_cons (de_var (pv 5)) (da_cons (de_ix (de_ix (de_var (pv 1)) de_int) de_int) da_nil))) da_nil))) da_nil)))))))))
theorem b_l_moves (B : BF mg) (kk_p_turn : KnK P w K mg base "turn" ["way"] 7 S_p_turn) (k_l_draw : Kn P w K mg base "_law_draw" 2 1 S_l_draw) (k_l_norm : Kn P w K mg base "_law_norm" 2 4 S_l_norm) (k_l_product : Kn P w K mg base "_law_product" 2 3 S_l_product) (k_l_small : Kn P w K mg base "_law_small" 1 3 S_l_small) (k_l_sum : Kn P w K mg base "_law_sum" 2 3 S_l_sum) (k_p_is_lead : Kn P w K mg base "is_lead" 1 6 S_p_is_lead) (k_p_is_rigid : Kn P w K mg base "is_rigid" 1 7 S_p_is_rigid) (k_p_led_place : Kn P w K mg base "led_place" 2 7 S_p_led_place) (k_p_move : Kn P w K mg base "move" 1 6 S_p_move) (k_p_turn : Kn P w K mg base "turn" 1 6 S_p_turn) (cdv : Value) (A : Around) (outer : List Env) (s : Shared) (H : Hp) (hr : Room 7 (A.deeper (envOfC "_law_moves" (defScope s_l_moves) s.heap.objs.size f cdv))) (hgd : (A.deeper (envOfC "_law_moves" (defScope s_l_moves) s.heap.objs.size f cdv)).guards = some []) : DSs (cxOf CX0 P w K mg base N_l_moves "_law_moves" (defScope s_l_moves) f cdv A outer s H E0).nox (defBody s_l_moves) m_l_moves :=
    (dss_cons (ds_par3 (i := 1) (j := 2) (l := 3) rfl sc_l_moves.nd rfl rfl rfl (by decide) (by decide) (by decide) rfl rfl rfl (da_cons (de_tup (da_cons (de_call (k_l_small.up (by decide)) hr hgd (da_cons (de_var (pv 0)) da_nil)) (da_cons (de_call (k_l_small.up (by decide)) hr hgd (da_cons (de_var (pv 0)) da_nil)) da_nil))) (da_cons (de_call (k_l_small.up (by decide)) hr hgd (da_cons (de_var (pv 0)) da_nil)) (da_cons (de_call (k_l_small.up (by decide)) hr hgd (da_cons (de_var (pv 0)) da_nil)) da_nil))))
    (dss_cons (ds_if (dt_cmp od_neS (de_callB (cd_repr hr hgd) B.repr PyProof.Rows.boot_repr (da_cons (de_call (k_p_move.up (by decide)) hr hgd (da_cons (de_var (pv 1)) da_nil)) da_nil)) (de_callB (cd_repr hr hgd) B.repr PyProof.Rows.boot_repr (da_cons (de_tup (da_cons (de_tup (da_cons de_int (da_cons de_int da_nil))) (da_cons (de_tup (da_cons de_int (da_cons de_int da_nil))) (da_cons de_bl (da_cons (de_var (pv 1)) da_nil))))) da_nil))) (dss_one (ds_ret de_bl)) dss_nil)
    (dss_cons (ds_if (DW.dt (dw_and (dt_cmp od_eqI (de_ix (de_var (pv 2)) de_int) de_int) (dw_and1 (dt_cmp od_eqI (de_ix (de_var (pv 3)) de_int) de_int)))) (dss_one (ds_ret de_bl)) dss_nil)
    (dss_cons (ds_set (i := 4) sc_l_moves.nd rfl (.inl rfl) (de_call (k_l_norm.up (by decide)) hr hgd (da_cons (de_var (pv 2)) (da_cons (de_var (pv 3)) da_nil))))
    (dss_cons (ds_set (i := 5) sc_l_moves.nd rfl (.inl rfl) (de_tup (da_cons (de_ix (de_var (pv 4)) de_int) (da_cons (de_ix (de_var (pv 4)) de_int) da_nil))))
    (dss_cons (ds_set (i := 6) sc_l_moves.nd rfl (.inl rfl) (de_call (k_l_product.up (by decide)) hr hgd (da_cons (de_var (pv 5)) (da_cons (de_call (k_l_sum.up (by decide)) hr hgd (da_cons (de_call (k_l_product.up (by decide)) hr hgd (da_cons (de_var (pv 2)) (da_cons (de_var (pv 2)) da_nil))) (da_cons (de_call (k_l_product.up (by decide)) hr hgd (da_cons (de_var (pv 3)) (da_cons (de_tup (da_cons (de_bin od_sub de_int (de_ix (de_var (pv 3)) de_int)) (da_cons (de_ix (de_var (pv 3)) de_int) da_nil))) da_nil))) da_nil))) da_nil))))
    (dss_cons (ds_par (i := 7) (j := 8) rfl sc_l_moves.nd rfl rfl (by decide) rfl rfl (da_cons (de_call (k_l_product.up (by decide)) hr hgd (da_cons (de_var (pv 5)) (da_cons (de_call (k_l_product.up (by decide)) hr hgd (da_cons (de_tup (da_cons de_int (da_cons de_int da_nil))) (da_cons (de_call (k_l_product.up (by decide)) hr hgd (da_cons (de_var (pv 2)) (da_cons (de_var (pv 3)) da_nil))) da_nil))) da_nil))) (da_cons (de_tup (da_cons de_int (da_cons de_int da_nil))) da_nil)))
    (dss_cons (ds_set (i := 9) sc_l_moves.nd rfl (.inl rfl) (de_if (dt_cmp od_eqI (de_call (k_l_draw.up (by decide)) hr hgd (da_cons (de_var (pv 0)) (da_cons de_int da_nil))) de_int) (de_call (k_p_turn.up (by decide)) hr hgd (da_cons (de_tup (da_cons (de_var (pv 2)) (da_cons (de_var (pv 3)) da_nil))) da_nil)) (de_callK kk_p_turn hr hgd (dk_cons (de_tup (da_cons (de_var (pv 2)) (da_cons (de_var (pv 3)) da_nil))) dk_nil))))
    (dss_cons (ds_if (dt_cmp od_neS (de_callB (cd_repr hr hgd) B.repr PyProof.Rows.boot_repr (da_cons (de_var (pv 9)) da_nil)) (de_callB (cd_repr hr hgd) B.repr PyProof.Rows.boot_repr (da_cons (de_tup (da_cons (de_var (pv 6)) (da_cons (de_var (pv 7)) (da_cons de_bl (da_cons (de_tup (da_cons (de_var (pv 8)) (da_cons (de_var (pv 8)) da_nil))) da_nil))))) da_nil))) (dss_one (ds_ret de_bl)) dss_nil)
    (dss_one (ds_ret (de_cmp od_eqS (de_callB (cd_repr hr hgd) B.repr PyProof.Rows.boot_repr (da_cons (de_tup (da_cons (de_call (k_p_is_rigid.up (by decide)) hr hgd (da_cons (de_var (pv 9)) da_nil)) (da_cons (de_call (k_p_is_lead.up (by decide)) hr hgd (da_cons (de_var (pv 9)) da_nil)) (da_cons (de_call (k_p_led_place.up (by decide)) hr hgd (da_cons (de_var (pv 9)) (da_cons (de_tup (da_cons (de_tup (da_cons de_int (da_cons de_int da_nil))) (da_cons (de_var (pv 8)) da_nil))) da_nil))) da_nil)))) da_nil)) (de_callB (cd_repr hr hgd) B.repr PyProof.Rows.boot_repr (da_cons (de_tup (da_cons de_bl (da_cons de_bl (da_cons (de_tup (da_cons (de_var (pv 6)) (da_cons (de_var (pv 7)) da_nil))) da_nil)))) da_nil))))))))))))))
theorem b_l_mirrors (B : BF mg) (kk_p_mirror : KnK P w K mg base "mirror" ["curve"] 7 S_p_mirror) (k_l_line : Kn P w K mg base "_law_line" 3 4 S_l_line) (k_l_norm : Kn P w K mg base "_law_norm" 2 4 S_l_norm) (k_l_pick : Kn P w K mg base "_law_pick" 2 2 S_l_pick) (k_l_product : Kn P w K mg base "_law_product" 2 3 S_l_product) (k_l_small : Kn P w K mg base "_law_small" 1 3 S_l_small) (k_l_sum : Kn P w K mg base "_law_sum" 2 3 S_l_sum) (k_p_is_rigid : Kn P w K mg base "is_rigid" 1 7 S_p_is_rigid) (k_p_led_place : Kn P w K mg base "led_place" 2 7 S_p_led_place) (k_p_mirror : Kn P w K mg base "mirror" 1 6 S_p_mirror) (cdv : Value) (A : Around) (outer : List Env) (s : Shared) (H : Hp) (hr : Room 7 (A.deeper (envOfC "_law_mirrors" (defScope s_l_mirrors) s.heap.objs.size f cdv))) (hgd : (A.deeper (envOfC "_law_mirrors" (defScope s_l_mirrors) s.heap.objs.size f cdv)).guards = some []) : DSs (cxOf CX0 P w K mg base N_l_mirrors "_law_mirrors" (defScope s_l_mirrors) f cdv A outer s H E0).nox (defBody s_l_mirrors) m_l_mirrors :=
    (dss_cons (ds_set (i := 1) sc_l_mirrors.nd rfl (.inr rfl) (de_call (k_l_pick.up (by decide)) hr hgd (da_cons (de_var (pv 0)) (da_cons (de_tup (da_cons (de_tup (da_cons de_int (da_cons de_int da_nil))) (da_cons (de_tup (da_cons (de_neg de_int) (da_cons de_int da_nil))) (da_cons (de_tup (da_cons de_int (da_cons de_int da_nil))) (da_cons (de_tup (da_cons de_int (da_cons de_int da_nil))) da_nil))))) da_nil))))
    (dss_cons (ds_set (i := 2) sc_l_mirrors.nd rfl (.inl rfl) (de_call (k_l_line.up (by decide)) hr hgd (da_cons (de_var (pv 0)) (da_cons (de_tup (da_cons (de_call (k_l_small.up (by decide)) hr hgd (da_cons (de_var (pv 0)) da_nil)) (da_cons (de_call (k_l_small.up (by decide)) hr hgd (da_cons (de_var (pv 0)) da_nil)) da_nil))) (da_cons (de_tup (da_cons (de_tup (da_cons de_int (da_cons de_int da_nil))) (da_cons (de_tup (da_cons de_int (da_cons de_int da_nil))) da_nil))) da_nil)))))
    (dss_cons (ds_set (i := 2) sc_l_mirrors.nd rfl (.inl rfl) (de_bin od_catT (de_tup (da_cons de_str da_nil)) (de_callTy cd_tuple B.tuple_ PyProof.Rows.boot_tuple (da_cons (de_lcT rfl sc_l_mirrors.nd (de_cut (de_var (pv 2)) (end_some (i := 1)) end_none) (blkOk_by (own := [("_law_num", 15)]) (N := N_l_mirrors) (sc := defScope s_l_mirrors) (by decide +kernel)) (fun _ _ _ _ _ => pg_name (i := 15) sc_l_mirrors.nd rfl (Or.inl rfl)) (fun _ _ _ _ _ => dts_nil) (fun _ _ _ _ _ => (de_call (k_l_product.up (by decide)) hr hgd (da_cons (de_var (pv 1)) (da_cons (de_var (pv 15)) da_nil)))) s) da_nil))))
    (dss_cons (ds_asg (de_cut (de_var (pv 2)) (end_some (i := 1)) end_none) (dg_tup rfl (dgs_cons (dg_name (pg_name (i := 3) sc_l_mirrors.nd rfl (.inl rfl))) (dgs_cons (dg_name (pg_name (i := 4) sc_l_mirrors.nd rfl (.inl rfl))) (dgs_cons (dg_name (pg_name (i := 5) sc_l_mirrors.nd rfl (.inl rfl))) dgs_nil)))))
    (dss_cons (ds_set (i := 6) sc_l_mirrors.nd rfl (.inl rfl) (de_call (k_l_norm.up (by decide)) hr hgd (da_cons (de_var (pv 3)) (da_cons (de_var (pv 4)) da_nil))))
    (dss_cons (ds_par (i := 7) (j := 8) rfl sc_l_mirrors.nd rfl rfl (by decide) rfl rfl (da_cons (de_tup (da_cons (de_ix (de_var (pv 6)) de_int) (da_cons (de_ix (de_var (pv 6)) de_int) da_nil))) (da_cons (de_call (k_l_sum.up (by decide)) hr hgd (da_cons (de_call (k_l_product.up (by decide)) hr hgd (da_cons (de_var (pv 4)) (da_cons (de_var (pv 4)) da_nil))) (da_cons (de_call (k_l_product.up (by decide)) hr hgd (da_cons (de_var (pv 3)) (da_cons (de_tup (da_cons (de_bin od_sub de_int (de_ix (de_var (pv 3)) de_int)) (da_cons (de_ix (de_var (pv 3)) de_int) da_nil))) da_nil))) da_nil))) da_nil)))
    (dss_cons (ds_set (i := 9) sc_l_mirrors.nd rfl (.inl rfl) (de_call (k_l_product.up (by decide)) hr hgd (da_cons (de_var (pv 7)) (da_cons (de_call (k_l_product.up (by decide)) hr hgd (da_cons (de_tup (da_cons (de_neg de_int) (da_cons de_int da_nil))) (da_cons (de_call (k_l_product.up (by decide)) hr hgd (da_cons (de_var (pv 3)) (da_cons (de_var (pv 4)) da_nil))) da_nil))) da_nil))))
    (dss_cons (ds_set (i := 10) sc_l_mirrors.nd rfl (.inl rfl) (de_call (k_l_product.up (by decide)) hr hgd (da_cons (de_var (pv 7)) (da_cons (de_call (k_l_product.up (by decide)) hr hgd (da_cons (de_tup (da_cons de_int (da_cons de_int da_nil))) (da_cons (de_var (pv 5)) da_nil))) da_nil))))
    (dss_cons (ds_set (i := 11) sc_l_mirrors.nd rfl (.inl rfl) (de_tup (da_cons (de_call (k_l_product.up (by decide)) hr hgd (da_cons (de_var (pv 7)) (da_cons (de_var (pv 8)) da_nil))) (da_cons (de_var (pv 9)) (da_cons de_bl (da_cons (de_tup (da_cons (de_call (k_l_product.up (by decide)) hr hgd (da_cons (de_var (pv 10)) (da_cons (de_var (pv 3)) da_nil))) (da_cons (de_call (k_l_product.up (by decide)) hr hgd (da_cons (de_var (pv 10)) (da_cons (de_var (pv 4)) da_nil))) da_nil))) da_nil))))))
    (dss_cons (ds_par (i := 12) (j := 13) rfl sc_l_mirrors.nd rfl rfl (by decide) rfl rfl (da_cons (de_call (k_p_mirror.up (by decide)) hr hgd (da_cons (de_var (pv 2)) da_nil)) (da_cons (de_tup (da_cons (de_call (k_l_small.up (by decide)) hr hgd (da_cons (de_var (pv 0)) da_nil)) (da_cons (de_call (k_l_small.up (by decide)) hr hgd (da_cons (de_var (pv 0)) da_nil)) da_nil))) da_nil)))
    (dss_cons (ds_if (DW.dt (dw_or (dt_cmp od_neS (de_callB (cd_repr hr hgd) B.repr PyProof.Rows.boot_repr (da_cons (de_var (pv 12)) da_nil)) (de_callB (cd_repr hr hgd) B.repr PyProof.Rows.boot_repr (da_cons (de_var (pv 11)) da_nil))) (dw_or1 (dt_cmp od_neS (de_callB (cd_repr hr hgd) B.repr PyProof.Rows.boot_repr (da_cons (de_callK kk_p_mirror hr hgd (dk_cons (de_var (pv 2)) dk_nil)) da_nil)) (de_callB (cd_repr hr hgd) B.repr PyProof.Rows.boot_repr (da_cons (de_var (pv 11)) da_nil)))))) (dss_one (ds_ret de_bl)) dss_nil)
    (dss_cons (ds_if (DW.dt (dw_or (dt_cmp od_neS (de_callB (cd_repr hr hgd) B.repr PyProof.Rows.boot_repr (da_cons (de_call (k_p_led_place.up (by decide)) hr hgd (da_cons (de_var (pv 11)) (da_cons (de_call (k_p_led_place.up (by decide)) hr hgd (da_cons (de_var (pv 11)) (da_cons (de_var (pv 13)) da_nil))) da_nil))) da_nil)) (de_callB (cd_repr hr hgd) B.repr PyProof.Rows.boot_repr (da_cons (de_var (pv 13)) da_nil))) (dw_or1 (dt_not (dt_val (de_call (k_p_is_rigid.up (by decide)) hr hgd (da_cons (de_var (pv 11)) da_nil))))))) (dss_one (ds_ret de_bl)) dss_nil)
    (dss_cons (ds_set (i := 14) sc_l_mirrors.nd rfl (.inl rfl) (de_tup (da_cons (de_call (k_l_product.up (by decide)) hr hgd (da_cons (de_call (k_l_product.up (by decide)) hr hgd (da_cons (de_var (pv 10)) (da_cons (de_tup (da_cons de_int (da_cons de_int da_nil))) da_nil))) (da_cons (de_var (pv 3)) da_nil))) (da_cons (de_call (k_l_product.up (by decide)) hr hgd (da_cons (de_call (k_l_product.up (by decide)) hr hgd (da_cons (de_var (pv 10)) (da_cons (de_tup (da_cons de_int (da_cons de_int da_nil))) da_nil))) (da_cons (de_var (pv 4)) da_nil))) da_nil))))
    (dss_one (ds_ret (de_cmp od_eqS (de_callB (cd_repr hr hgd) B.repr PyProof.Rows.boot_repr (da_cons (de_call (k_p_led_place.up (by decide)) hr hgd (da_cons (de_var (pv 11)) (da_cons (de_var (pv 14)) da_nil))) da_nil)) (de_callB (cd_repr hr hgd) B.repr PyProof.Rows.boot_repr (da_cons (de_var (pv 14)) da_nil))))))))))))))))))
theorem b_l_right (B : BF mg) (kk_p_behind : KnK P w K mg base "behind" ["later", "lead"] 8 S_p_behind) (kk_p_led_place : KnK P w K mg base "led_place" ["place", "lead"] 8 S_p_led_place) (k_l_at : Kn P w K mg base "_law_at" 2 3 S_l_at) (k_l_both : Kn P w K mg base "_law_both" 2 5 S_l_both) (k_l_bows : Kn P w K mg base "_law_bows" 2 7 S_l_bows) (k_l_flat : Kn P w K mg base "_law_flat" 1 1 S_l_flat) (k_l_led : Kn P w K mg base "_law_led" 2 5 S_l_led) (k_l_led_spot : Kn P w K mg base "_law_led_spot" 2 1 S_l_led_spot) (k_l_marks : Kn P w K mg base "_law_marks" 1 6 S_l_marks) (k_l_mirrors : Kn P w K mg base "_law_mirrors" 1 8 S_l_mirrors) (k_l_moves : Kn P w K mg base "_law_moves" 1 8 S_l_moves) (k_l_norm : Kn P w K mg base "_law_norm" 2 4 S_l_norm) (k_l_pick : Kn P w K mg base "_law_pick" 2 2 S_l_pick) (k_l_product : Kn P w K mg base "_law_product" 2 3 S_l_product) (k_l_rule : Kn P w K mg base "_law_rule" 1 4 S_l_rule) (k_l_spot : Kn P w K mg base "_law_spot" 3 6 S_l_spot) (k_l_told : Kn P w K mg base "_law_told" 1 4 S_l_told) (k_l_undone : Kn P w K mg base "_law_undone" 1 5 S_l_undone) (k_p_back : Kn P w K mg base "back" 1 7 S_p_back) (k_p_behind : Kn P w K mg base "behind" 2 7 S_p_behind) (k_p_is_lead : Kn P w K mg base "is_lead" 1 6 S_p_is_lead) (k_p_is_rigid : Kn P w K mg base "is_rigid" 1 7 S_p_is_rigid) (k_p_led_curve : Kn P w K mg base "led_curve" 2 7 S_p_led_curve) (k_p_led_place : Kn P w K mg base "led_place" 2 7 S_p_led_place) (k_p_sign_at : Kn P w K mg base "sign_at" 2 7 S_p_sign_at) (cdv : Value) (A : Around) (outer : List Env) (s : Shared) (H : Hp) (hr : Room 8 (A.deeper (envOfC "_law_right" (defScope s_l_right) s.heap.objs.size f cdv))) (hgd : (A.deeper (envOfC "_law_right" (defScope s_l_right) s.heap.objs.size f cdv)).guards = some []) : DSs (cxOf CX0 P w K mg base N_l_right "_law_right" (defScope s_l_right) f cdv A outer s H E0).nox (defBody s_l_right) m_l_right :=
    (dss_cons (ds_par3 (i := 1) (j := 2) (l := 3) rfl sc_l_right.nd rfl rfl rfl (by decide) (by decide) (by decide) rfl rfl rfl (da_cons (de_call (k_l_rule.up (by decide)) hr hgd (da_cons (de_var (pv 0)) da_nil)) (da_cons (de_call (k_l_rule.up (by decide)) hr hgd (da_cons (de_var (pv 0)) da_nil)) (da_cons (de_call (k_l_bows.up (by decide)) hr hgd (da_cons (de_var (pv 0)) (da_cons de_int da_nil))) da_nil))))
    (dss_cons (ds_set (i := 4) sc_l_right.nd rfl (.inl rfl) (de_call (k_l_pick.up (by decide)) hr hgd (da_cons (de_var (pv 0)) (da_cons (de_var (pv 3)) da_nil))))
    (dss_cons (ds_if (dt_cmp od_eqS (de_ix (de_var (pv 4)) de_int) de_str) (dss_cons (ds_set (i := 5) sc_l_right.nd rfl (.inr rfl) (de_call (k_l_pick.up (by decide)) hr hgd (da_cons (de_var (pv 0)) (da_cons (de_tup (da_cons (de_tup (da_cons de_int (da_cons de_int da_nil))) (da_cons (de_tup (da_cons (de_neg de_int) (da_cons de_int da_nil))) (da_cons (de_tup (da_cons de_int (da_cons de_int da_nil))) (da_cons (de_tup (da_cons (de_neg de_int) (da_cons de_int da_nil))) da_nil))))) da_nil))))
    (dss_one (ds_set (i := 4) sc_l_right.nd rfl (.inl rfl) (de_bin od_catT (de_tup (da_cons de_str da_nil)) (de_callTy cd_tuple B.tuple_ PyProof.Rows.boot_tuple (da_cons (de_lcT rfl sc_l_right.nd (de_cut (de_var (pv 4)) (end_some (i := 1)) end_none) (blkOk_by (own := [("_law_num", 14)]) (N := N_l_right) (sc := defScope s_l_right) (by decide +kernel)) (fun _ _ _ _ _ => pg_name (i := 14) sc_l_right.nd rfl (Or.inl rfl)) (fun _ _ _ _ _ => dts_nil) (fun _ _ _ _ _ => (de_call (k_l_product.up (by decide)) hr hgd (da_cons (de_var (pv 5)) (da_cons (de_var (pv 14)) da_nil)))) s) da_nil)))))) dss_nil)
    (dss_cons (ds_setLcL (l := 7) rfl sc_l_right.nd rfl rfl (sw_true rfl rfl rfl (by decide +kernel)) (de_var (pv 3)) (blkOk_by (own := [("_law_each", 6)]) (N := N_l_right) (sc := defScope s_l_right) (by decide +kernel)) (fun _ _ _ _ _ => pg_name (i := 6) sc_l_right.nd rfl (Or.inl rfl)) (fun _ _ _ _ _ => dts_nil) (fun _ _ _ _ _ => (de_call (k_l_flat.up (by decide)) hr hgd (da_cons (de_var (pv 6)) da_nil))) s)
    (dss_cons (ds_set (i := 8) sc_l_right.nd rfl (.inl rfl) (de_call (k_l_spot.up (by decide)) hr hgd (da_cons (de_var (pv 0)) (da_cons (de_var (pv 7)) (da_cons (de_call (k_l_marks.up (by decide)) hr hgd (da_cons (de_var (pv 7)) da_nil)) da_nil)))))
    (dss_cons (ds_par3 (i := 9) (j := 10) (l := 11) rfl sc_l_right.nd rfl rfl rfl (by decide) (by decide) (by decide) rfl rfl rfl (da_cons (de_call (k_l_led_spot.up (by decide)) hr hgd (da_cons (de_var (pv 1)) (da_cons (de_var (pv 8)) da_nil))) (da_cons (de_call (k_l_led.up (by decide)) hr hgd (da_cons (de_var (pv 1)) (da_cons (de_var (pv 4)) da_nil))) (da_cons (de_call (k_l_both.up (by decide)) hr hgd (da_cons (de_var (pv 1)) (da_cons (de_var (pv 2)) da_nil))) da_nil))))
    (dss_cons (ds_par (i := 12) (j := 13) rfl sc_l_right.nd rfl rfl (by decide) rfl rfl (da_cons (de_call (k_l_told.up (by decide)) hr hgd (da_cons (de_var (pv 8)) da_nil)) (da_cons (de_call (k_l_told.up (by decide)) hr hgd (da_cons (de_var (pv 9)) da_nil)) da_nil)))
    (dss_cons (ds_if (dt_cmp od_neS (de_callB (cd_repr hr hgd) B.repr PyProof.Rows.boot_repr (da_cons (de_tup (da_cons (de_call (k_p_led_place.up (by decide)) hr hgd (da_cons (de_var (pv 1)) (da_cons (de_var (pv 12)) da_nil))) (da_cons (de_call (k_p_led_curve.up (by decide)) hr hgd (da_cons (de_var (pv 1)) (da_cons (de_var (pv 4)) da_nil))) da_nil))) da_nil)) (de_callB (cd_repr hr hgd) B.repr PyProof.Rows.boot_repr (da_cons (de_tup (da_cons (de_var (pv 13)) (da_cons (de_var (pv 10)) da_nil))) da_nil))) (dss_one (ds_ret de_bl)) dss_nil)
    (dss_cons (ds_if (dt_cmp od_neS (de_callB (cd_repr hr hgd) B.repr PyProof.Rows.boot_repr (da_cons (de_call (k_p_sign_at.up (by decide)) hr hgd (da_cons (de_var (pv 10)) (da_cons (de_var (pv 13)) da_nil))) da_nil)) (de_callB (cd_repr hr hgd) B.repr PyProof.Rows.boot_repr (da_cons (de_call (k_l_at.up (by decide)) hr hgd (da_cons (de_call (k_l_flat.up (by decide)) hr hgd (da_cons (de_var (pv 4)) da_nil)) (da_cons (de_var (pv 8)) da_nil))) da_nil))) (dss_one (ds_ret de_bl)) dss_nil)
    (dss_cons (ds_if (dt_cmp od_neS (de_callB (cd_repr hr hgd) B.repr PyProof.Rows.boot_repr (da_cons (de_tup (da_cons (de_call (k_p_behind.up (by decide)) hr hgd (da_cons (de_var (pv 1)) (da_cons (de_var (pv 2)) da_nil))) (da_cons (de_callK kk_p_behind hr hgd (dk_cons (de_var (pv 2)) (dk_cons (de_var (pv 1)) dk_nil))) da_nil))) da_nil)) (de_callB (cd_repr hr hgd) B.repr PyProof.Rows.boot_repr (da_cons (de_tup (da_cons (de_var (pv 11)) (da_cons (de_var (pv 11)) da_nil))) da_nil))) (dss_one (ds_ret de_bl)) dss_nil)
    (dss_cons (ds_if (dt_cmp od_neS (de_callB (cd_repr hr hgd) B.repr PyProof.Rows.boot_repr (da_cons (de_callK kk_p_led_place hr hgd (dk_cons (de_var (pv 12)) (dk_cons (de_var (pv 11)) dk_nil))) da_nil)) (de_callB (cd_repr hr hgd) B.repr PyProof.Rows.boot_repr (da_cons (de_call (k_l_told.up (by decide)) hr hgd (da_cons (de_call (k_l_led_spot.up (by decide)) hr hgd (da_cons (de_var (pv 2)) (da_cons (de_var (pv 9)) da_nil))) da_nil)) da_nil))) (dss_one (ds_ret de_bl)) dss_nil)
    (dss_cons (ds_if (dt_cmp od_neS (de_callB (cd_repr hr hgd) B.repr PyProof.Rows.boot_repr (da_cons (de_tup (da_cons (de_call (k_p_back.up (by decide)) hr hgd (da_cons (de_var (pv 1)) da_nil)) (da_cons (de_call (k_p_led_place.up (by decide)) hr hgd (da_cons (de_call (k_p_back.up (by decide)) hr hgd (da_cons (de_var (pv 1)) da_nil)) (da_cons (de_var (pv 13)) da_nil))) (da_cons (de_call (k_p_is_lead.up (by decide)) hr hgd (da_cons (de_var (pv 1)) da_nil)) da_nil)))) da_nil)) (de_callB (cd_repr hr hgd) B.repr PyProof.Rows.boot_repr (da_cons (de_tup (da_cons (de_call (k_l_undone.up (by decide)) hr hgd (da_cons (de_var (pv 1)) da_nil)) (da_cons (de_var (pv 12)) (da_cons de_bl da_nil)))) da_nil))) (dss_one (ds_ret de_bl)) dss_nil)
    (dss_cons (ds_forT PassesOwn.never rfl (de_tup (da_cons (de_var (pv 1)) (da_cons (de_var (pv 11)) da_nil))) (pg_name (i := 6) sc_l_right.nd rfl (.inl rfl)) (dss_one (ds_if (dt_cmp od_neS (de_callB (cd_repr hr hgd) B.repr PyProof.Rows.boot_repr (da_cons (de_call (k_p_is_rigid.up (by decide)) hr hgd (da_cons (de_var (pv 6)) da_nil)) da_nil)) (de_callB (cd_repr hr hgd) B.repr PyProof.Rows.boot_repr (da_cons (de_cmp (od_eq hr) (de_call (k_l_norm.up (by decide)) hr hgd (da_cons (de_ix (de_var (pv 6)) de_int) (da_cons (de_ix (de_var (pv 6)) de_int) da_nil))) (de_tup (da_cons de_int (da_cons de_int da_nil)))) da_nil))) (dss_one (ds_ret de_bl)) dss_nil)))
    (dss_one (ds_ret (de_and (de_call (k_l_moves.up (by decide)) hr hgd (da_cons (de_var (pv 0)) da_nil)) (de_one (de_call (k_l_mirrors.up (by decide)) hr hgd (da_cons (de_var (pv 0)) da_nil)))))))))))))))))))
end
end GD
end

section
set_option Elab.async false
set_option linter.all false
set_option maxRecDepth 100000
set_option exponentiation.threshold 500
set_option maxHeartbeats 4000000
/-! LT: what the law's defs compute: draws, whole numbers. -/
namespace GD
open PySem PySem.Spec PyProof.Rows L2 GQ
theorem sem_l_pick {ds : List PyData} {P : PyData → Prop} : S_l_pick ds P → m_l_pick (startD N_l_pick ds) (fun _ => P .none) P := by
  rintro ⟨⟨il, xs⟩, rfl, hne, h⟩
  have hne : xs ≠ [] := hne
  have h : ∀ d, d ∈ xs → P d := h
  have hlen : (0 : Int) < (xs.length : Int) := by
    cases xs with
    | nil => exact absurd rfl hne
    | cons x r => simp only [List.length_cons]; omega
  have fin : ∀ d : PyData, (∃ i : Int, (0 ≤ i ∧ i < (xs.length : Int)) ∧ d = .int i) → ∃ i : Nat, d = .int (.ofNat i) ∧ ∃ e, xs[i]? = some e := by
    rintro d ⟨i, ⟨h0, h1⟩, rfl⟩
    obtain ⟨n, rfl⟩ := Int.eq_ofNat_of_zero_le h0
    exact ⟨n, rfl, _, List.getElem?_eq_getElem (by omega)⟩
  cases il with
  | true =>
    intro hs
    refine ⟨_, rfl, ⟨hlen, by omega⟩, ?_⟩
    intro d hd
    obtain ⟨i, rfl, e, he⟩ := fin d hd
    exact lget_of he (h e (List.mem_of_getElem? he))
  | false =>
    intro hs
    refine ⟨_, rfl, ⟨hlen, by omega⟩, ?_⟩
    intro d hd
    obtain ⟨i, rfl, e, he⟩ := fin d hd
    exact lget_of he (h e (List.mem_of_getElem? he))
/-! ### divisor -/
def euB : MS := (dSeq (dIfS (dtVal (dBin kEqI (dVar 3) (dC (.int 0)))) (dRet (dVar 2)) dNext)
    (dPar 2 3 (dCons (dVar 3) (dCons (dBin kMod (dCall kInt (dCons (dVar 2) dNil)) (dVar 3)) dNil))))
theorem fmod_nat (f l : Nat) : (f : Int).fmod (l : Int) = ((f % l : Nat) : Int) := by
  rw [Int.fmod_eq_emod_of_nonneg _ (Int.natCast_nonneg _)]
  rfl
theorem eu_step {a b : Option PyData} {f l : Nat} {x : Option PyData} {N : En → Prop} {P : PyData → Prop} (h0 : l = 0 → P (.int f)) (h1 : l ≠ 0 → N [a, b, some (.int l), some (.int (f % l : Nat)), x]) :
    euB [a, b, some (.int f), some (.int l), x] N P := by
  by_cases z : l = 0
  · subst z
    exact h0 rfl
  · refine cho_f (c := decide ((l : Int) = 0)) (decide_eq_false (by omega)) ?_
    refine ⟨by omega, ?_⟩
    show N [a, b, some (.int (l : Int)), some (.int ((f : Int).fmod (l : Int))), x]
    rw [fmod_nat]
    exact h1 z
theorem eu_loop (a b : Option PyData) {N : En → Prop} {P : PyData → Prop} : ∀ (xs : List PyData) (f l k : Nat) (x : Option PyData), l ≤ f → f * l < 2 ^ k → k < xs.length → P (.int (Nat.gcd f l : Nat)) → loopD 4 euB xs [a, b, some (.int f), some (.int l), x] N P
  | [], _, _, _, _, _, _, hk, _ => absurd hk (Nat.not_lt_zero _)
  | y :: ys, f, l, k, x, hlf, hp, hk, h => by
    show euB [a, b, some (.int f), some (.int l), some y] _ P
    refine eu_step (fun z => ?_) (fun z => ?_)
    · subst z
      rw [Nat.gcd_zero_right] at h
      exact h
    · have hl : 0 < l := Nat.pos_of_ne_zero z
      cases k with
      | zero =>
        have : 0 < f * l := Nat.mul_pos (Nat.lt_of_lt_of_le hl hlf) hl
        rw [Nat.pow_zero] at hp
        omega
      | succ k =>
        have hm := Nat.mod_lt f hl
        refine eu_loop a b ys l (f % l) k (some y) (Nat.le_of_lt hm) ?_ (by simpa using hk) ?_
        · have e : l + f % l ≤ f := by
            have e1 := Nat.div_add_mod f l
            have e2 : 1 ≤ f / l := (Nat.one_le_div_iff hl).mpr hlf
            have e3 : l * 1 ≤ l * (f / l) := Nat.mul_le_mul_left l e2
            omega
          have e4 : 2 * (f % l) ≤ f := by omega
          have e5 : 2 * (f % l) * l ≤ f * l := Nat.mul_le_mul_right l e4
          have e6 : l * (f % l) = (f % l) * l := Nat.mul_comm _ _
          rw [Nat.pow_succ] at hp
          rw [e6]
          have e7 : 2 * (f % l) * l = 2 * ((f % l) * l) := Nat.mul_assoc _ _ _
          omega
        · rw [Nat.gcd_comm l, ← Nat.gcd_rec, Nat.gcd_comm]
          exact h
theorem len_rangeD (n : Nat) : (rangeD (n : Int)).length = n := by
  unfold rangeD
  rw [List.length_map, List.length_range, Int.toNat_natCast]
theorem sem_l_divisor {ds : List PyData} {P : PyData → Prop} : S_l_divisor ds P → m_l_divisor (startD N_l_divisor ds) (fun _ => P .none) P := by
  rintro ⟨⟨i, j⟩, rfl, hj, h⟩
  have hj : Bi 4400 j := hj
  have h : P (.int (Nat.gcd i.natAbs j.natAbs : Nat)) := h
  refine ⟨trivial, trivial, ⟨by decide, by decide⟩, ?_⟩
  show loopD 4 euB (rangeD ((9000 : Nat) : Int)) [some (.int i), some (.int j), some (.int (i.natAbs : Int)), some (.int (j.natAbs : Int)), none] _ P
  have hl := len_rangeD 9000
  generalize rangeD ((9000 : Nat) : Int) = xs at hl ⊢
  cases xs with
  | nil => exact absurd hl (by decide)
  | cons y ys =>
    show euB [some (.int i), some (.int j), some (.int (i.natAbs : Int)), some (.int (j.natAbs : Int)), some y] _ P
    refine eu_step (fun z => ?_) (fun z => ?_)
    · rw [z, Nat.gcd_zero_right] at h
      exact h
    · have hp : 0 < j.natAbs := Nat.pos_of_ne_zero z
      have hm := Nat.mod_lt i.natAbs hp
      refine eu_loop _ _ ys j.natAbs (i.natAbs % j.natAbs) (4400 + 4400) _ (Nat.le_of_lt hm) ?_ ?_ ?_
      · rw [Nat.pow_add]
        exact Nat.mul_lt_mul'' hj (Nat.lt_trans hm hj)
      · have : ys.length + 1 = 9000 := hl
        omega
      · rw [Nat.gcd_comm j.natAbs, ← Nat.gcd_rec, Nat.gcd_comm]
        exact h
theorem sem_l_lean {ds : List PyData} {P : PyData → Prop} : S_l_lean ds P → m_l_lean (startD N_l_lean ds) (fun _ => P .none) P := by
  rintro ⟨⟨t, l⟩, rfl, ⟨h0, hb⟩, h⟩
  have h0 : 0 < l := h0
  have hb : Bi 4400 l := hb
  refine ⟨(t, l), rfl, hb, ?_⟩
  refine cho_t (c := decide (0 < l)) (decide_eq_true h0) ?_
  have dv := gcd_dv (t := t) h0 (hb.mono (by decide))
  refine ⟨dv, dv, le1000 rfl, ?_⟩
  show P (.tuple [.int (t.fdiv ((Nat.gcd t.natAbs l.natAbs : Nat) : Int)), .int (l.fdiv ((Nat.gcd t.natAbs l.natAbs : Nat) : Int))])
  rw [low_num h0, low_den h0]
  exact h
theorem OkL.parts {p q : Rat} (h : OkL p q) : (0 < ((p.den : Int) * q.den) ∧ Bi 4400 ((p.den : Int) * q.den)) ∧ (Sm p.num ∧ Sm p.den) ∧ Sm q.num ∧ Sm q.den := by
  obtain ⟨n, d, m, e, ⟨h, k⟩, h1, h2, h3⟩ := h
  exact ⟨⟨Int.mul_pos (den_pos' p) (den_pos' q), (h.den.mul k.den).mono h3⟩, ⟨h.num.sm (by omega), h.den.sm (by omega)⟩, k.num.sm (by omega), k.den.sm (by omega)⟩
theorem sem_l_sum {ds : List PyData} {P : PyData → Prop} : S_l_sum ds P → m_l_sum (startD N_l_sum ds) (fun _ => P .none) P := by
  rintro ⟨⟨p, q⟩, rfl, hk, h⟩
  obtain ⟨hd, ⟨a, b⟩, c, d⟩ := OkL.parts hk
  refine ⟨⟨a, d⟩, ⟨c, b⟩, ⟨b, d⟩, (_, _), rfl, hd, ?_⟩
  show P (encQ (Rat.divInt _ _))
  rw [fr_add]
  exact h
theorem sem_l_product {ds : List PyData} {P : PyData → Prop} : S_l_product ds P → m_l_product (startD N_l_product ds) (fun _ => P .none) P := by
  rintro ⟨⟨p, q⟩, rfl, hk, h⟩
  obtain ⟨hd, ⟨a, b⟩, c, d⟩ := OkL.parts hk
  refine ⟨⟨a, c⟩, ⟨b, d⟩, (_, _), rfl, hd, ?_⟩
  show P (encQ (Rat.divInt _ _))
  rw [fr_mul]
  exact h
/-! ### signs -/
theorem sg_int (i : Int) : (if 0 < i then 1 else 0) - (if i < 0 then 1 else 0) = sg (i : Rat) := by
  have := sg_num (i : Rat)
  exact this
theorem sem_l_side {ds : List PyData} {P : PyData → Prop} : S_l_side ds P → m_l_side (startD N_l_side ds) (fun _ => P .none) P := by
  rintro ⟨i, rfl, _, h⟩
  have h : P (.int (sg (i : Rat))) := h
  rw [← sg_int] at h
  show P (.int _)
  by_cases a : 0 < i <;> by_cases b : i < 0 <;> simp only [a, b, if_true, if_false, decide_true, decide_false] at h ⊢ <;> exact h
/-- the second sign of sign -/
def sl2 (b : Rat) (r : Int) : Int := if 0 < r then sg b else 0
theorem sl2_a {a b : Rat} {r : Int} (h : sl2 b r = 0 ∨ sg a = sl2 b r) : sg a = sgQ a b r := by
  unfold sl2 sgQ at *
  by_cases hr : r ≤ 0
  · rw [if_pos (.inl hr)]
  · have hr' : 0 < r := by omega
    rw [if_pos hr'] at h
    rcases sg_cases b with ⟨hb, eb⟩ | ⟨hb, eb⟩ | ⟨hb, eb⟩
    · rw [eb] at h
      have ea : sg a = 1 := by
        rcases h with h | h
        · exact absurd h (by decide)
        · exact h
      rcases sg_cases a with ⟨ha, e⟩ | ⟨ha, e⟩ | ⟨ha, e⟩
      · rw [ea, if_neg (by grind), if_pos hb, if_pos (.inl ha)]
      · rw [e] at ea
        exact absurd ea (by decide)
      · rw [e] at ea
        exact absurd ea (by decide)
    · rw [eb] at h
      have ea : sg a = -1 := by
        rcases h with h | h
        · exact absurd h (by decide)
        · exact h
      rcases sg_cases a with ⟨ha, e⟩ | ⟨ha, e⟩ | ⟨ha, e⟩
      · rw [e] at ea
        exact absurd ea (by decide)
      · rw [ea, if_neg (by grind), if_neg (by grind), if_pos (.inl ha)]
      · rw [e] at ea
        exact absurd ea (by decide)
    · rw [if_pos (.inr hb)]
theorem sl2_b {a b : Rat} {r : Int} (h1 : ¬ sl2 b r = 0) (h2 : ¬ sg a = sl2 b r) : (if sg a = 0 then sl2 b r else sg a * sg (a * a - b * b * r)) = sgQ a b r := by
  unfold sl2 at *
  by_cases hr : 0 < r
  · rw [if_pos hr] at *
    have rp : (0 : Rat) < (r : Rat) := Rat.intCast_pos.mpr hr
    have hr1 : r ≠ 0 := by omega
    have e2 : sg2 b r = sg b := if_pos hr1
    rcases sg_cases a with ⟨ha, ea⟩ | ⟨ha, ea⟩ | ⟨ha, ea⟩
    · rcases sg_cases b with ⟨hb, eb⟩ | ⟨hb, eb⟩ | ⟨hb, eb⟩
      · exact absurd (ea.trans eb.symm) h2
      · have := sg1_b (a := a) (b := b) (r := r) (by omega) (by rw [e2, ea, eb]; decide)
        rw [← this, e2, ea, eb, if_neg (by decide)]
        rcases sg_cases (a * a - b * b * (r : Rat)) with ⟨_, e⟩ | ⟨_, e⟩ | ⟨_, e⟩ <;> rw [e] <;> decide
      · exact absurd eb h1
    · rcases sg_cases b with ⟨hb, eb⟩ | ⟨hb, eb⟩ | ⟨hb, eb⟩
      · have := sg1_b (a := a) (b := b) (r := r) (by omega) (by rw [e2, ea, eb]; decide)
        rw [← this, e2, ea, eb, if_neg (by decide)]
        rcases sg_cases (a * a - b * b * (r : Rat)) with ⟨_, e⟩ | ⟨_, e⟩ | ⟨_, e⟩ <;> rw [e] <;> decide
      · exact absurd (ea.trans eb.symm) h2
      · exact absurd eb h1
    · have := sg1_a (a := a) (b := b) (r := r) (by omega) (by rw [ea, Int.zero_mul]; exact Int.le_refl 0)
      rw [← this, e2, ea]
      rfl
  · rw [if_neg hr] at h1
    exact absurd rfl h1
theorem cast_sq (a b r : Int) : ((a * a - b * b * r : Int) : Rat) = (a : Rat) * a - (b : Rat) * b * r := by
  rw [Rat.intCast_sub, Rat.intCast_mul, Rat.intCast_mul, Rat.intCast_mul]
theorem sem_l_sign {ds : List PyData} {P : PyData → Prop} : S_l_sign ds P → m_l_sign (startD N_l_sign ds) (fun _ => P .none) P := by
  rintro ⟨⟨a, b, r⟩, rfl, ⟨⟨ha, hb⟩, hr⟩, h⟩
  have ha : Bi 50000 a := ha
  have hb : Bi 50000 b := hb
  have hr : Bi 50000 r := hr
  have h : P (.int (sgQ (a : Rat) (b : Rat) r)) := h
  refine ⟨a, rfl, trivial, ?_⟩
  have go : dIfS (dtOr (dtVal (dBin kEqI (dVar 4) (dC (.int 0)))) (dtVal (dBin kEqI (dVar 3) (dVar 4)))) (dRet (dVar 3)) dNext [some (.int a), some (.int b), some (.int r), some (.int (sg (a : Rat))), some (.int (sl2 (b : Rat) r))]
      (fun en => dRet (dIf (dtVal (dBin kEqI (dVar 3) (dC (.int 0)))) (dVar 4) (dBin kMul (dVar 3) (dCall S_l_side (dCons (dBin kSub (dBin kMul (dVar 0) (dVar 0)) (dBin kMul (dBin kMul (dVar 1) (dVar 1)) (dVar 2))) dNil)))) en (fun _ => P .none) P) P := by
    refine cho_2 (c := decide (sl2 (b : Rat) r = 0)) (fun e => ?_) (fun e1 => ?_)
    · rw [← sl2_a (.inl (of_decide_eq_true e))] at h
      exact h
    refine cho_2 (c := decide (sg (a : Rat) = sl2 (b : Rat) r)) (fun e => ?_) (fun e2 => ?_)
    · rw [← sl2_a (.inr (of_decide_eq_true e))] at h
      exact h
    rw [← sl2_b (of_decide_eq_false e1) (of_decide_eq_false e2)] at h
    refine cho_2 (c := decide (sg (a : Rat) = 0)) (fun e => ?_) (fun e => ?_)
    · rw [if_pos (of_decide_eq_true e)] at h
      exact h
    · rw [if_neg (of_decide_eq_false e), ← cast_sq] at h
      have s1 : Sm (sg (a : Rat)) := (sg_bi _).sm (by decide)
      refine ⟨⟨ha.sm (by decide), ha.sm (by decide)⟩, ⟨hb.sm (by decide), hb.sm (by decide)⟩, ⟨(hb.mul hb).sm (by decide), hr.sm (by decide)⟩, _, rfl, trivial, ⟨s1, (sg_bi _).sm (by decide)⟩, h⟩
  unfold sl2 at go
  by_cases e : 0 < r
  · rw [if_pos e] at go
    refine cho_t (c := decide (0 < r)) (decide_eq_true e) ?_
    exact ⟨b, rfl, trivial, go⟩
  · rw [if_neg e] at go
    exact cho_f (c := decide (0 < r)) (decide_eq_false e) go
theorem sem_l_sign_two {ds : List PyData} {P : PyData → Prop} : S_l_sign_two ds P → m_l_sign_two (startD N_l_sign_two ds) (fun _ => P .none) P := by
  rintro ⟨⟨a, b, r, c, s⟩, rfl, ⟨⟨ha, hb⟩, hr, hc, hs⟩, h⟩
  have ha : Bi 4000 a := ha
  have hb : Bi 4000 b := hb
  have hr : Bi 4000 r := hr
  have hc : Bi 4000 c := hc
  have hs : Bi 4000 s := hs
  have h : ∀ i : Int, P (.int i) := fun i => h _ ⟨i, rfl⟩
  refine ⟨(a, b, r), rfl, ⟨⟨ha.mono (by decide), hb.mono (by decide)⟩, hr.mono (by decide)⟩, ?_⟩
  have s2 : Bi 2 2 := Bi.lit (by decide)
  have fin : ∀ y : Int, Bi 1 y → (fun e : PyData => dIfS (dtOr (dtVal (dBin kEqI (dVar 6) (dC (.int 0)))) (dtVal (dBin kEqI (dVar 5) (dVar 6)))) (dRet (dVar 5)) dNext [some (.int a), some (.int b), some (.int r), some (.int c), some (.int s), some (.int (sgQ (a : Rat) (b : Rat) r)), some e]
      (fun en => dRet (dIf (dtVal (dBin kEqI (dVar 5) (dC (.int 0)))) (dVar 6) (dBin kMul (dVar 5) (dCall S_l_sign (dCons (dBin kSub (dBin kAdd (dBin kMul (dVar 0) (dVar 0)) (dBin kMul (dBin kMul (dVar 1) (dVar 1)) (dVar 2))) (dBin kMul (dBin kMul (dVar 3) (dVar 3)) (dVar 4))) (dCons (dBin kMul (dBin kMul (dC (.int 2)) (dVar 0)) (dVar 1)) (dCons (dVar 2) dNil)))))) en (fun _ => P .none) P) P) (.int y) := by
    intro y hy
    have q1 : ∀ a b r, Bi 1 (sgQ a b r) := fun a b r => by
      unfold sgQ
      repeat' split
      all_goals first | exact sg_bi _ | exact Bi.lit (by decide)
    refine cho_2 (c := decide (y = 0)) (fun _ => h _) (fun _ => ?_)
    refine cho_2 (c := decide (sgQ (a : Rat) (b : Rat) r = y)) (fun _ => h _) (fun _ => ?_)
    refine cho_2 (c := decide (sgQ (a : Rat) (b : Rat) r = 0)) (fun _ => h _) (fun _ => ?_)
    have b1 := (Bi.sub (Bi.add (ha.mul ha) ((hb.mul hb).mul hr)) ((hc.mul hc).mul hs)).mono (m := 50000) (by decide)
    have b2 := ((s2.mul ha).mul hb).mono (m := 50000) (by decide)
    exact ⟨⟨ha.sm (by decide), ha.sm (by decide)⟩, ⟨hb.sm (by decide), hb.sm (by decide)⟩, ⟨(hb.mul hb).sm (by decide), hr.sm (by decide)⟩, ⟨hc.sm (by decide), hc.sm (by decide)⟩, ⟨(hc.mul hc).sm (by decide), hs.sm (by decide)⟩,
      ⟨s2.sm (by decide), ha.sm (by decide)⟩, ⟨(s2.mul ha).sm (by decide), hb.sm (by decide)⟩, (_, _, r), rfl, ⟨⟨b1, b2⟩, hr.mono (by decide)⟩, ⟨(q1 _ _ _).sm (by decide), (q1 _ _ _).sm (by decide)⟩, h _⟩
  by_cases e : 0 < s
  · refine cho_t (c := decide (0 < s)) (decide_eq_true e) ?_
    exact ⟨c, rfl, trivial, fin _ (sg_bi _)⟩
  · exact cho_f (c := decide (0 < s)) (decide_eq_false e) (fin 0 (Bi.lit (by decide)))
theorem sem_l_order {ds : List PyData} {P : PyData → Prop} : S_l_order ds P → m_l_order (startD N_l_order ds) (fun _ => P .none) P := by
  rintro ⟨⟨⟨a, b, r, d⟩, e, f, s, g⟩, rfl, ⟨⟨ha, hb, hr, hd⟩, he, hf, hs, hg⟩, h⟩
  have ha : Bi 1000 a := ha
  have hb : Bi 1000 b := hb
  have hr : Bi 1000 r := hr
  have hd : Bi 1000 d := hd
  have he : Bi 1000 e := he
  have hf : Bi 1000 f := hf
  have hs : Bi 1000 s := hs
  have hg : Bi 1000 g := hg
  have z : Bi 1 0 := Bi.lit (by decide)
  exact ⟨rfl, rfl, ⟨ha.sm (by decide), hg.sm (by decide)⟩, ⟨he.sm (by decide), hd.sm (by decide)⟩, ⟨hb.sm (by decide), hg.sm (by decide)⟩, ⟨hf.sm (by decide), hd.sm (by decide)⟩,
    ⟨_, _, _, _, _⟩, rfl, ⟨⟨((ha.mul hg).sub (he.mul hd)).mono (by decide), (hb.mul hg).mono (by decide)⟩, hr.mono (by decide), (z.sub (hf.mul hd)).mono (by decide), hs.mono (by decide)⟩, h⟩
end GD
end

section
set_option Elab.async false
set_option linter.all false
set_option maxRecDepth 100000
set_option exponentiation.threshold 500
set_option maxHeartbeats 4000000
/-! LU: what the law's defs compute: roots, told numbers. -/
namespace GD
open PySem PySem.Spec PyProof.Rows L2 GQ
theorem fdiv_nat (f l : Nat) : (f : Int).fdiv (l : Int) = ((f / l : Nat) : Int) := by
  rw [Int.fdiv_eq_ediv_of_nonneg _ (Int.natCast_nonneg _)]
  rfl
/-! ### doubling -/
def dbB : MS := dAsg (dBin kMul (dC (.int 2)) (dVar 1)) (gdName 1)
theorem db_loop (a z : Option PyData) {N : En → Prop} {R : PyData → Prop} : ∀ (xs : List PyData) (f : Nat) (x : Option PyData), f * 2 ^ xs.length < 2 ^ 300000 → (∀ x', N [a, some (.int ((f * 2 ^ xs.length : Nat) : Int)), x', z]) → loopD 2 dbB xs [a, some (.int f), x, z] N R
  | [], f, x, _, h => by
    have := h x
    simp only [List.length_nil, Nat.pow_zero, Nat.mul_one] at this
    exact this
  | y :: ys, f, x, hb, h => by
    have e : f * 2 ^ (y :: ys).length = 2 * f * 2 ^ ys.length := by
      rw [List.length_cons, Nat.pow_succ, Nat.mul_comm (2 ^ ys.length) 2, ← Nat.mul_assoc, Nat.mul_comm f 2]
    rw [e] at hb h
    have hf : Sm (f : Int) := by
      refine Bi.sm (n := 300000) (Bi.nat (Nat.lt_of_le_of_lt ?_ hb)) (by decide)
      have h1 : 0 < 2 ^ ys.length := Nat.pow_pos (by decide)
      have h2 : f * 1 ≤ f * 2 ^ ys.length := Nat.mul_le_mul_left f h1
      rw [Nat.mul_assoc]
      omega
    refine ⟨⟨(Bi.lit (n := 2) (i := 2) (by decide)).sm (by decide), hf⟩, ?_⟩
    exact db_loop a z ys (2 * f) (some y) hb h
/-! ### Newton's steps -/
theorem step_ge {n f s : Nat} (hs : s * s ≤ n) (hf : 0 < f) : s ≤ (f + n / f) / 2 := by
  have h1 : n < f * (n / f + 1) := Nat.lt_mul_div_succ n hf
  generalize n / f = q at *
  apply Nat.le_of_not_lt
  intro h
  have h2 : f + q + 1 ≤ 2 * s := by omega
  have h3 : (f + q + 1) * (f + q + 1) ≤ 2 * s * (2 * s) := Nat.mul_le_mul h2 h2
  have h4 : 4 * (f * (q + 1)) ≤ (f + q + 1) * (f + q + 1) := by
    rcases Nat.le_total f (q + 1) with z | z
    · obtain ⟨k, hk⟩ := Nat.exists_eq_add_of_le z
      rw [show f + q + 1 = f + (f + k) by omega, hk]
      have : (f + (f + k)) * (f + (f + k)) = 4 * (f * (f + k)) + k * k := by grind
      omega
    · obtain ⟨k, hk⟩ := Nat.exists_eq_add_of_le z
      subst hk
      have : (q + 1 + k + q + 1) * (q + 1 + k + q + 1) = 4 * ((q + 1 + k) * (q + 1)) + k * k := by grind
      omega
  have h5 : 2 * s * (2 * s) = 4 * (s * s) := by grind
  omega
theorem step_lt {n f s : Nat} (hs : n < (s + 1) * (s + 1)) (hf : s < f) : (f + n / f) / 2 < f ∧ 2 * ((f + n / f) / 2 - s) ≤ f - s := by
  have h1 : n / f < s + 1 := by
    rw [Nat.div_lt_iff_lt_mul (by omega)]
    exact Nat.lt_of_lt_of_le hs (Nat.mul_le_mul_left _ hf)
  omega
def nwB : MS := (dSeq (dAsg (dBin kFdiv (dBin kAdd (dVar 1) (dBin kFdiv (dVar 0) (dVar 1))) (dC (.int 2))) (gdName 3))
    (dSeq (dIfS (dtVal (dBin kGe (dVar 3) (dVar 1))) (dRet (dVar 1)) dNext)
    (dAsg (dVar 3) (gdName 1))))
theorem nw_loop {n s : Nat} (hs1 : 0 < s) (h1 : s * s ≤ n) (h2 : n < (s + 1) * (s + 1)) {N : En → Prop} {P : PyData → Prop} (h : P (.int (s : Int))) : ∀ (xs : List PyData) (f k : Nat) (x z : Option PyData), 0 < f → f < 2 ^ 9000 → s ≤ f → f < s + 2 ^ k → k < xs.length → loopD 2 nwB xs [some (.int n), some (.int f), x, z] N P
  | [], _, _, _, _, _, _, _, _, hk => absurd hk (Nat.not_lt_zero _)
  | y :: ys, f, k, x, z, hf, hb, hs, hd, hk => by
    have g := step_ge h1 hf
    refine ⟨⟨by omega, by rw [Int.natAbs_natCast]; exact hb⟩, ⟨by decide, Nat.lt_of_lt_of_le (by decide : Int.natAbs 2 < 2 ^ 2) (pow_le (by decide))⟩, ?_⟩
    have e : ((f : Int) + (n : Int).fdiv (f : Int)).fdiv 2 = (((f + n / f) / 2 : Nat) : Int) := by
      rw [fdiv_nat, ← Int.natCast_add]
      exact fdiv_nat _ 2
    have go : ∀ v : Int, v = (((f + n / f) / 2 : Nat) : Int) → (dSeq (dIfS (dtVal (dBin kGe (dVar 3) (dVar 1))) (dRet (dVar 1)) dNext) (dAsg (dVar 3) (gdName 1))) [some (.int n), some (.int f), some y, some (.int v)] (fun en' => loopD 2 nwB ys en' N P) P := by
      rintro _ rfl
      by_cases hq : f = s
      · subst hq
        exact cho_t (c := decide ((f : Int) ≤ (((f + n / f) / 2 : Nat) : Int))) (decide_eq_true (by omega)) h
      · obtain ⟨l1, l2⟩ := step_lt (f := f) h2 (by omega)
        generalize (f + n / f) / 2 = t at *
        refine cho_f (c := decide ((f : Int) ≤ (t : Int))) (decide_eq_false (by omega)) ?_
        cases k with
        | zero =>
          rw [Nat.pow_zero] at hd
          omega
        | succ k =>
          rw [Nat.pow_succ] at hd
          exact nw_loop hs1 h1 h2 h ys t k (some y) (some (.int t)) (by omega) (Nat.lt_trans l1 hb) g (by omega) (by simpa using hk)
    exact go _ e
theorem two_le_sq {n : Nat} (h : 2 ≤ n) : 0 < Nat.sqrt n := by
  apply Nat.pos_of_ne_zero
  intro z
  have := Nat.lt_succ_sqrt n
  rw [z] at this
  simp at this
  omega
theorem sem_l_floor {ds : List PyData} {P : PyData → Prop} : S_l_floor ds P → m_l_floor (startD N_l_floor ds) (fun _ => P .none) P := by
  rintro ⟨i, rfl, ⟨h0, hb⟩, h⟩
  have h0 : 0 ≤ i := h0
  have hb : Bi 2050 i := hb
  have h : P (.int (sq i)) := h
  obtain ⟨n, rfl⟩ := Int.eq_ofNat_of_zero_le h0
  have hb : n < 2 ^ 2050 := hb
  have e : sq (n : Int) = (Nat.sqrt n : Int) := rfl
  rw [e] at h
  refine cho_2 (c := decide ((n : Int) < 2)) (fun z => ?_) (fun z => ?_)
  · have z := of_decide_eq_true z
    have : n = 0 ∨ n = 1 := by omega
    rcases this with rfl | rfl
    · exact h
    · exact h
  have z := of_decide_eq_false z
  have n2 : 2 ≤ n := by omega
  have nz : n ≠ 0 := by omega
  have s1 := two_le_sq n2
  have q1 := Nat.sqrt_le n
  have q2 : n < (Nat.sqrt n + 1) * (Nat.sqrt n + 1) := Nat.lt_succ_sqrt n
  have hbits : Builtin.Int.intBits (n : Int) = n.log2 + 1 := by
    unfold Builtin.Int.intBits
    rw [if_neg]
    · rw [Int.natAbs_natCast]
    · intro y
      have := eq_of_beq y
      omega
  have lg1 : n < 2 ^ (n.log2 + 1) := Nat.lt_log2_self
  have lg2 : n.log2 < 2050 := (Nat.log2_lt nz).mpr hb
  generalize hm : (n.log2 + 1) / 2 + 1 = m at *
  have hsm : Nat.sqrt n < 2 ^ m := by
    apply Nat.lt_of_not_le
    intro y
    have y2 := Nat.mul_le_mul y y
    rw [← Nat.pow_add] at y2
    have y3 : 2 ^ (n.log2 + 1) ≤ 2 ^ (m + m) := pow_le (by omega)
    omega
  have ev : (((Builtin.Int.intBits (n : Int) : Nat) : Int).fdiv 2 + 1) = (m : Int) := by
    rw [hbits]
    have := fdiv_nat (n.log2 + 1) 2
    have e2 : ((2 : Nat) : Int) = 2 := rfl
    rw [e2] at this
    rw [this]
    omega
  refine ⟨⟨by decide, Nat.lt_of_lt_of_le (by decide : Int.natAbs 2 < 2 ^ 2) (pow_le (by decide))⟩, ?_⟩
  have go : ∀ v : Int, v = (m : Int) → (-(2 ^ 62) ≤ v ∧ v < 2 ^ 62) ∧ loopD 2 dbB (rangeD v) [some (.int (n : Int)), some (.int ((1 : Nat) : Int)), none, none]
      (fun en => (dSeq (dForR 2 (dCons (dC (.int 9000)) dNil) nwB) (dRet (dVar 1))) en (fun _ => P .none) P) P := by
    rintro _ rfl
    refine ⟨⟨by omega, by omega⟩, ?_⟩
    have hl := len_rangeD m
    generalize rangeD (m : Int) = xs at hl ⊢
    refine db_loop _ _ xs 1 none ?_ (fun x' => ?_)
    · rw [Nat.one_mul, hl]
      exact Nat.pow_lt_pow_right (by decide) (by omega)
    · rw [Nat.one_mul, hl]
      refine ⟨⟨by decide, by decide⟩, ?_⟩
      show loopD 2 nwB (rangeD ((9000 : Nat) : Int)) _ _ P
      have hl2 := len_rangeD 9000
      generalize rangeD ((9000 : Nat) : Int) = ys at hl2 ⊢
      exact nw_loop s1 q1 q2 h ys (2 ^ m) m x' none (Nat.pow_pos (by decide)) (Nat.pow_lt_pow_right (by decide) (by omega)) (Nat.le_of_lt hsm) (by omega) (by omega)
  exact go _ ev
/-! ### told numbers -/
theorem rat_ne {d : Int} (h : 0 < d) : (d : Rat) ≠ 0 := Rat.ne_of_gt (Rat.intCast_pos.mpr h)
theorem rat_pos {d : Int} (h : 0 < d) : (0 : Rat) < (d : Rat) := Rat.intCast_pos.mpr h
theorem div_zero_iff {b d : Rat} (hd : d ≠ 0) : b / d = 0 ↔ b = 0 := by
  constructor
  · intro h
    have : b = b / d * d := by grind
    rw [this, h]
    grind
  · intro h
    rw [h]
    grind
theorem div_pos_iff {b d : Rat} (hd : 0 < d) : 0 < b / d ↔ 0 < b := by
  have e : b / d * d = b := by grind
  constructor
  · intro h
    rw [← e]
    exact Rat.mul_pos h hd
  · intro h
    rw [← e] at h
    exact (Rat.mul_pos_iff_of_pos_right hd).mp h
theorem number_q {a b r d : Int} (hd : 0 < d) (h : b = 0 ∨ sq r * sq r = r) : NumIs ((a : Rat) / (d : Rat)) ((b : Rat) / (d : Rat)) r (.q (Rat.divInt (a + b * sq r) d)) := by
  have hr := rat_ne hd
  refine ⟨?_, ?_⟩
  · rcases h with h | h
    · exact .inl ((div_zero_iff hr).mpr (by rw [h]; rfl))
    · exact .inr h
  · rw [fr_eq, Rat.intCast_add, Rat.intCast_mul]
    grind
theorem number_r {a b r d : Int} (hd : 0 < d) (hb : b ≠ 0) (hr : ¬ sq r * sq r = r) {g : Nat} (hg : g = Nat.gcd (Nat.gcd (d * d).natAbs (0 - 2 * d * a).natAbs) (a * a - b * b * r).natAbs) :
    NumIs ((a : Rat) / (d : Rat)) ((b : Rat) / (d : Rat)) r (.r ((d * d).fdiv g) ((0 - 2 * d * a).fdiv g) ((a * a - b * b * r).fdiv g) (decide (0 < b))) := by
  have hn := rat_ne hd
  have hp := rat_pos hd
  have hbq : (b : Rat) ≠ 0 := fun z => hb (Rat.intCast_eq_zero_iff.mp z)
  have e : decide (0 < b) = decide (0 < (b : Rat) / (d : Rat)) := decide_eq_decide.mpr (by rw [div_pos_iff hp]; exact Rat.intCast_pos.symm)
  rw [e]
  refine numIs_of (Int.mul_pos hd hd) (fun z => hbq ((div_zero_iff hn).mp z)) hr ?_ ?_ hg
  · have e0 : ((0 : Int) : Rat) = 0 := rfl
    have e2 : ((2 : Int) : Rat) = 2 := rfl
    rw [Rat.intCast_sub, Rat.intCast_mul, Rat.intCast_mul, Rat.intCast_mul, e0, e2]
    grind
  · rw [cast_sq, Rat.intCast_mul]
    grind
theorem sem_l_number {ds : List PyData} {P : PyData → Prop} : S_l_number ds P → m_l_number (startD N_l_number ds) (fun _ => P .none) P := by
  rintro ⟨⟨a, b, r, d⟩, rfl, hk, h⟩
  obtain ⟨r0, d0, ha, hb, hr, hd⟩ := hk
  have r0 : 0 ≤ r := r0
  have d0 : 0 < d := d0
  have ha : Bi 900 a := ha
  have hb : Bi 400 b := hb
  have hr : Bi 600 r := hr
  have hd : Bi 900 d := hd
  have h : ∀ e, (∃ n, NumIs ((a : Rat) / (d : Rat)) ((b : Rat) / (d : Rat)) r n ∧ e = encN n) → P e := h
  have hs : Bi 600 (sq r) := by
    have h1 : Nat.sqrt r.toNat ≤ r.toNat := Nat.le_trans (Nat.le_mul_self _) (Nat.sqrt_le _)
    unfold sq Bi at *
    generalize 2 ^ 600 = X at *
    omega
  refine ⟨r, rfl, ⟨r0, hr.mono (by decide)⟩, ?_⟩
  have fin : b = 0 ∨ sq r * sq r = r → kMul (.int b) (.int (sq r)) (fun e => kAdd (.int a) e fun e => S_l_lean [e, .int d] P) := fun hz =>
    ⟨⟨hb.sm (by decide), hs.sm (by decide)⟩, (_, _), rfl, ⟨d0, hd.mono (by decide)⟩, h _ ⟨.q _, number_q d0 hz, rfl⟩⟩
  refine cho_2 (c := decide (b = 0)) (fun z => fin (.inl (of_decide_eq_true z))) (fun z1 => ?_)
  refine ⟨⟨hs.sm (by decide), hs.sm (by decide)⟩, ?_⟩
  refine cho_2 (c := decide (sq r * sq r = r)) (fun z => fin (.inr (of_decide_eq_true z))) (fun z2 => ?_)
  have z1 := of_decide_eq_false z1
  have z2 := of_decide_eq_false z2
  have two : Bi 2 2 := Bi.lit (by decide)
  have z : Bi 1 0 := Bi.lit (by decide)
  have b0 := hd.mul hd
  have b1 := (z.sub ((two.mul hd).mul ha))
  have b2 := (ha.mul ha).sub ((hb.mul hb).mul hr)
  refine ⟨⟨hd.sm (by decide), hd.sm (by decide)⟩, ⟨two.sm (by decide), hd.sm (by decide)⟩, ⟨(two.mul hd).sm (by decide), ha.sm (by decide)⟩, ⟨ha.sm (by decide), ha.sm (by decide)⟩, ⟨hb.sm (by decide), hb.sm (by decide)⟩, ⟨(hb.mul hb).sm (by decide), hr.sm (by decide)⟩, ?_⟩
  have dd : 0 < d * d := Int.mul_pos d0 d0
  refine ⟨(0 - 2 * d * a, a * a - b * b * r), rfl, b2.mono (by decide), ?_⟩
  have hg0 : (Nat.gcd (0 - 2 * d * a).natAbs (a * a - b * b * r).natAbs) < 2 ^ 4400 ∨ (Nat.gcd (0 - 2 * d * a).natAbs (a * a - b * b * r).natAbs) < 2 ^ 4400 := by
    by_cases y : (a * a - b * b * r).natAbs = 0
    · rw [y, Nat.gcd_zero_right]
      exact .inl (b1.mono (m := 4400) (by decide))
    · exact .inl (Nat.lt_of_le_of_lt (Nat.gcd_le_right _ (Nat.pos_of_ne_zero y)) (b2.mono (m := 4400) (by decide)))
  have hg : Bi 4400 ((Nat.gcd (0 - 2 * d * a).natAbs (a * a - b * b * r).natAbs : Nat) : Int) := Bi.nat (hg0.elim id id)
  refine ⟨(d * d, ((Nat.gcd (0 - 2 * d * a).natAbs (a * a - b * b * r).natAbs : Nat) : Int)), rfl, hg, ?_⟩
  have eg : Nat.gcd (d * d).natAbs ((Nat.gcd (0 - 2 * d * a).natAbs (a * a - b * b * r).natAbs : Nat) : Int).natAbs = Nat.gcd (Nat.gcd (d * d).natAbs (0 - 2 * d * a).natAbs) (a * a - b * b * r).natAbs := by
    rw [Int.natAbs_natCast, Nat.gcd_assoc]
  have dg : Dv ((Nat.gcd (d * d).natAbs ((Nat.gcd (0 - 2 * d * a).natAbs (a * a - b * b * r).natAbs : Nat) : Int).natAbs : Nat) : Int) := by
    have p : 0 < Nat.gcd (d * d).natAbs ((Nat.gcd (0 - 2 * d * a).natAbs (a * a - b * b * r).natAbs : Nat) : Int).natAbs := Nat.gcd_pos_of_pos_left _ (by omega)
    have q := Nat.gcd_le_left ((Nat.gcd (0 - 2 * d * a).natAbs (a * a - b * b * r).natAbs : Nat) : Int).natAbs (show 0 < (d * d).natAbs by omega)
    refine ⟨by omega, ?_⟩
    rw [Int.natAbs_natCast]
    exact Nat.lt_of_le_of_lt q (b0.mono (m := 9000) (by decide))
  exact ⟨dg, dg, dg, le1000 rfl, h _ ⟨_, number_r d0 z1 z2 eg, rfl⟩⟩
theorem sem_l_told {ds : List PyData} {P : PyData → Prop} : S_l_told ds P → m_l_told (startD N_l_told ds) (fun _ => P .none) P := by
  rintro ⟨s, rfl, k, h⟩
  have k : SB2 s := k
  refine ⟨rfl, ⟨s.X, s.U, s.R, s.D⟩, rfl, ⟨k.r0, k.d0, k.hX, k.hU, k.hR, k.hD⟩, ?_⟩
  rintro _ ⟨n, hn, rfl⟩
  refine ⟨⟨s.Y, s.V, s.R, s.D⟩, rfl, ⟨k.r0, k.d0, k.hY, k.hV, k.hR, k.hD⟩, ?_⟩
  rintro _ ⟨m, hm, rfl⟩
  exact ⟨le1000 rfl, h _ ⟨n, m, hn, hm, rfl⟩⟩
end GD
end

section
set_option Elab.async false
set_option linter.all false
set_option maxRecDepth 100000
set_option exponentiation.threshold 500
set_option maxHeartbeats 4000000
/-! LV: what the law's defs compute: flat forms, places met. -/
namespace GD
open PySem PySem.Spec PyProof.Rows L2 GQ
theorem bl0 : Bi 1 0 := Bi.lit (by decide)
theorem bl1 : Bi 1 1 := Bi.lit (by decide)
theorem bl2 : Bi 2 2 := Bi.lit (by decide)
theorem bl4 : Bi 3 4 := Bi.lit (by decide)
local macro_rules | `(tactic| walk_at "bb") => `(tactic| with_reducible first | assumption | exact bl0 | exact bl1 | exact bl2 | exact bl4 | (apply GQ.Bi.neg; walk_at "bb") | (apply GQ.Bi.add; walk_at "bb"; walk_at "bb") | (apply GQ.Bi.sub; walk_at "bb"; walk_at "bb") | (apply GQ.Bi.mul; walk_at "bb"; walk_at "bb"))
local macro_rules | `(tactic| walk_at "sm") => `(tactic| (apply GQ.Bi.sm; walk_at "bb"; decide))
local macro_rules | `(tactic| walk_at "en") => `(tactic| try dsimp only [startD, List.cons_append, List.nil_append, dNil, List.map, List.replicate, List.length, List.set, gdCons, gdName, gdNil, cutD, List.drop, List.take, Option.getD, Nat.reduceAdd, Nat.reduceSub])
local macro_rules | `(tactic| walk_at "mm") => `(tactic| (refine ⟨⟨?_, ?_⟩, ?_⟩; (walk_at "sm"); (walk_at "sm")))
local macro_rules | `(tactic| walk_at "bx") => `(tactic| (apply GQ.Bi.mono; walk_at "bb"; decide))
theorem sem_l_flat {ds : List PyData} {P : PyData → Prop} : S_l_flat ds P → m_l_flat (startD N_l_flat ds) (fun _ => P .none) P := by
  rintro ⟨c, rfl, hk, h⟩
  have hk : CBf c := hk
  have h : P (encF (flatOf c)) := h
  cases c with
  | line a b c =>
    obtain ⟨⟨ha, hb, hc⟩, hz⟩ := hk
    have a1 := ha.num
    have a2 := ha.den
    have b1 := hb.num
    have b2 := hb.den
    have c1 := hc.num
    have c2 := hc.den
    refine ⟨cutL rfl, rfl, ?_⟩
    walk_at "en"
    iterate 6 walk_at "mm"
    exact ⟨le1000 rfl, h⟩
  | circ x y q =>
    obtain ⟨⟨ha, hb, hc⟩, hz⟩ := hk
    have a1 := ha.num
    have a2 := ha.den
    have b1 := hb.num
    have b2 := hb.den
    have c1 := hc.num
    have c2 := hc.den
    refine ⟨cutL rfl, rfl, ?_⟩
    walk_at "en"
    iterate 10 walk_at "mm"
    walk_at "en"
    iterate 7 walk_at "mm"
    walk_at "en"
    iterate 2 walk_at "mm"
    exact ⟨le1000 rfl, h⟩
theorem sem_l_at {ds : List PyData} {P : PyData → Prop} : S_l_at ds P → m_l_at (startD N_l_at ds) (fun _ => P .none) P := by
  rintro ⟨⟨⟨k, a, b, c⟩, X, U, Y, V, R, D⟩, rfl, ⟨hf, hs⟩, h⟩
  obtain ⟨hk, ha, hb, hc⟩ := hf
  obtain ⟨hd0, hr0, hX, hY, hU, hV, hR, hD⟩ := hs
  have hk : Bi 70 k := hk
  have ha : Bi 92 a := ha
  have hb : Bi 92 b := hb
  have hc : Bi 112 c := hc
  have hX : Bi 500 X := hX
  have hY : Bi 500 Y := hY
  have hU : Bi 230 U := hU
  have hV : Bi 230 V := hV
  have hR : Bi 600 R := hR
  have hD : Bi 480 D := hD
  refine ⟨rfl, rfl, ?_⟩
  walk_at "en"
  iterate 6 walk_at "mm"
  iterate 5 walk_at "mm"
  walk_at "en"
  iterate 4 walk_at "mm"
  walk_at "en"
  iterate 3 walk_at "mm"
  refine ⟨(at1 ⟨k, a, b, c⟩ ⟨X, U, Y, V, R, D⟩, at2 ⟨k, a, b, c⟩ ⟨X, U, Y, V, R, D⟩, R), rfl, ⟨⟨?_, ?_⟩, hR.mono (by decide)⟩, h⟩
  · show Bi 50000 (k * (X * X + Y * Y + R * (U * U + V * V)) + D * (a * X + b * Y) + D * D * c)
    walk_at "bx"
  · show Bi 50000 (2 * k * (X * U + Y * V) + D * (a * U + b * V))
    walk_at "bx"
theorem norm_posI {a b : Int} (h : a ≠ 0 ∨ b ≠ 0) : 0 < a * a + b * b := by
  have h2 : ((a : Rat) ≠ 0 ∨ (b : Rat) ≠ 0) := h.imp (fun h z => h (Rat.intCast_eq_zero_iff.mp z)) (fun h z => h (Rat.intCast_eq_zero_iff.mp z))
  have := norm_pos h2
  rw [← Rat.intCast_mul, ← Rat.intCast_mul, ← Rat.intCast_add] at this
  exact Rat.intCast_pos.mp this
theorem spots0 : Spots (.list []) := ⟨[], fun _ h => absurd h (List.not_mem_nil), by decide, rfl⟩
theorem spots1 {s : Spot} (h : SB0 s) : Spots (.list [encS s]) := ⟨[s], fun x hx => by rw [List.mem_singleton.mp hx]; exact h, Nat.le_of_ble_eq_true rfl, rfl⟩
theorem spots2 {s t : Spot} (h : SB0 s) (k : SB0 t) : Spots (.list [encS s, encS t]) := ⟨[s, t], fun x hx => by
  rcases List.mem_cons.mp hx with z | z
  · rw [z]; exact h
  · rw [List.mem_singleton.mp z]; exact k, Nat.le_of_ble_eq_true rfl, rfl⟩
theorem sem_l_on_line {ds : List PyData} {P : PyData → Prop} : S_l_on_line ds P → m_l_on_line (startD N_l_on_line ds) (fun _ => P .none) P := by
  rintro ⟨⟨il, ⟨k0, a, b, c⟩, k, e, f, g⟩, rfl, ⟨ha, hb, hc, nz, gb, gk⟩, h⟩
  obtain ⟨hk, he, hf, hg⟩ := gb
  have ha : Bi 163 a := ha
  have hb : Bi 163 b := hb
  have hc : Bi 183 c := hc
  have nz : a ≠ 0 ∨ b ≠ 0 := nz
  have gk : 0 < k := gk
  have hk : Bi 70 k := hk
  have he : Bi 92 e := he
  have hf : Bi 92 f := hf
  have hg : Bi 112 g := hg
  have h : ∀ d, Spots d → P d := h
  have np := norm_posI nz
  have dp : 0 < 2 * k * (a * a + b * b) := Int.mul_pos (Int.mul_pos (by decide) gk) np
  have hr : Bi 600 ((f * a - e * b) * (f * a - e * b) - 4 * k * (k * c * c - c * (e * a + f * b) + g * (a * a + b * b))) := by walk_at "bx"
  have hx : Bi 450 (b * (f * a - e * b) - 2 * k * a * c) := by walk_at "bx"
  have hy : Bi 450 (0 - a * (f * a - e * b) - 2 * k * b * c) := by walk_at "bx"
  have hd : Bi 450 (2 * k * (a * a + b * b)) := by walk_at "bx"
  have b2 : Bi 200 (0 - b) := by walk_at "bx"
  have a2 : Bi 200 (0 - a) := by walk_at "bx"
  have b1 : Bi 200 b := by walk_at "bx"
  have a1 : Bi 200 a := by walk_at "bx"
  have z2 : Bi 200 0 := by walk_at "bx"
  have z6 : Bi 600 0 := by walk_at "bx"
  have main : ∀ r : Int, r = (f * a - e * b) * (f * a - e * b) - 4 * k * (k * c * c - c * (e * a + f * b) + g * (a * a + b * b)) → ∀ x y d : Int, x = b * (f * a - e * b) - 2 * k * a * c → y = 0 - a * (f * a - e * b) - 2 * k * b * c → d = 2 * k * (a * a + b * b) →
      cho (decide (r < 0)) (([] : List PyData).length ≤ 1000 ∧ P (.list [])) (cho (decide (r = 0)) ([PyData.int x, .int 0, .int y, .int 0, .int 0, .int d].length ≤ 1000 ∧ [PyData.int x].length ≤ 1000 ∧ P (.list [.tuple [.int x, .int 0, .int y, .int 0, .int 0, .int d]]))
        ([PyData.int x, .int 0, .int y, .int 0, .int 0, .int d].length ≤ 1000 ∧ [PyData.int x, .int 0, .int y, .int 0, .int 0, .int d].length ≤ 1000 ∧ [PyData.int x, .int x].length ≤ 1000 ∧ P (.list [.tuple [.int x, .int b, .int y, .int (0 - a), .int r, .int d], .tuple [.int x, .int (0 - b), .int y, .int a, .int r, .int d]]))) := by
    rintro _ rfl _ _ _ rfl rfl rfl
    refine cho_2 (fun _ => ⟨le1000 rfl, h _ spots0⟩) (fun e1 => ?_)
    have e1 := of_decide_eq_false e1
    have r0 := Int.not_lt.mp e1
    refine cho_2 (fun _ => ⟨le1000 rfl, le1000 rfl, h _ (spots1 (s := ⟨_, 0, _, 0, 0, _⟩) ⟨dp, Int.le_refl 0, hx, hy, z2, z2, z6, hd⟩)⟩) (fun e2 => ?_)
    exact ⟨le1000 rfl, le1000 rfl, le1000 rfl, h _ (spots2 (s := ⟨_, b, _, 0 - a, _, _⟩) (t := ⟨_, 0 - b, _, a, _, _⟩) ⟨dp, r0, hx, hy, b1, a2, hr, hd⟩ ⟨dp, r0, hx, hy, b2, a1, hr, hd⟩)⟩
  have mm := main _ rfl _ _ _ rfl rfl rfl
  cases il with
  | true =>
    refine ⟨rfl, rfl, ?_⟩
    walk_at "en"
    iterate 6 walk_at "mm"
    walk_at "en"
    iterate 7 walk_at "mm"
    walk_at "en"
    iterate 10 walk_at "mm"
    walk_at "en"
    exact mm
  | false =>
    refine ⟨cutL rfl, rfl, rfl, ?_⟩
    walk_at "en"
    iterate 6 walk_at "mm"
    walk_at "en"
    iterate 7 walk_at "mm"
    walk_at "en"
    iterate 10 walk_at "mm"
    walk_at "en"
    exact mm
end GD
end

section
set_option Elab.async false
set_option linter.all false
set_option maxRecDepth 100000
set_option exponentiation.threshold 500
set_option maxHeartbeats 4000000
/-! LW: what the law's defs compute: places met, told, forms of lines. -/
namespace GD
open PySem PySem.Spec PyProof.Rows L2 GQ
local macro_rules | `(tactic| walk_at "bi") => `(tactic| with_reducible first | assumption | exact zero_b | exact one_b | exact two_b | (apply GQ.B.neg; walk_at "bi") | (apply ite_b; walk_at "bi") | (apply GQ.B.add; walk_at "bi"; walk_at "bi") | (apply GQ.B.sub; walk_at "bi"; walk_at "bi") | (apply GQ.B.mul; walk_at "bi"; walk_at "bi") | (apply GQ.B.div; walk_at "bi"; walk_at "bi"; assumption))
local macro_rules | `(tactic| walk_at "bm") => `(tactic| (apply GQ.B.mono; walk_at "bi"; decide; decide))
local macro_rules | `(tactic| walk_at "ok") => `(tactic| (apply Ok2.of; walk_at "bi"; walk_at "bi"; decide; decide; decide))
local macro_rules | `(tactic| walk_at "bb") => `(tactic| with_reducible first | assumption | exact bl0 | exact bl1 | exact bl2 | exact bl4 | (apply GQ.Bi.neg; walk_at "bb") | (apply GQ.Bi.add; walk_at "bb"; walk_at "bb") | (apply GQ.Bi.sub; walk_at "bb"; walk_at "bb") | (apply GQ.Bi.mul; walk_at "bb"; walk_at "bb"))
local macro_rules | `(tactic| walk_at "sm") => `(tactic| (apply GQ.Bi.sm; walk_at "bb"; decide))
local macro_rules | `(tactic| walk_at "en") => `(tactic| try dsimp only [startD, List.cons_append, List.nil_append, dNil, List.map, List.replicate, List.length, List.set, gdCons, gdName, gdNil, cutD, List.drop, List.take, Option.getD, Nat.reduceAdd, Nat.reduceSub])
local macro_rules | `(tactic| walk_at "mm") => `(tactic| (refine ⟨⟨?_, ?_⟩, ?_⟩; (walk_at "sm"); (walk_at "sm")))
local macro_rules | `(tactic| walk_at "bx") => `(tactic| (apply GQ.Bi.mono; walk_at "bb"; decide))

theorem FlatOk.k0 {f : Flat} (h : FlatOk f) (z : ¬ 0 < f.k) : f.k = 0 ∧ (f.a ≠ 0 ∨ f.b ≠ 0) := by
  rcases h.ok with y | y
  · exact y
  · exact absurd y.1 z
theorem sg_i (d : Int) (h : d ≠ 0) : 0 < sg (d : Rat) * d ∧ Bi 1 (sg (d : Rat)) := by
  refine ⟨?_, sg_bi _⟩
  by_cases z : 0 < d
  · rw [sg_pos (rat_pos z)]
    omega
  · have : (d : Rat) < 0 := by
      have := rat_pos (d := -d) (by omega)
      rw [Rat.intCast_neg] at this
      grind
    rw [sg_neg this]
    omega
theorem sem_l_meet {ds : List PyData} {P : PyData → Prop} : S_l_meet ds P → m_l_meet (startD N_l_meet ds) (fun _ => P .none) P := by
  rintro ⟨⟨⟨k, a, b, c⟩, k', a', b', c'⟩, rfl, ⟨h1, h2⟩, h⟩
  have h1 : FlatOk ⟨k, a, b, c⟩ := h1
  have h2 : FlatOk ⟨k', a', b', c'⟩ := h2
  have h : ∀ d, Spots d → P d := h
  obtain ⟨hk, ha, hb, hc⟩ := h1.fb
  obtain ⟨hk', ha', hb', hc'⟩ := h2.fb
  have hk : Bi 70 k := hk
  have ha : Bi 92 a := ha
  have hb : Bi 92 b := hb
  have hc : Bi 112 c := hc
  have hk' : Bi 70 k' := hk'
  have ha' : Bi 92 a' := ha'
  have hb' : Bi 92 b' := hb'
  have hc' : Bi 112 c' := hc'
  walk_at "en"
  have rest : ¬ (0 < k ∧ 0 < k') → dSeq (dIfS (dtOr (dtVal (dBin kGt (dBin kIx (dVar 0) (dC (.int 0))) (dC (.int 0)))) (dtVal (dBin kGt (dBin kIx (dVar 1) (dC (.int 0))) (dC (.int 0))))) (dRet (dIf (dtVal (dBin kGt (dBin kIx (dVar 0) (dC (.int 0))) (dC (.int 0)))) (dCall S_l_on_line (dCons (dVar 1) (dCons (dVar 0) dNil))) (dCall S_l_on_line (dCons (dVar 0) (dCons (dVar 1) dNil))))) dNext)
    (dSeq (dAsg (dBin kSub (dBin kMul (dBin kIx (dVar 0) (dC (.int 1))) (dBin kIx (dVar 1) (dC (.int 2)))) (dBin kMul (dBin kIx (dVar 1) (dC (.int 1))) (dBin kIx (dVar 0) (dC (.int 2))))) (gdName 3))
    (dSeq (dAsg (dCall S_l_side (dCons (dVar 3) dNil)) (gdName 4))
    (dSeq (dPar 5 6 (dCons (dBin kSub (dBin kMul (dBin kIx (dVar 0) (dC (.int 2))) (dBin kIx (dVar 1) (dC (.int 3)))) (dBin kMul (dBin kIx (dVar 1) (dC (.int 2))) (dBin kIx (dVar 0) (dC (.int 3))))) (dCons (dBin kSub (dBin kMul (dBin kIx (dVar 0) (dC (.int 3))) (dBin kIx (dVar 1) (dC (.int 1)))) (dBin kMul (dBin kIx (dVar 1) (dC (.int 3))) (dBin kIx (dVar 0) (dC (.int 1))))) dNil)))
    (dRet (dIf (dtVal (dBin kEqI (dVar 3) (dC (.int 0)))) (dLst dNil) (dLst (dCons (dTup (dCons (dBin kMul (dVar 4) (dVar 5)) (dCons (dC (.int 0)) (dCons (dBin kMul (dVar 4) (dVar 6)) (dCons (dC (.int 0)) (dCons (dC (.int 0)) (dCons (dBin kMul (dVar 4) (dVar 3)) dNil))))))) dNil)))))))
      [some (encF ⟨k, a, b, c⟩), some (encF ⟨k', a', b', c'⟩), none, none, none, none, none, none, none] (fun _ => P .none) P := by
    intro hn
    have on1 : ¬ 0 < k' → 0 < k → S_l_on_line [encF ⟨k', a', b', c'⟩, encF ⟨k, a, b, c⟩] P := fun z y => ⟨⟨false, ⟨k', a', b', c'⟩, ⟨k, a, b, c⟩⟩, rfl, ⟨ha'.mono (by decide), hb'.mono (by decide), hc'.mono (by decide), (h2.k0 z).2, h1.fb, y⟩, h⟩
    have on2 : ¬ 0 < k → 0 < k' → S_l_on_line [encF ⟨k, a, b, c⟩, encF ⟨k', a', b', c'⟩] P := fun z y => ⟨⟨false, ⟨k, a, b, c⟩, ⟨k', a', b', c'⟩⟩, rfl, ⟨ha.mono (by decide), hb.mono (by decide), hc.mono (by decide), (h1.k0 z).2, h2.fb, y⟩, h⟩
    refine cho_2 (c := decide (0 < k)) (fun e => ?_) (fun e => ?_)
    · have e' := of_decide_eq_true e
      refine cho_t (c := decide (0 < k)) e ?_
      exact on1 (fun z => hn ⟨e', z⟩) e'
    have e' := of_decide_eq_false e
    refine cho_2 (c := decide (0 < k')) (fun y => ?_) (fun y => ?_)
    · refine cho_f (c := decide (0 < k)) e ?_
      exact on2 e' (of_decide_eq_true y)
    iterate 2 walk_at "mm"
    refine ⟨_, rfl, trivial, ?_⟩
    walk_at "en"
    iterate 4 walk_at "mm"
    walk_at "en"
    refine cho_2 (c := decide (a * b' - a' * b = 0)) (fun _ => ⟨le1000 rfl, h _ spots0⟩) (fun z => ?_)
    have z := of_decide_eq_false z
    obtain ⟨s1, s2⟩ := sg_i _ z
    have bX : Bi 450 (sg ((a * b' - a' * b : Int) : Rat) * (b * c' - b' * c)) := by walk_at "bx"
    have bY : Bi 450 (sg ((a * b' - a' * b : Int) : Rat) * (c * a' - c' * a)) := by walk_at "bx"
    have bD : Bi 450 (sg ((a * b' - a' * b : Int) : Rat) * (a * b' - a' * b)) := by walk_at "bx"
    iterate 3 walk_at "mm"
    have z2 : Bi 200 0 := by walk_at "bx"
    have z6 : Bi 600 0 := by walk_at "bx"
    exact ⟨le1000 rfl, le1000 rfl, h _ (spots1 (s := ⟨_, 0, _, 0, 0, _⟩) ⟨s1, Int.le_refl 0, bX, bY, z2, z2, z6, bD⟩)⟩
  by_cases e1 : 0 < k
  · by_cases e2 : 0 < k'
    · refine cho_t (c := decide (0 < k)) (decide_eq_true e1) ?_
      refine cho_t (c := decide (0 < k')) (decide_eq_true e2) ?_
      refine ⟨⟨rfl, le1000 rfl⟩, ?_⟩
      iterate 8 walk_at "mm"
      walk_at "en"
      have A : Bi 163 (k * a' - k' * a) := by walk_at "bx"
      have C : Bi 163 (k * b' - k' * b) := by walk_at "bx"
      have D : Bi 183 (k * c' - k' * c) := by walk_at "bx"
      have on : ((k * a' - k' * a) ≠ 0 ∨ (k * b' - k' * b) ≠ 0) → S_l_on_line [listF ⟨k * k' - k' * k, k * a' - k' * a, k * b' - k' * b, k * c' - k' * c⟩, encF ⟨k, a, b, c⟩] P := fun z => ⟨⟨true, _, ⟨k, a, b, c⟩⟩, rfl, ⟨A, C, D, z, h1.fb, e1⟩, h⟩
      refine cho_2 (c := decide (k * a' - k' * a = 0)) (fun y => ?_) (fun y => on (.inl (of_decide_eq_false y)))
      exact cho_2 (c := decide (k * b' - k' * b = 0)) (fun y => ⟨le1000 rfl, h _ spots0⟩) (fun y => on (.inr (of_decide_eq_false y)))
    · refine cho_t (c := decide (0 < k)) (decide_eq_true e1) ?_
      refine cho_f (c := decide (0 < k')) (decide_eq_false e2) ?_
      exact rest (fun z => e2 z.2)
  · refine cho_f (c := decide (0 < k)) (decide_eq_false e1) ?_
    exact rest (fun z => e1 z.1)
theorem neN {n : Nat} (h : Nat.beq n 0 = false) : n ≠ 0 := Nat.ne_of_beq_eq_false h
theorem sem_l_after {ds : List PyData} {P : PyData → Prop} : S_l_after ds P → m_l_after (startD N_l_after ds) (fun _ => P .none) P := by
  rintro ⟨⟨s, t⟩, rfl, ⟨h1, h2⟩, h⟩
  have h1 : SB0 s := h1
  have h2 : SB0 t := h2
  have h : ∀ i : Int, P (.int i) := fun i => h _ ⟨i, rfl⟩
  have s1 : A4.ok ⟨s.X, s.U, s.R, s.D⟩ := ⟨h1.hX.mono (by decide), h1.hU.mono (by decide), h1.hR.mono (by decide), h1.hD.mono (by decide)⟩
  have t1 : A4.ok ⟨t.X, t.U, t.R, t.D⟩ := ⟨h2.hX.mono (by decide), h2.hU.mono (by decide), h2.hR.mono (by decide), h2.hD.mono (by decide)⟩
  have s2 : A4.ok ⟨s.Y, s.V, s.R, s.D⟩ := ⟨h1.hY.mono (by decide), h1.hV.mono (by decide), h1.hR.mono (by decide), h1.hD.mono (by decide)⟩
  have t2 : A4.ok ⟨t.Y, t.V, t.R, t.D⟩ := ⟨h2.hY.mono (by decide), h2.hV.mono (by decide), h2.hR.mono (by decide), h2.hD.mono (by decide)⟩
  refine ⟨cutR rfl, cutL rfl, ⟨neN rfl, le1000 rfl, le1000 rfl⟩, cutR rfl, cutL rfl, ⟨neN rfl, le1000 rfl, le1000 rfl⟩, (⟨s.X, s.U, s.R, s.D⟩, ⟨t.X, t.U, t.R, t.D⟩), rfl, ⟨s1, t1⟩, ?_⟩
  rintro _ ⟨i, rfl⟩
  refine cho_2 (c := !decide (i = 0)) (fun _ => h i) (fun _ => ?_)
  refine ⟨cutL rfl, cutL rfl, (⟨s.Y, s.V, s.R, s.D⟩, ⟨t.Y, t.V, t.R, t.D⟩), rfl, ⟨s2, t2⟩, ?_⟩
  rintro _ ⟨i, rfl⟩
  exact h i
theorem sem_l_norm {ds : List PyData} {P : PyData → Prop} : S_l_norm ds P → m_l_norm (startD N_l_norm ds) (fun _ => P .none) P := by
  rintro ⟨⟨a, b⟩, rfl, ⟨n, d, ⟨h1, h2⟩, h3, h4⟩, h⟩
  exact ⟨(a, a), rfl, OkL.of h1 h1 (by omega) (by omega) (by omega), (b, b), rfl, OkL.of h2 h2 (by omega) (by omega) (by omega), (a * a, b * b), rfl, OkL.of (h1.mul h1) (h2.mul h2) (by omega) (by omega) (by omega), h⟩
theorem sem_l_raw {ds : List PyData} {P : PyData → Prop} : S_l_raw ds P → m_l_raw (startD N_l_raw ds) (fun _ => P .none) P := by
  rintro ⟨⟨x, y⟩, rfl, ⟨hx, hy⟩, h⟩
  have hx : B 18 3 x := hx
  have hy : B 18 3 y := hy
  have a1 := hx.num
  have a2 := hx.den
  have b1 := hy.num
  have b2 := hy.den
  walk_at "en"
  iterate 3 walk_at "mm"
  have z2 : Bi 200 0 := by walk_at "bx"
  have z6 : Bi 600 0 := by walk_at "bx"
  have X : Bi 450 (x.num * (y.den : Int)) := by walk_at "bx"
  have Y : Bi 450 (y.num * (x.den : Int)) := by walk_at "bx"
  have D : Bi 450 ((x.den : Int) * (y.den : Int)) := by walk_at "bx"
  exact ⟨le1000 rfl, h _ ⟨⟨_, 0, _, 0, 0, _⟩, ⟨Int.mul_pos (den_pos' x) (den_pos' y), Int.le_refl 0, X, Y, z2, z2, z6, D⟩, rfl⟩⟩
theorem sem_l_led_spot {ds : List PyData} {P : PyData → Prop} : S_l_led_spot ds P → m_l_led_spot (startD N_l_led_spot ds) (fun _ => P .none) P := by
  rintro ⟨⟨⟨a, b, m, x, y⟩, X, U, Y, V, R, D⟩, rfl, ⟨hl, hs⟩, h⟩
  obtain ⟨ha, hb, hx, hy, nz⟩ := hl
  obtain ⟨hd0, hr0, hX, hY, hU, hV, hR, hD⟩ := hs
  have a1 : Bi 44 a.num := ha.num
  have a2 : Bi 44 (a.den : Int) := ha.den
  have b1 : Bi 44 b.num := hb.num
  have b2 : Bi 44 (b.den : Int) := hb.den
  have x1 : Bi 60 x.num := hx.num
  have x2 : Bi 44 (x.den : Int) := hx.den
  have y1 : Bi 60 y.num := hy.num
  have y2 : Bi 44 (y.den : Int) := hy.den
  have hX : Bi 900 X := hX
  have hY : Bi 900 Y := hY
  have hU : Bi 400 U := hU
  have hV : Bi 400 V := hV
  have hD : Bi 900 D := hD
  refine ⟨rfl, ?_⟩
  walk_at "en"
  refine ⟨rfl, ?_⟩
  walk_at "en"
  cases m with
  | true =>
    refine ⟨le1000 rfl, rfl, ?_⟩
    walk_at "en"
    iterate 2 walk_at "mm"
    walk_at "en"
    iterate 4 walk_at "mm"
    walk_at "en"
    iterate 6 walk_at "mm"
    walk_at "en"
    iterate 10 walk_at "mm"
    exact ⟨le1000 rfl, h⟩
  | false =>
    refine ⟨le1000 rfl, rfl, ?_⟩
    walk_at "en"
    iterate 2 walk_at "mm"
    walk_at "en"
    iterate 4 walk_at "mm"
    walk_at "en"
    iterate 6 walk_at "mm"
    walk_at "en"
    iterate 10 walk_at "mm"
    exact ⟨le1000 rfl, h⟩
end GD
end

section
set_option Elab.async false
set_option linter.all false
set_option maxRecDepth 100000
set_option exponentiation.threshold 500
set_option maxHeartbeats 4000000
/-! LX: what the law's defs compute: lines, rings, leads. -/
namespace GD
open PySem PySem.Spec PyProof.Rows L2 GQ
local macro_rules | `(tactic| walk_at "bi") => `(tactic| with_reducible first | assumption | exact zero_b | exact one_b | exact two_b | (apply GQ.B.neg; walk_at "bi") | (apply ite_b; walk_at "bi") | (apply GQ.B.add; walk_at "bi"; walk_at "bi") | (apply GQ.B.sub; walk_at "bi"; walk_at "bi") | (apply GQ.B.mul; walk_at "bi"; walk_at "bi") | (apply GQ.B.div; walk_at "bi"; walk_at "bi"; assumption))
local macro_rules | `(tactic| walk_at "bm") => `(tactic| (apply GQ.B.mono; walk_at "bi"; decide; decide))
local macro_rules | `(tactic| walk_at "ok") => `(tactic| (apply Ok2.of; walk_at "bi"; walk_at "bi"; decide; decide; decide))
local macro_rules | `(tactic| walk_at "bb") => `(tactic| with_reducible first | assumption | exact bl0 | exact bl1 | exact bl2 | exact bl4 | (apply GQ.Bi.neg; walk_at "bb") | (apply GQ.Bi.add; walk_at "bb"; walk_at "bb") | (apply GQ.Bi.sub; walk_at "bb"; walk_at "bb") | (apply GQ.Bi.mul; walk_at "bb"; walk_at "bb"))
local macro_rules | `(tactic| walk_at "sm") => `(tactic| (apply GQ.Bi.sm; walk_at "bb"; decide))
local macro_rules | `(tactic| walk_at "en") => `(tactic| try dsimp only [startD, List.cons_append, List.nil_append, dNil, List.map, List.replicate, List.length, List.set, gdCons, gdName, gdNil, cutD, List.drop, List.take, Option.getD, Nat.reduceAdd, Nat.reduceSub])
local macro_rules | `(tactic| walk_at "mm") => `(tactic| (refine ⟨⟨?_, ?_⟩, ?_⟩; (walk_at "sm"); (walk_at "sm")))
local macro_rules | `(tactic| walk_at "bx") => `(tactic| (apply GQ.Bi.mono; walk_at "bb"; decide))
local macro_rules | `(tactic| walk_at "okl") => `(tactic| (apply OkL.of; walk_at "bi"; walk_at "bi"; decide; decide; decide))

theorem den1 {q : Rat} (h : q.den = 1) : q = ((q.num : Int) : Rat) := Rat.ext rfl h
theorem exd {w g : Int} (h : g ∣ w) (hg : g ≠ 0) : (w.fdiv g).natAbs ≤ w.natAbs ∧ (w.fdiv g = 0 → w = 0) := by
  have e : w.fdiv g * g = w := Int.fdiv_mul_cancel h
  refine ⟨?_, fun z => ?_⟩
  · have e2 : (w.fdiv g).natAbs * g.natAbs = w.natAbs := by rw [← Int.natAbs_mul, e]
    have : (w.fdiv g).natAbs * 1 ≤ (w.fdiv g).natAbs * g.natAbs := Nat.mul_le_mul_left _ (by omega)
    omega
  · rw [z, Int.zero_mul] at e
    exact e.symm
theorem form_fin {P : PyData → Prop} (h : ∀ d, (∃ a b c, CB1 (.line a b c) ∧ d = encC (.line a b c)) → P d) {w1 w2 w3 g : Int} (h1 : g ∣ w1) (h2 : g ∣ w2) (h3 : g ∣ w3) (hg : g ≠ 0) (b1 : Bi 11 w1) (b2 : Bi 11 w2) (b3 : Bi 40 w3) (nz : w1 ≠ 0 ∨ w2 ≠ 0) :
    P (.tuple [.str "line", .tuple [.int (w1.fdiv g), .int 1], .tuple [.int (w2.fdiv g), .int 1], .tuple [.int (w3.fdiv g), .int 1]]) := by
  refine h _ ⟨(w1.fdiv g : Int), (w2.fdiv g : Int), (w3.fdiv g : Int), ⟨⟨B.int (Nat.lt_of_le_of_lt (exd h1 hg).1 b1), B.int (Nat.lt_of_le_of_lt (exd h2 hg).1 b2), B.int (Nat.lt_of_le_of_lt (exd h3 hg).1 b3)⟩, ?_⟩, rfl⟩
  rcases nz with z | z
  · exact .inl fun y => z ((exd h1 hg).2 (Rat.intCast_eq_zero_iff.mp y))
  · exact .inr fun y => z ((exd h2 hg).2 (Rat.intCast_eq_zero_iff.mp y))
theorem sem_l_form {ds : List PyData} {P : PyData → Prop} : S_l_form ds P → m_l_form (startD N_l_form ds) (fun _ => P .none) P := by
  rintro ⟨⟨p, q, r⟩, rfl, hk, h⟩
  obtain ⟨d1, d2, nz, bd⟩ := hk
  have d1 : p.den = 1 := d1
  have d2 : q.den = 1 := d2
  have nz : p ≠ 0 ∨ q ≠ 0 := nz
  have bd : (B 11 1 p ∧ B 11 1 q ∧ B 40 1 r) ∨ (B 3 1 p ∧ B 3 1 q ∧ B 28 8 r) := bd
  have h : ∀ d, (∃ a b c, CB1 (.line a b c) ∧ d = encC (.line a b c)) → P d := h
  have e1 : p.num * (q.den : Int) * (r.den : Int) = p.num * (r.den : Int) := by
    rw [d2]
    simp
  have e2 : q.num * (p.den : Int) * (r.den : Int) = q.num * (r.den : Int) := by
    rw [d1]
    simp
  have e3 : r.num * (p.den : Int) * (q.den : Int) = r.num := by
    rw [d1, d2]
    simp
  have b1 : Bi 11 (p.num * (r.den : Int)) := by
    rcases bd with ⟨y1, y2, y3⟩ | ⟨y1, y2, y3⟩
    · have : r.den = 1 := by
        have := r.den_pos
        have := y3.2
        omega
      rw [this]
      simp only [Int.natCast_one, Int.mul_one]
      exact y1.num
    · exact y1.num.mul y3.den
  have b2 : Bi 11 (q.num * (r.den : Int)) := by
    rcases bd with ⟨y1, y2, y3⟩ | ⟨y1, y2, y3⟩
    · have : r.den = 1 := by
        have := r.den_pos
        have := y3.2
        omega
      rw [this]
      simp only [Int.natCast_one, Int.mul_one]
      exact y2.num
    · exact y2.num.mul y3.den
  have b3 : Bi 40 r.num := by
    rcases bd with ⟨y1, y2, y3⟩ | ⟨y1, y2, y3⟩
    · exact y3.num
    · exact y3.num.mono (by decide)
  have nw : p.num * (r.den : Int) ≠ 0 ∨ q.num * (r.den : Int) ≠ 0 := by
    have hd := den_pos' r
    rcases nz with z | z
    · refine .inl fun y => z ?_
      rcases Int.mul_eq_zero.mp y with y | y
      · exact Rat.num_eq_zero.mp y
      · omega
    · refine .inr fun y => z ?_
      rcases Int.mul_eq_zero.mp y with y | y
      · exact Rat.num_eq_zero.mp y
      · omega
  have pn : Bi 11 p.num := by rcases bd with ⟨y1, y2, y3⟩ | ⟨y1, y2, y3⟩ <;> exact y1.num.mono (by decide)
  have qn : Bi 11 q.num := by rcases bd with ⟨y1, y2, y3⟩ | ⟨y1, y2, y3⟩ <;> exact y2.num.mono (by decide)
  have pd : Bi 1 (p.den : Int) := by rcases bd with ⟨y1, y2, y3⟩ | ⟨y1, y2, y3⟩ <;> exact y1.den
  have qd : Bi 1 (q.den : Int) := by rcases bd with ⟨y1, y2, y3⟩ | ⟨y1, y2, y3⟩ <;> exact y2.den
  have rd : Bi 8 (r.den : Int) := by rcases bd with ⟨y1, y2, y3⟩ | ⟨y1, y2, y3⟩ <;> exact y3.den.mono (by decide)
  walk_at "en"
  iterate 6 walk_at "mm"
  walk_at "en"
  have fin : ∀ w1 w2 w3 : Int, w1 = p.num * (r.den : Int) → w2 = q.num * (r.den : Int) → w3 = r.num →
      dSeq (dAsg (dCall S_l_divisor (dCons (dVar 3) (dCons (dCall S_l_divisor (dCons (dVar 4) (dCons (dVar 5) dNil))) dNil))) (gdName 6))
    (dSeq (dIfS (dtOr (dtVal (dBin kLt (dVar 3) (dC (.int 0)))) (dtAnd (dtVal (dBin kEqI (dVar 3) (dC (.int 0)))) (dtVal (dBin kLt (dVar 4) (dC (.int 0)))))) (dAsg (dBin kSub (dC (.int 0)) (dVar 6)) (gdName 6)) dNext)
    (dRet (dTup (dCons (dC (.str "line")) (dCons (dTup (dCons (dBin kFdiv (dVar 3) (dVar 6)) (dCons (dC (.int 1)) dNil))) (dCons (dTup (dCons (dBin kFdiv (dVar 4) (dVar 6)) (dCons (dC (.int 1)) dNil))) (dCons (dTup (dCons (dBin kFdiv (dVar 5) (dVar 6)) (dCons (dC (.int 1)) dNil))) dNil))))))) [some (encQ p), some (encQ q), some (encQ r), some (.int w1), some (.int w2), some (.int w3), none] (fun _ => P .none) P := by
    rintro w1 w2 w3 rfl rfl rfl
    generalize p.num * (r.den : Int) = w1 at *
    generalize q.num * (r.den : Int) = w2 at *
    generalize r.num = w3 at *
    have gb : Nat.gcd w2.natAbs w3.natAbs < 2 ^ 4400 := by
      by_cases y : w3.natAbs = 0
      · rw [y, Nat.gcd_zero_right]
        exact b2.mono (m := 4400) (by decide)
      · exact Nat.lt_of_le_of_lt (Nat.gcd_le_right _ (Nat.pos_of_ne_zero y)) (b3.mono (m := 4400) (by decide))
    refine ⟨(w2, w3), rfl, b3.mono (by decide), (w1, _), rfl, Bi.nat gb, ?_⟩
    walk_at "en"
    dsimp only [Int.natAbs_natCast]
    have g1 : ((Nat.gcd w1.natAbs (Nat.gcd w2.natAbs w3.natAbs) : Nat) : Int) ∣ w1 := Int.ofNat_dvd_left.mpr (Nat.gcd_dvd_left _ _)
    have g2 : ((Nat.gcd w1.natAbs (Nat.gcd w2.natAbs w3.natAbs) : Nat) : Int) ∣ w2 := Int.ofNat_dvd_left.mpr (Nat.dvd_trans (Nat.gcd_dvd_right _ _) (Nat.gcd_dvd_left _ _))
    have g3 : ((Nat.gcd w1.natAbs (Nat.gcd w2.natAbs w3.natAbs) : Nat) : Int) ∣ w3 := Int.ofNat_dvd_left.mpr (Nat.dvd_trans (Nat.gcd_dvd_right _ _) (Nat.gcd_dvd_right _ _))
    have gp : 0 < Nat.gcd w1.natAbs (Nat.gcd w2.natAbs w3.natAbs) := by
      rcases nw with z | z
      · exact Nat.gcd_pos_of_pos_left _ (by omega)
      · exact Nat.gcd_pos_of_pos_right _ (Nat.gcd_pos_of_pos_left _ (by omega))
    have gs : Nat.gcd w1.natAbs (Nat.gcd w2.natAbs w3.natAbs) < 2 ^ 9000 := by
      have : Nat.gcd w1.natAbs (Nat.gcd w2.natAbs w3.natAbs) ≤ Nat.gcd w2.natAbs w3.natAbs ∨ Nat.gcd w1.natAbs (Nat.gcd w2.natAbs w3.natAbs) ≤ w1.natAbs := by
        by_cases y : Nat.gcd w2.natAbs w3.natAbs = 0
        · rw [y, Nat.gcd_zero_right]
          exact .inr (Nat.le_refl _)
        · exact .inl (Nat.gcd_le_right _ (Nat.pos_of_ne_zero y))
      rcases this with y | y
      · exact Nat.lt_of_le_of_lt y (Nat.lt_of_lt_of_le gb (pow_le (by decide)))
      · exact Nat.lt_of_le_of_lt y (b1.mono (m := 9000) (by decide))
    generalize Nat.gcd w1.natAbs (Nat.gcd w2.natAbs w3.natAbs) = g at *
    have dv : Dv (g : Int) := ⟨by omega, by rw [Int.natAbs_natCast]; exact gs⟩
    have dn : Dv (0 - (g : Int)) := ⟨by omega, by rw [Int.zero_sub, Int.natAbs_neg, Int.natAbs_natCast]; exact gs⟩
    have n1 : (0 - (g : Int)) ∣ w1 := by rw [Int.zero_sub]; exact Int.neg_dvd.mpr g1
    have n2 : (0 - (g : Int)) ∣ w2 := by rw [Int.zero_sub]; exact Int.neg_dvd.mpr g2
    have n3 : (0 - (g : Int)) ∣ w3 := by rw [Int.zero_sub]; exact Int.neg_dvd.mpr g3
    have neg : dAsg (dBin kSub (dC (.int 0)) (dVar 6)) (gdName 6) [some (encQ p), some (encQ q), some (encQ r), some (.int w1), some (.int w2), some (.int w3), some (.int g)] (fun en => (dRet (dTup (dCons (dC (.str "line")) (dCons (dTup (dCons (dBin kFdiv (dVar 3) (dVar 6)) (dCons (dC (.int 1)) dNil))) (dCons (dTup (dCons (dBin kFdiv (dVar 4) (dVar 6)) (dCons (dC (.int 1)) dNil))) (dCons (dTup (dCons (dBin kFdiv (dVar 5) (dVar 6)) (dCons (dC (.int 1)) dNil))) dNil)))))) en (fun _ => P .none) P) P :=
      ⟨dn, le1000 rfl, dn, le1000 rfl, dn, le1000 rfl, le1000 rfl, form_fin h n1 n2 n3 (by omega) b1 b2 b3 nw⟩
    refine cho_2 (c := decide (w1 < 0)) (fun _ => neg) (fun _ => ?_)
    have pos : (dRet (dTup (dCons (dC (.str "line")) (dCons (dTup (dCons (dBin kFdiv (dVar 3) (dVar 6)) (dCons (dC (.int 1)) dNil))) (dCons (dTup (dCons (dBin kFdiv (dVar 4) (dVar 6)) (dCons (dC (.int 1)) dNil))) (dCons (dTup (dCons (dBin kFdiv (dVar 5) (dVar 6)) (dCons (dC (.int 1)) dNil))) dNil)))))) [some (encQ p), some (encQ q), some (encQ r), some (.int w1), some (.int w2), some (.int w3), some (.int g)] (fun _ => P .none) P :=
      ⟨dv, le1000 rfl, dv, le1000 rfl, dv, le1000 rfl, le1000 rfl, form_fin h g1 g2 g3 (by omega) b1 b2 b3 nw⟩
    refine cho_2 (c := decide (w1 = 0)) (fun _ => ?_) (fun _ => pos)
    exact cho_2 (c := decide (w2 < 0)) (fun _ => neg) (fun _ => pos)
  exact fin _ _ _ e1 e2 e3
/-! ### turned, led -/
theorem negQ (y : Rat) : PyData.tuple [.int (0 - y.num), .int y.den] = encQ (-y) := by
  rw [Int.zero_sub, ← Rat.neg_num]
  rfl
theorem sem_l_turned {ds : List PyData} {P : PyData → Prop} : S_l_turned ds P → m_l_turned (startD N_l_turned ds) (fun _ => P .none) P := by
  rintro ⟨⟨a, b, m, rest, x, y⟩, rfl, ⟨n, d, n', e, ⟨⟨h1, h2⟩, h3, h4⟩, h5, h6⟩, h⟩
  have h1 : B n d a := h1
  have h2 : B n d b := h2
  have h3 : B n' e x := h3
  have h4 : B n' e y := h4
  have h : P (encP (a * x - b * (if m then -y else y)) (a * (if m then -y else y) + b * x)) := h
  have go : ∀ (R : PyData) (Y : Rat) (D D' : PyData), B n' e Y → P (encP (a * x - b * Y) (a * Y + b * x)) → D = encQ Y → D' = encQ (-Y) →
      (dSeq (dPar 7 8 (dCons (dCall S_l_sum (dCons (dCall S_l_product (dCons (dVar 2) (dCons (dVar 4) dNil))) (dCons (dCall S_l_product (dCons (dVar 3) (dCons (dVar 6) dNil))) dNil))) (dCons (dCall S_l_product (dCons (dVar 3) (dCons (dVar 4) dNil))) dNil)))
    (dRet (dTup (dCons (dVar 7) (dCons (dCall S_l_sum (dCons (dVar 8) (dCons (dCall S_l_product (dCons (dVar 2) (dCons (dVar 5) dNil))) dNil))) dNil))))) [some R, some (encP x y), some (encQ a), some (encQ b), some (encQ x), some D, some D', none, none] (fun _ => P .none) P := by
    rintro R Y D D' hY h rfl rfl
    have e1 : a * x + b * -Y = a * x - b * Y := by grind
    have e2 : b * x + a * Y = a * Y + b * x := by grind
    refine ⟨(a, x), rfl, OkL.of h1 h3 (by omega) (by omega) (by omega), (b, -Y), rfl, OkL.of h2 hY.neg (by omega) (by omega) (by omega), (a * x, b * -Y), rfl, OkL.of (h1.mul h3) (h2.mul hY.neg) (by omega) (by omega) (by omega), (b, x), rfl, OkL.of h2 h3 (by omega) (by omega) (by omega), ?_⟩
    refine ⟨(a, Y), rfl, OkL.of h1 hY (by omega) (by omega) (by omega), (b * x, a * Y), rfl, OkL.of (h2.mul h3) (h1.mul hY) (by omega) (by omega) (by omega), le1000 rfl, ?_⟩
    show P (encP (a * x + b * -Y) (b * x + a * Y))
    rw [e1, e2]
    exact h
  cases m with
  | true =>
    have fin := fun R => go R (-y) (.tuple [.int (0 - y.num), .int y.den]) (.tuple [.int (0 - (0 - y.num)), .int y.den]) h4.neg h (negQ y) (by
      have := negQ (-y)
      rw [Rat.neg_num] at this
      rw [Int.zero_sub y.num]
      exact this)
    cases rest with
    | none => exact ⟨cutR rfl, rfl, le1000 rfl, le1000 rfl, fin _⟩
    | some r => exact ⟨cutR rfl, rfl, le1000 rfl, le1000 rfl, fin _⟩
  | false =>
    have fin := fun R => go R y (encQ y) (.tuple [.int (0 - y.num), .int y.den]) h4 h rfl (negQ y)
    cases rest with
    | none => exact ⟨cutR rfl, rfl, le1000 rfl, fin _⟩
    | some r => exact ⟨cutR rfl, rfl, le1000 rfl, fin _⟩
end GD
end

section
set_option Elab.async false
set_option linter.all false
set_option maxRecDepth 100000
set_option exponentiation.threshold 500
set_option maxHeartbeats 4000000
/-! LY: what the law's defs compute: lines and rings drawn, leads. -/
namespace GD
open PySem PySem.Spec PyProof.Rows L2 GQ
local macro_rules | `(tactic| walk_at "bi") => `(tactic| with_reducible first | assumption | exact zero_b | exact one_b | exact two_b | (apply GQ.B.neg; walk_at "bi") | (apply ite_b; walk_at "bi") | (apply GQ.B.add; walk_at "bi"; walk_at "bi") | (apply GQ.B.sub; walk_at "bi"; walk_at "bi") | (apply GQ.B.mul; walk_at "bi"; walk_at "bi") | (apply GQ.B.div; walk_at "bi"; walk_at "bi"; assumption))
local macro_rules | `(tactic| walk_at "bm") => `(tactic| (apply GQ.B.mono; walk_at "bi"; decide; decide))
local macro_rules | `(tactic| walk_at "ok") => `(tactic| (apply Ok2.of; walk_at "bi"; walk_at "bi"; decide; decide; decide))
local macro_rules | `(tactic| walk_at "bb") => `(tactic| with_reducible first | assumption | exact bl0 | exact bl1 | exact bl2 | exact bl4 | (apply GQ.Bi.neg; walk_at "bb") | (apply GQ.Bi.add; walk_at "bb"; walk_at "bb") | (apply GQ.Bi.sub; walk_at "bb"; walk_at "bb") | (apply GQ.Bi.mul; walk_at "bb"; walk_at "bb"))
local macro_rules | `(tactic| walk_at "sm") => `(tactic| (apply GQ.Bi.sm; walk_at "bb"; decide))
local macro_rules | `(tactic| walk_at "en") => `(tactic| try dsimp only [startD, List.cons_append, List.nil_append, dNil, List.map, List.replicate, List.length, List.set, gdCons, gdName, gdNil, cutD, List.drop, List.take, Option.getD, Nat.reduceAdd, Nat.reduceSub])
local macro_rules | `(tactic| walk_at "mm") => `(tactic| (refine ⟨⟨?_, ?_⟩, ?_⟩; (walk_at "sm"); (walk_at "sm")))
local macro_rules | `(tactic| walk_at "bx") => `(tactic| (apply GQ.Bi.mono; walk_at "bb"; decide))
local macro_rules | `(tactic| walk_at "okl") => `(tactic| (apply OkL.of; walk_at "bi"; walk_at "bi"; decide; decide; decide))

theorem allc {α : Type} {Q : α → Prop} {x : α} {xs : List α} (h : Q x) (k : ∀ d, d ∈ xs → Q d) : ∀ d, d ∈ x :: xs → Q d := fun d hd => by
  rcases List.mem_cons.mp hd with e | e
  · rw [e]; exact h
  · exact k d e
theorem alln {α : Type} {Q : α → Prop} : ∀ d, d ∈ ([] : List α) → Q d := fun d hd => absurd hd List.not_mem_nil
theorem _root_.GQ.B.den1 {n : Nat} {q : Rat} (h : B n 1 q) : q.den = 1 := by
  have := q.den_pos
  have := h.2
  omega
theorem lit_b {n d : Nat} {q : Rat} (h1 : q.num.natAbs < 2 ^ n) (h2 : q.den < 2 ^ d) : B n d q := ⟨h1, h2⟩
/-- a written fraction -/
abbrev rt (n : Int) (d : Nat) (h : d ≠ 0 := by decide) (k : n.natAbs.Coprime d := by decide) : Rat := ⟨n, d, h, k⟩
theorem sem_l_line {ds : List PyData} {P : PyData → Prop} : S_l_line ds P → m_l_line (startD N_l_line ds) (fun _ => P .none) P := by
  rintro ⟨⟨⟨hx, hy⟩, A⟩, rfl, ⟨⟨h1, h2⟩, hA, nz⟩, h⟩
  have h1 : B 18 3 hx := h1
  have h2 : B 18 3 hy := h2
  have hA : PB 3 1 A := hA
  have nz : A.1 ≠ 0 ∨ A.2 ≠ 0 := nz
  have h : ∀ d, (∃ a b c, CB1 (.line a b c) ∧ d = encC (.line a b c)) → P d := h
  refine ⟨5, rfl, by decide, ?_⟩
  rintro _ ⟨i, hi, rfl⟩
  walk_at "en"
  have rest : ∀ (A : R2') (D x y : Option PyData), PB 3 1 A → (A.1 ≠ 0 ∨ A.2 ≠ 0) → D = some (enc2 A) → (dSeq (dIfS (dtVal (dBin kGt (dVar 3) (dC (.int 2)))) (dRet (dCall S_l_form (dCons (dBin kIx (dVar 2) (dC (.int 0))) (dCons (dBin kIx (dVar 2) (dC (.int 1))) (dCons (dCall S_l_small (dCons (dVar 0) dNil)) dNil))))) dNext)
    (dRet (dCall S_l_form (dCons (dBin kIx (dVar 2) (dC (.int 0))) (dCons (dBin kIx (dVar 2) (dC (.int 1))) (dCons (dCall S_l_sum (dCons (dCall S_l_product (dCons (dBin kIx (dVar 2) (dC (.int 0))) (dCons (dBin kIx (dVar 1) (dC (.int 0))) dNil))) (dCons (dCall S_l_product (dCons (dBin kIx (dVar 2) (dC (.int 1))) (dCons (dBin kIx (dVar 1) (dC (.int 1))) dNil))) dNil))) dNil)))))) [some dWell, some (enc2 (hx, hy)), D, some (.int i), x, y] (fun _ => P .none) P := by
    rintro ⟨a, b⟩ D x y ⟨ha, hb⟩ nz rfl
    have ha : B 3 1 a := ha
    have hb : B 3 1 b := hb
    have o1 : OkL a hx := by walk_at "okl"
    have o2 : OkL b hy := by walk_at "okl"
    have o3 : OkL (a * hx) (b * hy) := by walk_at "okl"
    have bc : B 28 8 (a * hx + b * hy) := by walk_at "bm"
    refine cho_2 (c := decide ((2 : Int) < i)) (fun _ => ?_) (fun _ => ?_)
    · refine ⟨(), rfl, trivial, ?_⟩
      rintro _ ⟨q, hq, rfl⟩
      exact ⟨(a, b, q), rfl, ⟨ha.den1, hb.den1, nz, .inr ⟨ha, hb, hq.mono (by decide) (by decide)⟩⟩, h⟩
    · refine ⟨(a, hx), rfl, o1, (b, hy), rfl, o2, (a * hx, b * hy), rfl, o3, ?_⟩
      exact ⟨(a, b, a * hx + b * hy), rfl, ⟨ha.den1, hb.den1, nz, .inr ⟨ha, hb, bc⟩⟩, h⟩
  refine cho_2 (c := decide ((1 : Int) < i)) (fun _ => ?_) (fun _ => rest A _ _ _ hA nz rfl)
  refine ⟨le1000 rfl, le1000 rfl, le1000 rfl, le1000 rfl, le1000 rfl, le1000 rfl, le1000 rfl, le1000 rfl, le1000 rfl, le1000 rfl, ⟨false, _⟩, rfl, List.cons_ne_nil _ _, ?_⟩
  refine allc ⟨rfl, le1000 rfl, le1000 rfl, le1000 rfl, rest (rt 1 1, rt 0 1) _ _ _ ⟨⟨by decide, by decide⟩, ⟨by decide, by decide⟩⟩ (by decide) rfl⟩ ?_
  refine allc ⟨rfl, le1000 rfl, le1000 rfl, le1000 rfl, rest (rt 0 1, rt 1 1) _ _ _ ⟨⟨by decide, by decide⟩, ⟨by decide, by decide⟩⟩ (by decide) rfl⟩ ?_
  refine allc ⟨rfl, le1000 rfl, le1000 rfl, le1000 rfl, rest (rt 1 1, rt 0 1) _ _ _ ⟨⟨by decide, by decide⟩, ⟨by decide, by decide⟩⟩ (by decide) rfl⟩ ?_
  refine allc ⟨rfl, le1000 rfl, le1000 rfl, le1000 rfl, rest (rt 1 1, rt 1 1) _ _ _ ⟨⟨by decide, by decide⟩, ⟨by decide, by decide⟩⟩ (by decide) rfl⟩ ?_
  refine allc ⟨rfl, le1000 rfl, le1000 rfl, le1000 rfl, rest (rt 1 1, rt (-1) 1) _ _ _ ⟨⟨by decide, by decide⟩, ⟨by decide, by decide⟩⟩ (by decide) rfl⟩ ?_
  refine allc ⟨rfl, le1000 rfl, le1000 rfl, le1000 rfl, rest (rt 2 1, rt 1 1) _ _ _ ⟨⟨by decide, by decide⟩, ⟨by decide, by decide⟩⟩ (by decide) rfl⟩ ?_
  refine allc ⟨rfl, le1000 rfl, le1000 rfl, le1000 rfl, rest (rt 1 1, rt (-2) 1) _ _ _ ⟨⟨by decide, by decide⟩, ⟨by decide, by decide⟩⟩ (by decide) rfl⟩ ?_
  refine allc ⟨rfl, le1000 rfl, le1000 rfl, le1000 rfl, rest (rt 3 1, rt 4 1) _ _ _ ⟨⟨by decide, by decide⟩, ⟨by decide, by decide⟩⟩ (by decide) rfl⟩ ?_
  exact allc ⟨rfl, le1000 rfl, le1000 rfl, le1000 rfl, rest (rt 0 1, rt 1 1) _ _ _ ⟨⟨by decide, by decide⟩, ⟨by decide, by decide⟩⟩ (by decide) rfl⟩ alln
theorem sem_l_ring {ds : List PyData} {P : PyData → Prop} : S_l_ring ds P → m_l_ring (startD N_l_ring ds) (fun _ => P .none) P := by
  rintro ⟨⟨⟨hx, hy⟩, ⟨a, b⟩⟩, rfl, ⟨⟨h1, h2⟩, ⟨ha, hb⟩, nz⟩, h⟩
  have h1 : B 18 3 hx := h1
  have h2 : B 18 3 hy := h2
  have ha : B 3 1 a := ha
  have hb : B 3 1 b := hb
  have nz : a ≠ 0 ∨ b ≠ 0 := nz
  have h : ∀ d, (∃ x y q, CB1 (.circ x y q) ∧ d = encC (.circ x y q)) → P d := h
  refine ⟨5, rfl, by decide, ?_⟩
  rintro _ ⟨i, hi, rfl⟩
  walk_at "en"
  refine cho_2 (c := decide (i < 2)) (fun _ => ?_) (fun _ => ?_)
  · have rest : ∀ r : Rat, B 2 2 r → r ≠ 0 → ∀ x : PyData, x = encQ r → (dSeq (dAsg (dTup (dCons (dCall S_l_product (dCons (dVar 4) (dCons (dBin kIx (dVar 2) (dC (.int 0))) dNil))) (dCons (dCall S_l_product (dCons (dVar 4) (dCons (dBin kIx (dVar 2) (dC (.int 1))) dNil))) dNil))) (gdName 5))
    (dRet (dTup (dCons (dC (.str "circle")) (dCons (dCall S_l_sum (dCons (dBin kIx (dVar 1) (dC (.int 0))) (dCons (dBin kIx (dVar 5) (dC (.int 0))) dNil))) (dCons (dCall S_l_sum (dCons (dBin kIx (dVar 1) (dC (.int 1))) (dCons (dBin kIx (dVar 5) (dC (.int 1))) dNil))) (dCons (dCall S_l_norm (dCons (dBin kIx (dVar 5) (dC (.int 0))) (dCons (dBin kIx (dVar 5) (dC (.int 1))) dNil))) dNil))))))) [some dWell, some (enc2 (hx, hy)), some (enc2 (a, b)), some (.int i), some x, none, none, none, none] (fun _ => P .none) P := by
      rintro r hr rz _ rfl
      have o1 : OkL r a := by walk_at "okl"
      have o2 : OkL r b := by walk_at "okl"
      have o3 : OkL hx (r * a) := by walk_at "okl"
      have o4 : OkL hy (r * b) := by walk_at "okl"
      have k1 : B 5 3 (r * a) := by walk_at "bm"
      have k2 : B 5 3 (r * b) := by walk_at "bm"
      have k3 : B 22 6 (hx + r * a) := by walk_at "bm"
      have k4 : B 22 6 (hy + r * b) := by walk_at "bm"
      have k5 : B 57 24 (r * a * (r * a) + r * b * (r * b)) := by walk_at "bm"
      have z : r * a ≠ 0 ∨ r * b ≠ 0 := by
        rcases nz with y | y
        · exact .inl fun e => (Rat.mul_eq_zero.mp e).elim rz y
        · exact .inr fun e => (Rat.mul_eq_zero.mp e).elim rz y
      refine ⟨(r, a), rfl, o1, (r, b), rfl, o2, le1000 rfl, (hx, r * a), rfl, o3, (hy, r * b), rfl, o4, (r * a, r * b), rfl, ⟨5, 3, ⟨k1, k2⟩, by decide, by decide⟩, le1000 rfl, ?_⟩
      exact h _ ⟨_, _, _, ⟨⟨k3, k4, k5⟩, norm_pos z⟩, rfl⟩
    refine ⟨le1000 rfl, le1000 rfl, le1000 rfl, le1000 rfl, le1000 rfl, le1000 rfl, le1000 rfl, le1000 rfl, ⟨false, _⟩, rfl, List.cons_ne_nil _ _, ?_⟩
    refine allc (rest (rt 1 1) ⟨by decide, by decide⟩ (by decide) _ rfl) ?_
    refine allc (rest (rt (-1) 1) ⟨by decide, by decide⟩ (by decide) _ rfl) ?_
    refine allc (rest (rt 2 1) ⟨by decide, by decide⟩ (by decide) _ rfl) ?_
    refine allc (rest (rt (-2) 1) ⟨by decide, by decide⟩ (by decide) _ rfl) ?_
    refine allc (rest (rt 1 2) ⟨by decide, by decide⟩ (by decide) _ rfl) ?_
    refine allc (rest (rt (-1) 2) ⟨by decide, by decide⟩ (by decide) _ rfl) ?_
    exact allc (rest (rt 3 1) ⟨by decide, by decide⟩ (by decide) _ rfl) alln
  · refine ⟨(), rfl, trivial, ?_⟩
    rintro _ ⟨x, bx, rfl⟩
    refine ⟨(), rfl, trivial, ?_⟩
    rintro _ ⟨y, byy, rfl⟩
    walk_at "en"
    have bx1 : B 22 6 x := bx.mono (by decide) (by decide)
    have by1 : B 22 6 y := byy.mono (by decide) (by decide)
    have last : (dRet (dTup (dCons (dC (.str "circle")) (dCons (dVar 6) (dCons (dVar 7) (dCons (dCall S_l_pick (dCons (dVar 0) (dCons (dTup (dCons (dTup (dCons (dC (.int 1)) (dCons (dC (.int 1)) dNil))) (dCons (dTup (dCons (dC (.int 4)) (dCons (dC (.int 1)) dNil))) (dCons (dTup (dCons (dC (.int 2)) (dCons (dC (.int 1)) dNil))) (dCons (dTup (dCons (dC (.int 1)) (dCons (dC (.int 4)) dNil))) (dCons (dTup (dCons (dC (.int 9)) (dCons (dC (.int 1)) dNil))) (dCons (dTup (dCons (dC (.int 5)) (dCons (dC (.int 1)) dNil))) (dCons (dTup (dCons (dC (.int 1)) (dCons (dC (.int 1)) dNil))) (dCons (dTup (dCons (dC (.int 3)) (dCons (dC (.int 2)) dNil))) dNil))))))))) dNil))) dNil)))))) [some dWell, some (enc2 (hx, hy)), some (enc2 (a, b)), some (.int i), none, none, some (encQ x), some (encQ y), none] (fun _ => P .none) P := by
      have rest : ∀ r : Rat, B 57 24 r → 0 < r → ∀ d : PyData, d = encQ r → P (.tuple [.str "circle", encQ x, encQ y, d]) := fun r hr rz d e => h _ ⟨x, y, r, ⟨⟨bx1, by1, hr⟩, rz⟩, by rw [e]; rfl⟩
      refine ⟨le1000 rfl, le1000 rfl, le1000 rfl, le1000 rfl, le1000 rfl, le1000 rfl, le1000 rfl, le1000 rfl, le1000 rfl, ⟨false, _⟩, rfl, List.cons_ne_nil _ _, ?_⟩
      refine allc ⟨le1000 rfl, rest (rt 1 1) ⟨by decide, by decide⟩ (by decide) _ rfl⟩ ?_
      refine allc ⟨le1000 rfl, rest (rt 4 1) ⟨by decide, by decide⟩ (by decide) _ rfl⟩ ?_
      refine allc ⟨le1000 rfl, rest (rt 2 1) ⟨by decide, by decide⟩ (by decide) _ rfl⟩ ?_
      refine allc ⟨le1000 rfl, rest (rt 1 4) ⟨by decide, by decide⟩ (by decide) _ rfl⟩ ?_
      refine allc ⟨le1000 rfl, rest (rt 9 1) ⟨by decide, by decide⟩ (by decide) _ rfl⟩ ?_
      refine allc ⟨le1000 rfl, rest (rt 5 1) ⟨by decide, by decide⟩ (by decide) _ rfl⟩ ?_
      refine allc ⟨le1000 rfl, rest (rt 1 1) ⟨by decide, by decide⟩ (by decide) _ rfl⟩ ?_
      exact allc ⟨le1000 rfl, rest (rt 3 2) ⟨by decide, by decide⟩ (by decide) _ rfl⟩ alln
    refine cho_2 (c := decide (i = 2)) (fun _ => ?_) (fun _ => ?_)
    rotate_left
    · refine cho_f rfl ?_
      dsimp only [dNext]
      exact last
    refine ⟨le1000 rfl, ⟨shP x y, shP hx hy⟩, ?_⟩
    refine cho_2 (c := !PyData.eqv (encP x y) (encP hx hy)) (fun e => ?_) (fun _ => ?_)
    rotate_left
    · dsimp only [dNext]
      exact last
    rw [eqv_enc2] at e
    have ne : ¬ (x = hx ∧ y = hy) := fun z => by
      rw [decide_eq_true z] at e
      exact absurd e (by decide)
    have o1 : OkL x (-hx) := by walk_at "okl"
    have o2 : OkL y (-hy) := by walk_at "okl"
    have k1 : B 22 6 (x + -hx) := by
      clear bx1 by1 last
      walk_at "bm"
    have k2 : B 22 6 (y + -hy) := by
      clear bx1 by1 last
      walk_at "bm"
    have k5 : B 57 24 ((x + -hx) * (x + -hx) + (y + -hy) * (y + -hy)) := by walk_at "bm"
    have nz2 : x + -hx ≠ 0 ∨ y + -hy ≠ 0 := by
      by_cases z : x = hx
      · exact .inr fun w => ne ⟨z, by grind⟩
      · exact .inl fun w => z (by grind)
    refine ⟨le1000 rfl, (x, -hx), ?_, o1, le1000 rfl, (y, -hy), ?_, o2, (x + -hx, y + -hy), rfl, ⟨22, 6, ⟨k1, k2⟩, by decide, by decide⟩, le1000 rfl, h _ ⟨_, _, _, ⟨⟨bx1, by1, k5⟩, norm_pos nz2⟩, rfl⟩⟩
    · show [encQ x, PyData.tuple [.int (0 - hx.num), .int hx.den]] = _
      rw [negQ]
    · show [encQ y, PyData.tuple [.int (0 - hy.num), .int hy.den]] = _
      rw [negQ]
theorem CB1.to0 {c : Curve} (h : CB1 c) : CB0 c := by
  cases c with
  | line a b c => exact h
  | circ x y q => exact ⟨⟨h.1.1.mono (by decide) (by decide), h.1.2.1.mono (by decide) (by decide), h.1.2.2.mono (by decide) (by decide)⟩, h.2⟩
theorem lay_list {xs : List PyData} (h : ∀ d ∈ xs, d.canLay0 = true ∧ d.depth ≤ 10) : PyData.canLayAll0 xs = true ∧ PyData.depthAll xs ≤ 10 := by
  induction xs with
  | nil => exact ⟨rfl, by decide⟩
  | cons x r ih =>
    have h1 := h x List.mem_cons_self
    have h2 := ih fun d hd => h d (List.mem_cons_of_mem _ hd)
    constructor
    · unfold PyData.canLayAll0
      rw [h1.1, h2.1]
      rfl
    · unfold PyData.depthAll
      exact Nat.max_le.mpr ⟨h1.2, h2.2⟩
theorem shL {xs : List PyData} (h : ∀ d ∈ xs, d.canLay0 = true ∧ d.depth ≤ 10) : SeqAt.shaped (.list xs) = true := by
  have k := lay_list h
  unfold SeqAt.shaped
  have e1 : PyData.canLay0 (.list xs) = true := by
    unfold PyData.canLay0
    exact k.1
  have e2 : PyData.depth (.list xs) ≤ 64 := by
    unfold PyData.depth
    omega
  rw [e1, decide_eq_true e2]
  rfl
theorem map_lay {α : Type} (f : α → PyData) (h : ∀ x, (f x).canLay0 = true ∧ (f x).depth ≤ 10) (xs : List α) : ∀ d ∈ xs.map f, d.canLay0 = true ∧ d.depth ≤ 10 := fun d hd => by
  obtain ⟨x, _, rfl⟩ := List.mem_map.mp hd
  exact h x
theorem lay_encC (c : Curve) : (encC c).canLay0 = true ∧ (encC c).depth ≤ 10 := by
  have s1 : PyData.canLay0 (.str "line") = true := by decide +kernel
  have s2 : PyData.canLay0 (.str "circle") = true := by decide +kernel
  cases c
  · refine ⟨?_, Nat.le_of_ble_eq_true (by rfl)⟩
    show (PyData.canLay0 (.str "line") && _) = true
    rw [s1]
    rfl
  · refine ⟨?_, Nat.le_of_ble_eq_true (by rfl)⟩
    show (PyData.canLay0 (.str "circle") && _) = true
    rw [s2]
    rfl
theorem lay_encF (f : Flat) : (encF f).canLay0 = true ∧ (encF f).depth ≤ 10 := ⟨by rfl, Nat.le_of_ble_eq_true (by rfl)⟩
theorem lay_encS (s : Spot) : (encS s).canLay0 = true ∧ (encS s).depth ≤ 10 := ⟨by rfl, Nat.le_of_ble_eq_true (by rfl)⟩
theorem shN : SeqAt.shaped (.list []) = true := by rfl
theorem eqv_nil (xs : List PyData) : PyData.eqv (.list xs) (.list []) = decide (xs = []) := by
  cases xs with
  | nil => rfl
  | cons x r => rfl
theorem sem_l_bow {ds : List PyData} {P : PyData → Prop} : S_l_bow ds P → m_l_bow (startD N_l_bow ds) (fun _ => P .none) P := by
  rintro ⟨⟨⟨⟨hx, hy⟩, ⟨a, b⟩⟩, f⟩, rfl, ⟨hh, hc⟩, h⟩
  have hh : AHub ((hx, hy), (a, b)) := hh
  have hc : ∀ c ∈ f, CB1 c := hc
  have h : ∀ d, (∃ c, CB0 c ∧ (f = [] → CB1 c) ∧ d = encC c) → P d := h
  refine ⟨13, rfl, by decide, ?_⟩
  rintro _ ⟨i, hi, rfl⟩
  walk_at "en"
  have last : (dRet (dIf (dtVal (dBin kEqI (dBin kMod (dCall kInt (dCons (dVar 4) dNil)) (dC (.int 2))) (dC (.int 0)))) (dCall S_l_line (dCons (dVar 0) (dCons (dVar 1) (dCons (dVar 2) dNil)))) (dCall S_l_ring (dCons (dVar 0) (dCons (dVar 1) (dCons (dVar 2) dNil)))))) [some dWell, some (enc2 (hx, hy)), some (enc2 (a, b)), some (.list (f.map encC)), some (.int i), none, none, none, none] (fun _ => P .none) P := by
    refine ⟨(by decide : (2 : Int) ≠ 0), ?_⟩
    refine cho_2 (c := decide (i.fmod 2 = 0)) (fun _ => ?_) (fun _ => ?_)
    · refine ⟨((hx, hy), (a, b)), rfl, hh, ?_⟩
      rintro _ ⟨p, q, r, hk, rfl⟩
      exact h _ ⟨.line p q r, hk.to0, fun _ => hk, rfl⟩
    · refine ⟨((hx, hy), (a, b)), rfl, hh, ?_⟩
      rintro _ ⟨p, q, r, hk, rfl⟩
      exact h _ ⟨.circ p q r, hk.to0, fun _ => hk, rfl⟩
  refine cho_2 (c := decide ((10 : Int) < i)) (fun _ => ?_) (fun _ => last)
  refine ⟨le1000 rfl, ⟨shL (map_lay encC lay_encC f), shN⟩, ?_⟩
  refine cho_2 (c := !PyData.eqv (.list (f.map encC)) (.list [])) (fun e => ?_) (fun _ => last)
  rw [eqv_nil] at e
  have ne : f.map encC ≠ [] := fun z => by
    rw [decide_eq_true z] at e
    exact absurd e (by decide)
  have nf : f ≠ [] := fun z => ne (by rw [z]; rfl)
  refine ⟨⟨true, f.map encC⟩, rfl, ne, ?_⟩
  rintro d hd
  obtain ⟨c, hcm, rfl⟩ := List.mem_map.mp hd
  have k := hc c hcm
  cases c with
  | line p q r =>
    obtain ⟨⟨k1, k2, k3⟩, kz⟩ := k
    refine ⟨rfl, le1000 rfl, (p, -q, r), ?_, ⟨k1.den1, k2.neg.den1, ?_, .inl ⟨k1, k2.neg, k3⟩⟩, ?_⟩
    · show [encQ p, PyData.tuple [.int (0 - q.num), .int q.den], encQ r] = _
      rw [negQ]
    · refine kz.imp id fun y z => y ?_
      have z : -q = 0 := z
      grind
    · rintro _ ⟨p', q', r', hk, rfl⟩
      exact h _ ⟨.line p' q' r', hk.to0, fun z => absurd z nf, rfl⟩
  | circ x y q =>
    obtain ⟨⟨k1, k2, k3⟩, kz⟩ := k
    refine ⟨rfl, ?_⟩
    walk_at "en"
    refine ⟨2, rfl, by decide, ?_⟩
    rintro _ ⟨j, hj, rfl⟩
    refine cho_2 (c := decide (j = 0)) (fun _ => ?_) (fun _ => ?_)
    · have rest : ∀ r : Rat, B 3 3 r → 0 < r → ∀ d : PyData, d = encQ r → S_l_product [encQ q, d] fun d => ([PyData.str "circle", encQ x, encQ y, d].length ≤ 1000 ∧ P (.tuple [.str "circle", encQ x, encQ y, d])) := by
        rintro r hr rz _ rfl
        have o1 : OkL q r := by walk_at "okl"
        have k4 : B 60 27 (q * r) := by walk_at "bm"
        exact ⟨(q, r), rfl, o1, le1000 rfl, h _ ⟨.circ x y (q * r), ⟨⟨k1.mono (by decide) (by decide), k2.mono (by decide) (by decide), k4⟩, Rat.mul_pos kz rz⟩, fun z => absurd z nf, rfl⟩⟩
      refine ⟨le1000 rfl, le1000 rfl, le1000 rfl, le1000 rfl, ⟨false, _⟩, rfl, List.cons_ne_nil _ _, ?_⟩
      refine allc (rest (rt 4 1) ⟨by decide, by decide⟩ (by decide) _ rfl) ?_
      refine allc (rest (rt 1 4) ⟨by decide, by decide⟩ (by decide) _ rfl) ?_
      exact allc (rest (rt 2 1) ⟨by decide, by decide⟩ (by decide) _ rfl) alln
    · have rest : ∀ r : Rat, B 2 2 r → ∀ d : PyData, d = encQ r → S_l_sum [encQ y, d] fun d => ([PyData.str "circle", encQ x, d, encQ q].length ≤ 1000 ∧ P (.tuple [.str "circle", encQ x, d, encQ q])) := by
        rintro r hr _ rfl
        have o1 : OkL y r := by walk_at "okl"
        have k4 : B 25 8 (y + r) := by walk_at "bm"
        exact ⟨(y, r), rfl, o1, le1000 rfl, h _ ⟨.circ x (y + r) q, ⟨⟨k1.mono (by decide) (by decide), k4, k3.mono (by decide) (by decide)⟩, kz⟩, fun z => absurd z nf, rfl⟩⟩
      refine ⟨le1000 rfl, le1000 rfl, le1000 rfl, le1000 rfl, le1000 rfl, ⟨false, _⟩, rfl, List.cons_ne_nil _ _, ?_⟩
      refine allc (rest (rt 1 1) ⟨by decide, by decide⟩ _ rfl) ?_
      refine allc (rest (rt 2 1) ⟨by decide, by decide⟩ _ rfl) ?_
      refine allc (rest (rt (-3) 1) ⟨by decide, by decide⟩ _ rfl) ?_
      exact allc (rest (rt 1 2) ⟨by decide, by decide⟩ _ rfl) alln
end GD
end

section
set_option Elab.async false
set_option linter.all false
set_option maxRecDepth 100000
set_option exponentiation.threshold 500
set_option maxHeartbeats 4000000
/-! LZ: what the law's defs compute: leads, places drawn. -/
namespace GD
open PySem PySem.Spec PyProof.Rows L2 GQ
local macro_rules | `(tactic| walk_at "bi") => `(tactic| with_reducible first | assumption | exact zero_b | exact one_b | exact two_b | (apply GQ.B.neg; walk_at "bi") | (apply ite_b; walk_at "bi") | (apply GQ.B.add; walk_at "bi"; walk_at "bi") | (apply GQ.B.sub; walk_at "bi"; walk_at "bi") | (apply GQ.B.mul; walk_at "bi"; walk_at "bi") | (apply GQ.B.div; walk_at "bi"; walk_at "bi"; assumption))
local macro_rules | `(tactic| walk_at "bm") => `(tactic| (apply GQ.B.mono; walk_at "bi"; decide; decide))
local macro_rules | `(tactic| walk_at "ok") => `(tactic| (apply Ok2.of; walk_at "bi"; walk_at "bi"; decide; decide; decide))
local macro_rules | `(tactic| walk_at "bb") => `(tactic| with_reducible first | assumption | exact bl0 | exact bl1 | exact bl2 | exact bl4 | (apply GQ.Bi.neg; walk_at "bb") | (apply GQ.Bi.add; walk_at "bb"; walk_at "bb") | (apply GQ.Bi.sub; walk_at "bb"; walk_at "bb") | (apply GQ.Bi.mul; walk_at "bb"; walk_at "bb"))
local macro_rules | `(tactic| walk_at "sm") => `(tactic| (apply GQ.Bi.sm; walk_at "bb"; decide))
local macro_rules | `(tactic| walk_at "en") => `(tactic| try dsimp only [startD, List.cons_append, List.nil_append, dNil, List.map, List.replicate, List.length, List.set, gdCons, gdName, gdNil, cutD, List.drop, List.take, Option.getD, Nat.reduceAdd, Nat.reduceSub])
local macro_rules | `(tactic| walk_at "mm") => `(tactic| (refine ⟨⟨?_, ?_⟩, ?_⟩; (walk_at "sm"); (walk_at "sm")))
local macro_rules | `(tactic| walk_at "bx") => `(tactic| (apply GQ.Bi.mono; walk_at "bb"; decide))
local macro_rules | `(tactic| walk_at "okl") => `(tactic| (apply OkL.of; walk_at "bi"; walk_at "bi"; decide; decide; decide))

theorem ATurn.of {n d m e : Nat} {a b : Rat} {f : Bool} {r : Option PyData} {x y : Rat} (h1 : B n d a) (h2 : B n d b) (h3 : B m e x) (h4 : B m e y) (k1 : n + m + d + e ≤ 40000) (k2 : d + e ≤ 2200) : ATurn.ok ⟨a, b, f, r, (x, y)⟩ := ⟨n, d, m, e, ⟨⟨h1, h2⟩, h3, h4⟩, k1, k2⟩
theorem sem_l_led {ds : List PyData} {P : PyData → Prop} : S_l_led ds P → m_l_led (startD N_l_led ds) (fun _ => P .none) P := by
  rintro ⟨⟨⟨a, b, m, lx, ly⟩, c⟩, rfl, ⟨hl, hc⟩, h⟩
  have hl : LB ⟨a, b, m, lx, ly⟩ := hl
  have hc : CB c := hc
  have h : P (encC (ledC ⟨a, b, m, lx, ly⟩ c)) := h
  have hn := hl.n
  have ha : B 44 44 a := hl.ha
  have hb : B 44 44 b := hl.hb
  have kx : B 60 44 lx := hl.hx
  have ky : B 60 44 ly := hl.hy
  have hn : B 177 176 (a * a + b * b) := hn
  refine ⟨(a, b), rfl, ⟨44, 44, ⟨ha, hb⟩, by decide, by decide⟩, ?_⟩
  cases c with
  | line p q r =>
    obtain ⟨⟨hp, hq, hr⟩, hz⟩ := hc
    have hx := hl.cx hp hq
    have hy := hl.cy hp hq
    have o1 : OkL (a * a + b * b) r := by walk_at "okl"
    refine ⟨cutL rfl, ⟨a, b, m, some (encP lx ly), (p, q)⟩, rfl, ATurn.of ha hb hp hq (by decide) (by decide), (a * a + b * b, r), rfl, o1, ?_⟩
    have h : P (.tuple [.str "line", encQ (Lead.cx ⟨a, b, m, lx, ly⟩ p q), encQ (Lead.cy ⟨a, b, m, lx, ly⟩ p q), encQ ((a * a + b * b) * r + (Lead.cx ⟨a, b, m, lx, ly⟩ p q * lx + Lead.cy ⟨a, b, m, lx, ly⟩ p q * ly))]) := h
    have e1 : Lead.cx ⟨a, b, m, lx, ly⟩ p q = a * p - b * (if m then -q else q) := rfl
    have e2 : Lead.cy ⟨a, b, m, lx, ly⟩ p q = a * (if m then -q else q) + b * p := rfl
    rw [e1] at hx
    rw [e2] at hy
    rw [e1, e2] at h
    walk_at "en"
    generalize a * p - b * (if m then -q else q) = X at *
    generalize a * (if m then -q else q) + b * p = Y at *
    have o2 : OkL X lx := by walk_at "okl"
    have o3 : OkL Y ly := by walk_at "okl"
    have o4 : OkL (X * lx) (Y * ly) := by walk_at "okl"
    have o5 : OkL ((a * a + b * b) * r) (X * lx + Y * ly) := by walk_at "okl"
    exact ⟨(X, lx), rfl, o2, (Y, ly), rfl, o3, (X * lx, Y * ly), rfl, o4, ((a * a + b * b) * r, X * lx + Y * ly), rfl, o5, le1000 rfl, h⟩
  | circ p q r =>
    obtain ⟨⟨hp, hq, hr⟩, hz⟩ := hc
    have hx := hl.cx hp hq
    have hy := hl.cy hp hq
    have o1 : OkL (a * a + b * b) r := by walk_at "okl"
    refine ⟨cutL rfl, ⟨a, b, m, some (encP lx ly), (p, q)⟩, rfl, ATurn.of ha hb hp hq (by decide) (by decide), (a * a + b * b, r), rfl, o1, ?_⟩
    have h : P (.tuple [.str "circle", encQ (Lead.cx ⟨a, b, m, lx, ly⟩ p q + lx), encQ (Lead.cy ⟨a, b, m, lx, ly⟩ p q + ly), encQ ((a * a + b * b) * r)]) := h
    have e1 : Lead.cx ⟨a, b, m, lx, ly⟩ p q = a * p - b * (if m then -q else q) := rfl
    have e2 : Lead.cy ⟨a, b, m, lx, ly⟩ p q = a * (if m then -q else q) + b * p := rfl
    rw [e1] at hx
    rw [e2] at hy
    rw [e1, e2] at h
    walk_at "en"
    generalize a * p - b * (if m then -q else q) = X at *
    generalize a * (if m then -q else q) + b * p = Y at *
    have o2 : OkL X lx := by walk_at "okl"
    have o3 : OkL Y ly := by walk_at "okl"
    exact ⟨(X, lx), rfl, o2, (Y, ly), rfl, o3, le1000 rfl, h⟩
theorem inv_data {q : Rat} (h : 0 < q) : PyData.tuple [.int q.den, .int q.num] = encQ (1 / q) := by
  have hn := num_pos' h
  have e : (1 / q : Rat) = ⟨q.den, q.num.natAbs, by omega, by
    rw [Int.natAbs_natCast]
    exact Nat.Coprime.symm q.reduced⟩ := by
    rw [Rat.div_def, Rat.one_mul]
    refine Rat.ext ?_ ?_
    · rw [Rat.num_inv, Int.sign_eq_one_of_pos hn, Int.one_mul]
    · rw [Rat.den_inv, if_neg (by omega)]
  rw [e]
  have e2 : ((q.num.natAbs : Nat) : Int) = q.num := by omega
  show _ = PyData.tuple [.int (q.den : Int), .int ((q.num.natAbs : Nat) : Int)]
  rw [e2]
theorem negQ2 (y z : Rat) : PyData.tuple [.tuple [.int (0 - y.num), .int y.den], .tuple [.int (0 - z.num), .int z.den]] = encP (-y) (-z) := by
  rw [negQ, negQ]
  rfl
theorem sem_l_undone {ds : List PyData} {P : PyData → Prop} : S_l_undone ds P → m_l_undone (startD N_l_undone ds) (fun _ => P .none) P := by
  rintro ⟨⟨a, b, m, lx, ly⟩, rfl, hl, h⟩
  have hl : LB ⟨a, b, m, lx, ly⟩ := hl
  have hn : B 177 176 (a * a + b * b) := hl.n
  have np : 0 < a * a + b * b := hl.np
  have ha : B 44 44 a := hl.ha
  have hb : B 44 44 b := hl.hb
  have kx : B 60 44 lx := hl.hx
  have ky : B 60 44 ly := hl.hy
  have hd : B 180 180 (1 / (a * a + b * b)) := (B.div one_b hn np).mono (by decide) (by decide)
  have h : P (encL (backL ⟨a, b, m, lx, ly⟩)) := h
  refine ⟨(a, b), rfl, ⟨44, 44, ⟨ha, hb⟩, by decide, by decide⟩, le1000 rfl, ?_⟩
  walk_at "en"
  rw [show PyData.tuple [.int ((a * a + b * b).den : Int), .int (a * a + b * b).num] = encQ (1 / (a * a + b * b)) from inv_data np]
  unfold backL Lead.n at h
  generalize 1 / (a * a + b * b) = t at *
  have o1 : OkL a t := by walk_at "okl"
  have o2 : OkL b t := by walk_at "okl"
  have h1 : B 230 230 (a * t) := by walk_at "bm"
  have h2 : B 230 230 (b * t) := by walk_at "bm"
  refine ⟨(a, t), rfl, o1, (b, t), rfl, o2, ?_⟩
  cases m with
  | true =>
    have e1 : -(-b * t) = b * t := by grind
    have e2 : (a * t * lx - -b * t * ly) * -1 = -(a * t * lx - b * t * -ly) := by grind
    have e3 : -(a * t * ly + -b * t * lx) * -1 = -(a * t * -ly + b * t * lx) := by grind
    have h : P (.tuple [encQ (a * t), encQ (-(-b * t)), .bool true, encP ((a * t * lx - -b * t * ly) * -1) (-(a * t * ly + -b * t * lx) * -1)]) := h
    rw [e1, e2, e3] at h
    refine ⟨le1000 rfl, ⟨a * t, b * t, true, none, (lx, ly)⟩, rfl, ATurn.of h1 h2 kx ky (by decide) (by decide), rfl, le1000 rfl, le1000 rfl, le1000 rfl, le1000 rfl, ⟨neN rfl, le1000 rfl, le1000 rfl⟩, ?_⟩
    rw [← negQ2] at h
    exact h
  | false =>
    have e1 : -b * t = -(b * t) := by grind
    have e2 : (a * t * lx - -(b * t) * ly) * -1 = -(a * t * lx - -(b * t) * ly) := by grind
    have e3 : (a * t * ly + -(b * t) * lx) * -1 = -(a * t * ly + -(b * t) * lx) := by grind
    have h : P (.tuple [encQ (a * t), encQ (-b * t), .bool false, encP ((a * t * lx - -b * t * ly) * -1) ((a * t * ly + -b * t * lx) * -1)]) := h
    rw [e1, e2, e3] at h
    refine ⟨le1000 rfl, le1000 rfl, ⟨a * t, -(b * t), false, none, (lx, ly)⟩, ?_, ATurn.of h1 h2.neg kx ky (by decide) (by decide), rfl, le1000 rfl, le1000 rfl, le1000 rfl, le1000 rfl, ⟨neN rfl, le1000 rfl, le1000 rfl⟩, ?_⟩
    · show [PyData.tuple [_, PyData.tuple [.int (0 - (b * t).num), .int (b * t).den], _], _] = _
      rw [negQ]
      rfl
    · rw [← negQ2] at h
      have e4 : encQ (-(b * t)) = PyData.tuple [.int (0 - (b * t).num), .int (b * t).den] := (negQ _).symm
      rw [e4] at h
      exact h
theorem sem_l_both {ds : List PyData} {P : PyData → Prop} : S_l_both ds P → m_l_both (startD N_l_both ds) (fun _ => P .none) P := by
  rintro ⟨⟨l, k⟩, rfl, ⟨hl, hk⟩, h⟩
  have hl : LB l := hl
  have hk : LB k := hk
  have h : P (encL (behindL l k)) := h
  have kx := hk.hx
  have ky := hk.hy
  have hx := hk.cx hl.hx hl.hy
  have hy := hk.cy hl.hx hl.hy
  refine ⟨le1000 rfl, ⟨k.a, k.b, k.m, some (encP k.x k.y), (l.a, l.b)⟩, rfl, ATurn.of hk.ha hk.hb hl.ha hl.hb (by decide) (by decide), rfl, ?_⟩
  walk_at "en"
  refine ⟨⟨k.a, k.b, k.m, some (encP k.x k.y), (l.x, l.y)⟩, rfl, ATurn.of hk.ha hk.hb hl.hx hl.hy (by decide) (by decide), rfl, ?_⟩
  walk_at "en"
  have o1 : OkL (k.cx l.x l.y) k.x := by walk_at "okl"
  have o2 : OkL (k.cy l.x l.y) k.y := by walk_at "okl"
  exact ⟨⟨rfl, rfl⟩, (k.cx l.x l.y, k.x), rfl, o1, (k.cy l.x l.y, k.y), rfl, o2, le1000 rfl, le1000 rfl, h⟩
end GD
end

section
set_option Elab.async false
set_option linter.all false
set_option maxRecDepth 100000
set_option exponentiation.threshold 500
set_option maxHeartbeats 4000000
/-! MA: what the law's defs compute: rules, places drawn. -/
namespace GD
open PySem PySem.Spec PyProof.Rows L2 GQ
local macro_rules | `(tactic| walk_at "bi") => `(tactic| with_reducible first | assumption | exact zero_b | exact one_b | exact two_b | (apply GQ.B.neg; walk_at "bi") | (apply ite_b; walk_at "bi") | (apply GQ.B.add; walk_at "bi"; walk_at "bi") | (apply GQ.B.sub; walk_at "bi"; walk_at "bi") | (apply GQ.B.mul; walk_at "bi"; walk_at "bi") | (apply GQ.B.div; walk_at "bi"; walk_at "bi"; assumption))
local macro_rules | `(tactic| walk_at "bm") => `(tactic| (apply GQ.B.mono; walk_at "bi"; decide; decide))
local macro_rules | `(tactic| walk_at "ok") => `(tactic| (apply Ok2.of; walk_at "bi"; walk_at "bi"; decide; decide; decide))
local macro_rules | `(tactic| walk_at "bb") => `(tactic| with_reducible first | assumption | exact bl0 | exact bl1 | exact bl2 | exact bl4 | (apply GQ.Bi.neg; walk_at "bb") | (apply GQ.Bi.add; walk_at "bb"; walk_at "bb") | (apply GQ.Bi.sub; walk_at "bb"; walk_at "bb") | (apply GQ.Bi.mul; walk_at "bb"; walk_at "bb"))
local macro_rules | `(tactic| walk_at "sm") => `(tactic| (apply GQ.Bi.sm; walk_at "bb"; decide))
local macro_rules | `(tactic| walk_at "en") => `(tactic| try dsimp only [startD, List.cons_append, List.nil_append, dNil, List.map, List.replicate, List.length, List.set, gdCons, gdName, gdNil, cutD, List.drop, List.take, Option.getD, Nat.reduceAdd, Nat.reduceSub])
local macro_rules | `(tactic| walk_at "mm") => `(tactic| (refine ⟨⟨?_, ?_⟩, ?_⟩; (walk_at "sm"); (walk_at "sm")))
local macro_rules | `(tactic| walk_at "bx") => `(tactic| (apply GQ.Bi.mono; walk_at "bb"; decide))
local macro_rules | `(tactic| walk_at "okl") => `(tactic| (apply OkL.of; walk_at "bi"; walk_at "bi"; decide; decide; decide))

theorem divInt_ne {p w : Int} (hp : p ≠ 0) (hw : w ≠ 0) : Rat.divInt p w ≠ 0 := by
  rw [fr_eq]
  have h1 : (p : Rat) ≠ 0 := fun z => hp (Rat.intCast_eq_zero_iff.mp z)
  have h2 : (w : Rat) ≠ 0 := fun z => hw (Rat.intCast_eq_zero_iff.mp z)
  intro z
  exact h1 ((div_zero_iff h2).mp z)
theorem sem_l_rule {ds : List PyData} {P : PyData → Prop} : S_l_rule ds P → m_l_rule (startD N_l_rule ds) (fun _ => P .none) P := by
  rintro ⟨_, rfl, _, h⟩
  have h : ∀ d, (∃ l, LB0 l ∧ d = encL l) → P d := h
  refine ⟨le1000 rfl, le1000 rfl, le1000 rfl, le1000 rfl, le1000 rfl, le1000 rfl, le1000 rfl, le1000 rfl, le1000 rfl, le1000 rfl, ⟨false, _⟩, rfl, List.cons_ne_nil _ _, ?_⟩
  walk_at "en"
  have rest : ∀ (T : PyData) (p q w : Int), Bi 3 p → Bi 3 q → Bi 3 w → 0 < w → (p ≠ 0 ∨ q ≠ 0) →
    (dSeq (dAsg (dBin kEqI (dCall S_l_draw (dCons (dVar 0) (dCons (dC (.int 3)) dNil))) (dC (.int 0))) (gdName 5))
    (dRet (dTup (dCons (dCall S_l_lean (dCons (dVar 2) (dCons (dVar 4) dNil))) (dCons (dCall S_l_lean (dCons (dVar 3) (dCons (dVar 4) dNil))) (dCons (dVar 5) (dCons (dTup (dCons (dCall S_l_small (dCons (dVar 0) dNil)) (dCons (dCall S_l_small (dCons (dVar 0) dNil)) dNil))) dNil))))))) [some dWell, some T, some (.int p), some (.int q), some (.int w), none] (fun _ => P .none) P := by
    intro T p q w hp hq hw w0 nz
    refine ⟨3, rfl, by decide, ?_⟩
    rintro _ ⟨j, hj, rfl⟩
    refine ⟨(p, w), rfl, ⟨w0, hw.mono (by decide)⟩, (q, w), rfl, ⟨w0, hw.mono (by decide)⟩, (), rfl, trivial, ?_⟩
    rintro _ ⟨x, hx, rfl⟩
    refine ⟨(), rfl, trivial, ?_⟩
    rintro _ ⟨y, hy, rfl⟩
    have wz : w ≠ 0 := Int.ne_of_gt w0
    exact ⟨le1000 rfl, le1000 rfl, h _ ⟨⟨Rat.divInt p w, Rat.divInt q w, decide (j = 0), x, y⟩, ⟨B.fr hp hw wz, B.fr hq hw wz, hx, hy, nz.imp (fun z => divInt_ne z wz) (fun z => divInt_ne z wz)⟩, rfl⟩⟩
  have b0 : Bi 3 0 := Bi.lit (by decide)
  have b1 : Bi 3 1 := Bi.lit (by decide)
  have bm : Bi 3 (-1) := Bi.lit (by decide)
  have b2 : Bi 3 2 := Bi.lit (by decide)
  have b3 : Bi 3 3 := Bi.lit (by decide)
  have b4 : Bi 3 4 := Bi.lit (by decide)
  have b5 : Bi 3 5 := Bi.lit (by decide)
  refine allc ⟨rfl, rest _ 1 0 1 b1 b0 b1 (by decide) (by decide)⟩ ?_
  refine allc ⟨rfl, rest _ 1 0 1 b1 b0 b1 (by decide) (by decide)⟩ ?_
  refine allc ⟨rfl, rest _ 0 1 1 b0 b1 b1 (by decide) (by decide)⟩ ?_
  refine allc ⟨rfl, rest _ (-1) 0 1 bm b0 b1 (by decide) (by decide)⟩ ?_
  refine allc ⟨rfl, rest _ 3 4 5 b3 b4 b5 (by decide) (by decide)⟩ ?_
  refine allc ⟨rfl, rest _ 2 0 1 b2 b0 b1 (by decide) (by decide)⟩ ?_
  refine allc ⟨rfl, rest _ 1 1 1 b1 b1 b1 (by decide) (by decide)⟩ ?_
  refine allc ⟨rfl, rest _ 1 0 2 b1 b0 b2 (by decide) (by decide)⟩ ?_
  exact allc ⟨rfl, rest _ 0 (-1) 1 b0 bm b1 (by decide) (by decide)⟩ alln
/-! ### flat forms of bows -/
theorem disc {xn xd yn yd qn qd : Int} : (0 - 2 * xn * xd * (yd * yd) * qd) * (0 - 2 * xn * xd * (yd * yd) * qd) + (0 - 2 * yn * yd * (xd * xd) * qd) * (0 - 2 * yn * yd * (xd * xd) * qd) - 4 * (xd * xd * (yd * yd) * qd) * ((xn * xn * (yd * yd) + yn * yn * (xd * xd)) * qd - qn * (xd * xd) * (yd * yd)) = 4 * (xd * xd * (yd * yd)) * (xd * xd * (yd * yd)) * qd * qn := by grind
theorem flat_ok {c : Curve} (h : CB0 c) : FlatOk (flatOf c) := by
  cases c with
  | line a b c =>
    obtain ⟨⟨ha, hb, hc⟩, nz⟩ := h
    have a1 := ha.num
    have a2 := ha.den
    have b1 := hb.num
    have b2 := hb.den
    have c1 := hc.num
    have c2 := hc.den
    have pa := den_pos' a
    have pb := den_pos' b
    have pc := den_pos' c
    refine ⟨⟨?_, ?_, ?_, ?_⟩, .inl ⟨rfl, ?_⟩⟩
    · exact Bi.lit (by show 0 < 2 ^ 70; decide)
    · show Bi 92 (a.num * b.den * c.den)
      walk_at "bx"
    · show Bi 92 (b.num * a.den * c.den)
      walk_at "bx"
    · show Bi 112 (0 - c.num * (a.den * b.den))
      walk_at "bx"
    · rcases nz with z | z
      · refine .inl ?_
        show a.num * (b.den : Int) * (c.den : Int) ≠ 0
        have : a.num ≠ 0 := fun y => z (Rat.num_eq_zero.mp y)
        exact Int.mul_ne_zero (Int.mul_ne_zero this (Int.ne_of_gt pb)) (Int.ne_of_gt pc)
      · refine .inr ?_
        show b.num * (a.den : Int) * (c.den : Int) ≠ 0
        have : b.num ≠ 0 := fun y => z (Rat.num_eq_zero.mp y)
        exact Int.mul_ne_zero (Int.mul_ne_zero this (Int.ne_of_gt pa)) (Int.ne_of_gt pc)
  | circ x y q =>
    obtain ⟨⟨ha, hb, hc⟩, nz⟩ := h
    have a1 := ha.num
    have a2 := ha.den
    have b1 := hb.num
    have b2 := hb.den
    have c1 := hc.num
    have c2 := hc.den
    have pa := den_pos' x
    have pb := den_pos' y
    have pc := den_pos' q
    have pq := num_pos' nz
    have pp : 0 < (x.den : Int) * x.den * (y.den * y.den) := Int.mul_pos (Int.mul_pos pa pa) (Int.mul_pos pb pb)
    refine ⟨⟨?_, ?_, ?_, ?_⟩, .inr ⟨?_, ?_⟩⟩
    · show Bi 70 ((x.den : Int) * x.den * (y.den * y.den) * q.den)
      walk_at "bx"
    · show Bi 92 (0 - 2 * x.num * x.den * (y.den * y.den) * q.den)
      walk_at "bx"
    · show Bi 92 (0 - 2 * y.num * y.den * (x.den * x.den) * q.den)
      walk_at "bx"
    · show Bi 112 ((x.num * x.num * (y.den * y.den) + y.num * y.num * (x.den * x.den)) * q.den - q.num * (x.den * x.den) * (y.den * y.den))
      walk_at "bx"
    · exact Int.mul_pos pp pc
    · have e := disc (xn := x.num) (xd := x.den) (yn := y.num) (yd := y.den) (qn := q.num) (qd := q.den)
      show 0 ≤ (0 - 2 * x.num * (x.den : Int) * (y.den * y.den) * q.den) * (0 - 2 * x.num * x.den * (y.den * y.den) * q.den) + (0 - 2 * y.num * y.den * (x.den * x.den) * q.den) * (0 - 2 * y.num * y.den * (x.den * x.den) * q.den) - 4 * (x.den * x.den * (y.den * y.den) * q.den) * ((x.num * x.num * (y.den * y.den) + y.num * y.num * (x.den * x.den)) * q.den - q.num * (x.den * x.den) * (y.den * y.den))
      rw [e]
      exact Int.le_of_lt (Int.mul_pos (Int.mul_pos (Int.mul_pos (Int.mul_pos (by decide) pp) pp) pc) pq)
theorem CB0.tof {c : Curve} (h : CB0 c) : CBf c := by
  cases c with
  | line a b c => exact ⟨⟨h.1.1.mono (by decide) (by decide), h.1.2.1.mono (by decide) (by decide), h.1.2.2.mono (by decide) (by decide)⟩, h.2⟩
  | circ x y q => exact h
theorem shF (f : Flat) : SeqAt.shaped (encF f) = true := by rfl
theorem sem_l_crossing {ds : List PyData} {P : PyData → Prop} : S_l_crossing ds P → m_l_crossing (startD N_l_crossing ds) (fun _ => P .none) P := by
  rintro ⟨⟨f, g⟩, rfl, ⟨hf, hg, lf, lg⟩, h⟩
  have hf : ∀ x ∈ f, FlatOk x := hf
  have hg : ∀ x ∈ g, FlatOk x := hg
  have lf : f.length ≤ 2 := lf
  have lg : g.length = 2 := lg
  have h : ∀ d, (∃ s, SB0 s ∧ d = encS s) → P d := h
  have l1 : (f.map encF).length ≤ 1000 := by
    rw [List.length_map]
    omega
  have l2 : (g.map encF).length ≤ 1000 := by
    rw [List.length_map]
    omega
  refine ⟨⟨l1, l2⟩, ?_⟩
  walk_at "en"
  have ne : f.map encF ++ g.map encF ≠ [] := fun z => by
    have y := congrArg List.length z
    rw [List.length_append, List.length_map, List.length_map, lg] at y
    exact absurd y (by rw [List.length_nil]; omega)
  have mem : ∀ d ∈ f.map encF ++ g.map encF, ∃ x, FlatOk x ∧ d = encF x := fun d hd => by
    rcases List.mem_append.mp hd with y | y
    · obtain ⟨x, hx, rfl⟩ := List.mem_map.mp y
      exact ⟨x, hf x hx, rfl⟩
    · obtain ⟨x, hx, rfl⟩ := List.mem_map.mp y
      exact ⟨x, hg x hx, rfl⟩
  refine ⟨⟨true, f.map encF ++ g.map encF⟩, rfl, ne, ?_⟩
  intro d hd
  obtain ⟨x, hx, rfl⟩ := mem d hd
  refine ⟨⟨true, f.map encF ++ g.map encF⟩, rfl, ne, ?_⟩
  intro d hd
  obtain ⟨y, hy, rfl⟩ := mem d hd
  walk_at "en"
  have rest : ∀ d, Spots d → (dRet (dIf (dtVal (dBin kEq (dVar 6) (dLst dNil))) (dCall S_l_raw (dCons (dCall S_l_small (dCons (dVar 0) dNil)) (dCons (dCall S_l_small (dCons (dVar 0) dNil)) dNil))) (dCall S_l_pick (dCons (dVar 0) (dCons (dVar 6) dNil))))) [some dWell, some (.list (f.map encF)), some (.list (g.map encF)), some (.list (f.map encF ++ g.map encF)), some (encF x), some (encF y), some d] (fun _ => P .none) P := by
    rintro d ⟨ss, hss, _, rfl⟩
    refine ⟨le1000 rfl, ⟨shL (map_lay encS lay_encS ss), shN⟩, ?_⟩
    refine cho_2 (c := PyData.eqv (.list (ss.map encS)) (.list [])) (fun _ => ?_) (fun e => ?_)
    · refine ⟨(), rfl, trivial, ?_⟩
      rintro _ ⟨p, hp, rfl⟩
      refine ⟨(), rfl, trivial, ?_⟩
      rintro _ ⟨q, hq, rfl⟩
      exact ⟨(p, q), rfl, ⟨hp, hq⟩, h⟩
    · rw [eqv_nil] at e
      refine ⟨⟨true, ss.map encS⟩, rfl, of_decide_eq_false e, ?_⟩
      intro d hd
      obtain ⟨s, hs, rfl⟩ := List.mem_map.mp hd
      exact h _ ⟨s, hss s hs, rfl⟩
  refine ⟨⟨shF x, shF y⟩, ?_⟩
  refine cho_2 (c := PyData.eqv (encF x) (encF y)) (fun _ => ⟨le1000 rfl, rest _ spots0⟩) (fun _ => ?_)
  exact ⟨(x, y), rfl, ⟨hx, hy⟩, fun d hd => rest d hd⟩
def rgT : MT := dtVal (dBin kGt (dBin kIx (dVar 12) (dC (.int 0))) (dC (.int 0)))
theorem rings_map (a b c d : Option PyData) : ∀ (fs : List Flat) (P : List PyData → Prop), P ((fs.filter fun f => decide (0 < f.k)).map encF) → mapD 12 rgT (dVar 12) (fs.map encF) [a, b, c, d, none, none, none, none, none, none, none, none, none] P
  | [], P, h => h
  | f :: fs, P, h => by
    refine cho_2 (c := decide (0 < f.k)) (fun e => ?_) (fun e => ?_)
    · refine rings_map a b c d fs _ ?_
      rw [List.filter_cons_of_pos (by exact e)] at h
      exact h
    · refine rings_map a b c d fs _ ?_
      rw [List.filter_cons_of_neg (by rw [e]; decide)] at h
      exact h
theorem sem_l_spot {ds : List PyData} {P : PyData → Prop} : S_l_spot ds P → m_l_spot (startD N_l_spot ds) (fun _ => P .none) P := by
  rintro ⟨⟨f, m⟩, rfl, ⟨hf, hm, lf, lm⟩, h⟩
  have hf : ∀ x ∈ f, FlatOk x := hf
  have hm : ∀ x ∈ m, SB0 x := hm
  have lf : f.length ≤ 2 := lf
  have h : ∀ d, (∃ s, SB0 s ∧ d = encS s) → P d := h
  refine ⟨7, rfl, by decide, ?_⟩
  rintro _ ⟨i, hi, rfl⟩
  walk_at "en"
  have l1 : (f.map encF).length ≤ 1000 := by
    rw [List.length_map]
    omega
  refine ⟨l1, ?_⟩
  walk_at "en"
  refine rings_map _ _ _ _ f _ ?_
  refine ⟨l1, ?_⟩
  have hg : ∀ x ∈ (f.filter fun f => decide (0 < f.k)), FlatOk x ∧ 0 < x.k := fun x hx => by
    have := List.mem_filter.mp hx
    exact ⟨hf x this.1, of_decide_eq_true this.2⟩
  generalize (f.filter fun f => decide (0 < f.k)) = g at hg ⊢
  walk_at "en"
  have last : (dSeq (dAsg (dTup (dCons (dCall S_l_small (dCons (dVar 0) dNil)) (dCons (dCall S_l_small (dCons (dVar 0) dNil)) dNil))) (gdName 10))
    (dSeq (dAsg (dLst (dCons (dCall S_l_flat (dCons (dCall S_l_line (dCons (dVar 0) (dCons (dVar 10) (dCons (dTup (dCons (dTup (dCons (dC (.int 1)) (dCons (dC (.int 1)) dNil))) (dCons (dTup (dCons (dC (.int 1)) (dCons (dC (.int 1)) dNil))) dNil))) dNil)))) dNil)) (dCons (dCall S_l_flat (dCons (dCall S_l_ring (dCons (dVar 0) (dCons (dVar 10) (dCons (dTup (dCons (dTup (dCons (dC (.int 1)) (dCons (dC (.int 1)) dNil))) (dCons (dTup (dCons (dC (.int 1)) (dCons (dC (.int 1)) dNil))) dNil))) dNil)))) dNil)) dNil))) (gdName 11))
    (dRet (dCall S_l_crossing (dCons (dVar 0) (dCons (dIf (dtVal (dBin kLt (dVar 3) (dC (.int 5)))) (dVar 1) (dLst dNil)) (dCons (dVar 11) dNil))))))) [some dWell, some (.list (f.map encF)), some (.list (m.map encS)), some (.int i), some (.list (g.map encF)), none, none, none, none, none, none, none, none] (fun _ => P .none) P := by
    refine ⟨(), rfl, trivial, ?_⟩
    rintro _ ⟨p, hp, rfl⟩
    refine ⟨(), rfl, trivial, ?_⟩
    rintro _ ⟨q, hq, rfl⟩
    have o1 : B 3 1 (rt 1 1) := ⟨by decide, by decide⟩
    have o2 : rt 1 1 ≠ 0 := by decide
    have ah : AHub ((p, q), (rt 1 1, rt 1 1)) := ⟨⟨hp, hq⟩, ⟨o1, o1⟩, .inl o2⟩
    refine ⟨le1000 rfl, ?_⟩
    walk_at "en"
    refine ⟨le1000 rfl, le1000 rfl, le1000 rfl, ((p, q), (rt 1 1, rt 1 1)), rfl, ah, ?_⟩
    rintro _ ⟨a, b, c, hc, rfl⟩
    refine ⟨.line a b c, rfl, hc.to0.tof, ?_⟩
    refine ⟨le1000 rfl, le1000 rfl, le1000 rfl, ((p, q), (rt 1 1, rt 1 1)), rfl, ah, ?_⟩
    rintro _ ⟨x, y, z, hz, rfl⟩
    refine ⟨.circ x y z, rfl, hz.to0.tof, le1000 rfl, ?_⟩
    walk_at "en"
    have h2 : ∀ w ∈ [flatOf (.line a b c), flatOf (.circ x y z)], FlatOk w := allc (flat_ok hc.to0) (allc (flat_ok hz.to0) alln)
    refine cho_2 (c := decide (i < 5)) (fun _ => ?_) (fun _ => ?_)
    · exact ⟨⟨f, [flatOf (.line a b c), flatOf (.circ x y z)]⟩, rfl, ⟨hf, h2, lf, rfl⟩, h⟩
    · exact ⟨le1000 rfl, ⟨[], [flatOf (.line a b c), flatOf (.circ x y z)]⟩, rfl, ⟨alln, h2, Nat.zero_le _, rfl⟩, h⟩
  have s3 : (dSeq (dIfS (dtOr (dtVal (dBin kEqI (dVar 3) (dC (.int 6)))) (dtVal (dBin kEq (dVar 1) (dLst dNil)))) (dRet (dCall S_l_raw (dCons (dCall S_l_small (dCons (dVar 0) dNil)) (dCons (dCall S_l_small (dCons (dVar 0) dNil)) dNil)))) dNext)
    (dSeq (dAsg (dTup (dCons (dCall S_l_small (dCons (dVar 0) dNil)) (dCons (dCall S_l_small (dCons (dVar 0) dNil)) dNil))) (gdName 10))
    (dSeq (dAsg (dLst (dCons (dCall S_l_flat (dCons (dCall S_l_line (dCons (dVar 0) (dCons (dVar 10) (dCons (dTup (dCons (dTup (dCons (dC (.int 1)) (dCons (dC (.int 1)) dNil))) (dCons (dTup (dCons (dC (.int 1)) (dCons (dC (.int 1)) dNil))) dNil))) dNil)))) dNil)) (dCons (dCall S_l_flat (dCons (dCall S_l_ring (dCons (dVar 0) (dCons (dVar 10) (dCons (dTup (dCons (dTup (dCons (dC (.int 1)) (dCons (dC (.int 1)) dNil))) (dCons (dTup (dCons (dC (.int 1)) (dCons (dC (.int 1)) dNil))) dNil))) dNil)))) dNil)) dNil))) (gdName 11))
    (dRet (dCall S_l_crossing (dCons (dVar 0) (dCons (dIf (dtVal (dBin kLt (dVar 3) (dC (.int 5)))) (dVar 1) (dLst dNil)) (dCons (dVar 11) dNil)))))))) [some dWell, some (.list (f.map encF)), some (.list (m.map encS)), some (.int i), some (.list (g.map encF)), none, none, none, none, none, none, none, none] (fun _ => P .none) P := by
    have raw : S_l_small [dWell] fun p => S_l_small [dWell] fun q => S_l_raw [p, q] P := by
      refine ⟨(), rfl, trivial, ?_⟩
      rintro _ ⟨p, hp, rfl⟩
      refine ⟨(), rfl, trivial, ?_⟩
      rintro _ ⟨q, hq, rfl⟩
      exact ⟨(p, q), rfl, ⟨hp, hq⟩, h⟩
    refine cho_2 (c := decide (i = 6)) (fun _ => raw) (fun _ => ?_)
    refine ⟨le1000 rfl, ⟨shL (map_lay encF lay_encF f), shN⟩, ?_⟩
    refine cho_2 (c := PyData.eqv (.list (f.map encF)) (.list [])) (fun _ => raw) (fun _ => ?_)
    dsimp only [dNext]
    exact last
  have s2 : (dSeq (dIfS (dtAnd (dtVal (dBin kEqI (dVar 3) (dC (.int 2)))) (dtVal (dBin kNe (dVar 4) (dLst dNil)))) (dSeq (dAsg (dCall S_l_pick (dCons (dVar 0) (dCons (dVar 4) dNil))) (gdTup 4 (gdCons (gdName 5) (gdCons (gdName 6) (gdCons (gdName 7) (gdCons (gdName 8) gdNil))))))
    (dSeq (dAsg (dCall S_l_pick (dCons (dVar 0) (dCons (dTup (dCons (dTup (dCons (dC (.int 1)) (dCons (dC (.int 0)) dNil))) (dCons (dTup (dCons (dNeg (dC (.int 1))) (dCons (dC (.int 0)) dNil))) (dCons (dTup (dCons (dC (.int 0)) (dCons (dC (.int 1)) dNil))) (dCons (dTup (dCons (dC (.int 0)) (dCons (dNeg (dC (.int 1))) dNil))) dNil))))) dNil))) (gdName 9))
    (dRet (dTup (dCons (dBin kSub (dC (.int 0)) (dVar 6)) (dCons (dBin kIx (dVar 9) (dC (.int 0))) (dCons (dBin kSub (dC (.int 0)) (dVar 7)) (dCons (dBin kIx (dVar 9) (dC (.int 1))) (dCons (dBin kSub (dBin kAdd (dBin kMul (dVar 6) (dVar 6)) (dBin kMul (dVar 7) (dVar 7))) (dBin kMul (dBin kMul (dC (.int 4)) (dVar 5)) (dVar 8))) (dCons (dBin kMul (dC (.int 2)) (dVar 5)) dNil)))))))))) dNext)
    (dSeq (dIfS (dtOr (dtVal (dBin kEqI (dVar 3) (dC (.int 6)))) (dtVal (dBin kEq (dVar 1) (dLst dNil)))) (dRet (dCall S_l_raw (dCons (dCall S_l_small (dCons (dVar 0) dNil)) (dCons (dCall S_l_small (dCons (dVar 0) dNil)) dNil)))) dNext)
    (dSeq (dAsg (dTup (dCons (dCall S_l_small (dCons (dVar 0) dNil)) (dCons (dCall S_l_small (dCons (dVar 0) dNil)) dNil))) (gdName 10))
    (dSeq (dAsg (dLst (dCons (dCall S_l_flat (dCons (dCall S_l_line (dCons (dVar 0) (dCons (dVar 10) (dCons (dTup (dCons (dTup (dCons (dC (.int 1)) (dCons (dC (.int 1)) dNil))) (dCons (dTup (dCons (dC (.int 1)) (dCons (dC (.int 1)) dNil))) dNil))) dNil)))) dNil)) (dCons (dCall S_l_flat (dCons (dCall S_l_ring (dCons (dVar 0) (dCons (dVar 10) (dCons (dTup (dCons (dTup (dCons (dC (.int 1)) (dCons (dC (.int 1)) dNil))) (dCons (dTup (dCons (dC (.int 1)) (dCons (dC (.int 1)) dNil))) dNil))) dNil)))) dNil)) dNil))) (gdName 11))
    (dRet (dCall S_l_crossing (dCons (dVar 0) (dCons (dIf (dtVal (dBin kLt (dVar 3) (dC (.int 5)))) (dVar 1) (dLst dNil)) (dCons (dVar 11) dNil))))))))) [some dWell, some (.list (f.map encF)), some (.list (m.map encS)), some (.int i), some (.list (g.map encF)), none, none, none, none, none, none, none, none] (fun _ => P .none) P := by
    refine cho_2 (c := decide (i = 2)) (fun _ => ?_) (fun _ => ?_)
    rotate_left
    · refine cho_f rfl ?_
      dsimp only [dNext]
      exact s3
    refine ⟨le1000 rfl, ⟨shL (map_lay encF lay_encF g), shN⟩, ?_⟩
    refine cho_2 (c := !PyData.eqv (.list (g.map encF)) (.list [])) (fun e => ?_) (fun _ => ?_)
    rotate_left
    · dsimp only [dNext]
      exact s3
    rw [eqv_nil] at e
    have ne : g.map encF ≠ [] := fun z => by
      rw [decide_eq_true z] at e
      exact absurd e (by decide)
    refine ⟨⟨true, g.map encF⟩, rfl, ne, ?_⟩
    intro d hd
    obtain ⟨⟨k, a, b, c⟩, hx, rfl⟩ := List.mem_map.mp hd
    obtain ⟨fo, kp⟩ := hg _ hx
    have kp : 0 < k := kp
    have kz : 0 ≤ a * a + b * b - 4 * k * c := by
      rcases fo.ok with y | y
      · have y1 : k = 0 := y.1
        omega
      · exact y.2
    have hk : Bi 70 k := fo.fb.hk
    have ha : Bi 92 a := fo.fb.ha
    have hb : Bi 92 b := fo.fb.hb
    have hc : Bi 112 c := fo.fb.hc
    refine ⟨rfl, le1000 rfl, le1000 rfl, le1000 rfl, le1000 rfl, le1000 rfl, ⟨false, _⟩, rfl, List.cons_ne_nil _ _, ?_⟩
    have rest : ∀ u v : Int, Bi 200 u → Bi 200 v → (dSeq (dAsg (dC (.tuple [.int u, .int v])) (gdName 9)) (dRet (dTup (dCons (dBin kSub (dC (.int 0)) (dVar 6)) (dCons (dBin kIx (dVar 9) (dC (.int 0))) (dCons (dBin kSub (dC (.int 0)) (dVar 7)) (dCons (dBin kIx (dVar 9) (dC (.int 1))) (dCons (dBin kSub (dBin kAdd (dBin kMul (dVar 6) (dVar 6)) (dBin kMul (dVar 7) (dVar 7))) (dBin kMul (dBin kMul (dC (.int 4)) (dVar 5)) (dVar 8))) (dCons (dBin kMul (dC (.int 2)) (dVar 5)) dNil))))))))) [some dWell, some (.list (f.map encF)), some (.list (m.map encS)), some (.int i), some (.list (g.map encF)), some (.int k), some (.int a), some (.int b), some (.int c), none, none, none, none] (fun _ => P .none) P := by
      intro u v hu hv
      walk_at "en"
      iterate 5 walk_at "mm"
      have x1 : Bi 450 (0 - a) := by walk_at "bx"
      have x2 : Bi 450 (0 - b) := by walk_at "bx"
      have x3 : Bi 600 (a * a + b * b - 4 * k * c) := by walk_at "bx"
      have x4 : Bi 450 (2 * k) := by walk_at "bx"
      exact ⟨le1000 rfl, h _ ⟨⟨_, u, _, v, _, _⟩, ⟨by show 0 < 2 * k; omega, kz, x1, x2, hu, hv, x3, x4⟩, rfl⟩⟩
    have b0 : Bi 200 0 := Bi.lit (by decide)
    have b1 : Bi 200 1 := Bi.lit (by decide)
    have bm : Bi 200 (-1) := Bi.lit (by decide)
    refine allc (rest 1 0 b1 b0) ?_
    refine allc (rest (-1) 0 bm b0) ?_
    refine allc (rest 0 1 b0 b1) ?_
    exact allc (rest 0 (-1) b0 bm) alln
  refine cho_2 (c := decide (i < 2)) (fun _ => ?_) (fun _ => ?_)
  rotate_left
  · refine cho_f rfl ?_
    dsimp only [dNext]
    exact s2
  refine ⟨le1000 rfl, ⟨shL (map_lay encS lay_encS m), shN⟩, ?_⟩
  refine cho_2 (c := !PyData.eqv (.list (m.map encS)) (.list [])) (fun e => ?_) (fun _ => ?_)
  rotate_left
  · dsimp only [dNext]
    exact s2
  rw [eqv_nil] at e
  have ne : m.map encS ≠ [] := fun z => by
    rw [decide_eq_true z] at e
    exact absurd e (by decide)
  refine ⟨⟨true, m.map encS⟩, rfl, ne, ?_⟩
  intro d hd
  obtain ⟨s, hs, rfl⟩ := List.mem_map.mp hd
  exact h _ ⟨s, hm s hs, rfl⟩
end GD
end

section
set_option Elab.async false
set_option linter.all false
set_option maxRecDepth 100000
set_option exponentiation.threshold 2000
set_option maxHeartbeats 4000000
/-! MB: data that may be shown; plain laws of leads. -/
namespace GD
open PySem PySem.Spec PyProof.Rows L2 GQ
local macro_rules | `(tactic| walk_at "bi") => `(tactic| with_reducible first | assumption | exact zero_b | exact one_b | exact two_b | (apply GQ.B.neg; walk_at "bi") | (apply ite_b; walk_at "bi") | (apply GQ.B.add; walk_at "bi"; walk_at "bi") | (apply GQ.B.sub; walk_at "bi"; walk_at "bi") | (apply GQ.B.mul; walk_at "bi"; walk_at "bi") | (apply GQ.B.div; walk_at "bi"; walk_at "bi"; assumption))
local macro_rules | `(tactic| walk_at "bm") => `(tactic| (apply GQ.B.mono; walk_at "bi"; decide; decide))
local macro_rules | `(tactic| walk_at "ok") => `(tactic| (apply Ok2.of; walk_at "bi"; walk_at "bi"; decide; decide; decide))
local macro_rules | `(tactic| walk_at "bb") => `(tactic| with_reducible first | assumption | exact bl0 | exact bl1 | exact bl2 | exact bl4 | (apply GQ.Bi.neg; walk_at "bb") | (apply GQ.Bi.add; walk_at "bb"; walk_at "bb") | (apply GQ.Bi.sub; walk_at "bb"; walk_at "bb") | (apply GQ.Bi.mul; walk_at "bb"; walk_at "bb"))
local macro_rules | `(tactic| walk_at "sm") => `(tactic| (apply GQ.Bi.sm; walk_at "bb"; decide))
local macro_rules | `(tactic| walk_at "en") => `(tactic| try dsimp only [startD, List.cons_append, List.nil_append, dNil, List.map, List.replicate, List.length, List.set, gdCons, gdName, gdNil, cutD, List.drop, List.take, Option.getD, Nat.reduceAdd, Nat.reduceSub])
local macro_rules | `(tactic| walk_at "mm") => `(tactic| (refine ⟨⟨?_, ?_⟩, ?_⟩; (walk_at "sm"); (walk_at "sm")))
local macro_rules | `(tactic| walk_at "bx") => `(tactic| (apply GQ.Bi.mono; walk_at "bb"; decide))
local macro_rules | `(tactic| walk_at "okl") => `(tactic| (apply OkL.of; walk_at "bi"; walk_at "bi"; decide; decide; decide))

/-! ### shown data -/
structure Shn (k w : Nat) (d : PyData) : Prop where
  sh : PyData.showable d = true
  hd : PyData.hasDict d = false
  nw : noWell d = true
  lv : PyData.leavesShort 600 d = true
  bk : d.bulk ≤ w
  dp : d.depth ≤ k
structure ShnA (k w : Nat) (d : List PyData) : Prop where
  sh : PyData.showableAll d = true
  hd : PyData.hasDictAll d = false
  nw : noWells d = true
  lv : PyData.leavesShortAll 600 d = true
  bk : PyData.bulkAll d ≤ w
  dp : PyData.depthAll d ≤ k
theorem shn_int {i : Int} (h : Bi 1900 i) : Shn 0 0 (.int i) := by
  have h1 : i.natAbs < 10 ^ 599 := Nat.lt_trans h (by decide +kernel)
  have h2 : (PyData.shown (.int i)).length ≤ 600 := by
    show (Str.ofString (toString i)).length ≤ 600
    rw [PySem.ofString_length]
    exact int_text_length_le10 (by decide) h1
  have h3 : i.natAbs.log2 < 1920 := by
    by_cases z : i.natAbs = 0
    · rw [z]
      decide
    · exact (Nat.log2_lt z).mpr (Nat.lt_of_lt_of_le h (pow_le (by decide)))
  refine ⟨?_, rfl, rfl, ?_, Nat.le_refl _, Nat.le_refl _⟩
  · unfold PyData.showable
    exact decide_eq_true h3
  · unfold PyData.leavesShort
    exact decide_eq_true h2
theorem shn_bool (b : Bool) : Shn 0 0 (.bool b) := ⟨rfl, rfl, rfl, rfl, Nat.le_refl _, Nat.le_refl _⟩
theorem shn_line : Shn 0 10 (.str "line") := ⟨rfl, rfl, rfl, by decide +kernel, by decide +kernel, Nat.le_refl _⟩
theorem shn_circ : Shn 0 10 (.str "circle") := ⟨rfl, rfl, rfl, by decide +kernel, by decide +kernel, Nat.le_refl _⟩
theorem shn_nil : ShnA 0 0 [] := ⟨rfl, rfl, rfl, rfl, Nat.le_refl _, Nat.le_refl _⟩
theorem shn_cons {k w k' w' : Nat} {x : PyData} {xs : List PyData} (h : Shn k w x) (t : ShnA k' w' xs) : ShnA (max k k') (w + 1 + w') (x :: xs) := by
  refine ⟨?_, ?_, ?_, ?_, ?_, ?_⟩
  · unfold PyData.showableAll
    rw [h.sh, t.sh]
    rfl
  · unfold PyData.hasDictAll
    rw [h.hd, t.hd]
    rfl
  · unfold noWells
    rw [h.nw, t.nw]
    rfl
  · unfold PyData.leavesShortAll
    rw [h.lv, t.lv]
    rfl
  · unfold PyData.bulkAll
    have := h.bk
    have := t.bk
    omega
  · unfold PyData.depthAll
    have := h.dp
    have := t.dp
    omega
theorem shn_tup {k w : Nat} {xs : List PyData} (t : ShnA k w xs) : Shn (k + 1) w (.tuple xs) := by
  refine ⟨?_, ?_, ?_, ?_, ?_, ?_⟩
  · unfold PyData.showable
    exact t.sh
  · unfold PyData.hasDict
    exact t.hd
  · unfold noWell
    exact t.nw
  · unfold PyData.leavesShort
    exact t.lv
  · unfold PyData.bulk
    exact t.bk
  · unfold PyData.depth
    have := t.dp
    omega
theorem Shn.mono {k w k' w' : Nat} {d : PyData} (h : Shn k w d) (h1 : k ≤ k') (h2 : w ≤ w') : Shn k' w' d := ⟨h.sh, h.hd, h.nw, h.lv, Nat.le_trans h.bk h2, Nat.le_trans h.dp h1⟩
theorem Shn.ok {k w : Nat} {d : PyData} (h : Shn k w d) (h1 : k ≤ 60) (h2 : w ≤ 20000) : ShowOk d := by
  refine ⟨h.sh, h.hd, Nat.le_trans h.dp h1, ?_, h.nw⟩
  have := PyData.shown_le_bulk 600 (by decide) d h.lv
  have h3 := h.bk
  have e : sizeLine = 16777216 := by decide
  rw [e]
  have h4 : (600 + 2) * d.bulk ≤ 602 * 20000 := Nat.mul_le_mul_left _ (Nat.le_trans h3 h2)
  omega
theorem shn_Q {n d : Nat} {q : Rat} (h : B n d q) (h1 : n ≤ 1900) (h2 : d ≤ 1900) : Shn 1 2 (encQ q) := shn_tup (shn_cons (shn_int (h.num.mono h1)) (shn_cons (shn_int (h.den.mono h2)) shn_nil))
theorem shn_P {n d : Nat} {p q : Rat} (h : B n d p) (k : B n d q) (h1 : n ≤ 1900) (h2 : d ≤ 1900) : Shn 2 6 (encP p q) := shn_tup (shn_cons (shn_Q h h1 h2) (shn_cons (shn_Q k h1 h2) shn_nil))
theorem shn_L {l : Lead} (h : LB l) : Shn 4 20 (encL l) := (shn_tup (shn_cons (shn_Q h.ha (by decide) (by decide)) (shn_cons (shn_Q h.hb (by decide) (by decide)) (shn_cons (shn_bool _) (shn_cons (shn_P h.hx h.hy (by decide) (by decide)) shn_nil))))).mono (by decide) (by decide)
theorem shn_C {c : Curve} (h : CB c) : Shn 4 40 (encC c) := by
  cases c with
  | line a b c => exact (shn_tup (shn_cons shn_line (shn_cons (shn_Q h.1.1 (by decide) (by decide)) (shn_cons (shn_Q h.1.2.1 (by decide) (by decide)) (shn_cons (shn_Q h.1.2.2 (by decide) (by decide)) shn_nil))))).mono (by decide) (by decide)
  | circ a b c => exact (shn_tup (shn_cons shn_circ (shn_cons (shn_Q h.1.1 (by decide) (by decide)) (shn_cons (shn_Q h.1.2.1 (by decide) (by decide)) (shn_cons (shn_Q h.1.2.2 (by decide) (by decide)) shn_nil))))).mono (by decide) (by decide)
def NW : Num → Prop
  | .q x => B 1900 1900 x
  | .r P Q S _ => Bi 1900 P ∧ Bi 1900 Q ∧ Bi 1900 S
theorem shn_N {n : Num} (h : NW n) : Shn 2 10 (encN n) := by
  cases n with
  | q x => exact (shn_Q h (by decide) (by decide)).mono (by decide) (by decide)
  | r P Q S u => exact (shn_tup (shn_cons (shn_int h.1) (shn_cons (shn_int h.2.1) (shn_cons (shn_int h.2.2) (shn_cons (shn_bool u) shn_nil))))).mono (by decide) (by decide)
theorem shn_2N {n m : Num} (h : NW n) (k : NW m) : Shn 4 30 (.tuple [encN n, encN m]) := (shn_tup (shn_cons (shn_N h) (shn_cons (shn_N k) shn_nil))).mono (by decide) (by decide)
/-! ### how long a told number is -/
theorem sq_bi {r : Int} {k : Nat} (h0 : 0 ≤ r) (h : Bi (k + k) r) : Bi k (sq r) := by
  unfold sq Bi at *
  rw [Int.natAbs_natCast]
  apply Nat.lt_of_not_le
  intro z
  have h1 := Nat.mul_le_mul z z
  have h2 := Nat.sqrt_le r.toNat
  rw [← Nat.pow_add] at h1
  omega
theorem num_bd {X U R D : Int} {x u r d : Nat} (hd : 0 < D) (h0 : 0 ≤ R) (bx : Bi x X) (bu : Bi u U) (br : Bi (r + r) R) (bd : Bi d D) {n : Num} (h : NumIs ((X : Rat) / (D : Rat)) ((U : Rat) / (D : Rat)) R n) :
    (∀ q, n = .q q → B (max x (u + r) + 1) d q) ∧ ∀ P Q S w, n = .r P Q S w → (0 < P ∧ Bi (d + d) P) ∧ Bi (d + x + 1) Q ∧ Bi (max (x + x) (u + u + (r + r)) + 1) S := by
  have hne := rat_ne hd
  by_cases hz : U = 0 ∨ sq R * sq R = R
  · have k := number_q (a := X) (b := U) (r := R) hd hz
    have e := NumIs.uniq h k
    subst e
    refine ⟨fun q e => ?_, fun P Q S w e => by cases e⟩
    cases e
    exact B.fr (bx.add (bu.mul (sq_bi h0 br))) bd (Int.ne_of_gt hd)
  · have hU : U ≠ 0 := fun z => hz (.inl z)
    have hR : ¬ sq R * sq R = R := fun z => hz (.inr z)
    have k := number_r (a := X) (b := U) (r := R) hd hU hR rfl
    have e := NumIs.uniq h k
    subst e
    refine ⟨fun q e => (by cases e), fun P Q S w e => ?_⟩
    cases e
    have dd : 0 < D * D := Int.mul_pos hd hd
    obtain ⟨d0, d1, d2⟩ := gcd3_dvd (D * D).natAbs (0 - 2 * D * X).natAbs (X * X - U * U * R).natAbs
    have gp : 0 < Nat.gcd (Nat.gcd (D * D).natAbs (0 - 2 * D * X).natAbs) (X * X - U * U * R).natAbs := Nat.pos_of_dvd_of_pos d0 (by omega)
    have b1 : Bi 2 2 := bl2
    have bq : Bi (d + x + 1) (2 * D * X) := by
      rw [Int.mul_assoc]
      exact bi2 (bd.mul bx)
    have bq2 : Bi (d + x + 1) (0 - 2 * D * X) := by
      rw [Int.zero_sub]
      exact bq.neg
    have bs : Bi (max (x + x) (u + u + (r + r)) + 1) (X * X - U * U * R) := (bx.mul bx).sub ((bu.mul bu).mul br)
    refine ⟨⟨(prim_of dd rfl).1.1, ?_⟩, ?_, ?_⟩
    · unfold Bi
      rw [fdiv_abs d0 gp]
      exact Nat.lt_of_le_of_lt (Nat.div_le_self _ _) (bd.mul bd)
    · unfold Bi
      rw [fdiv_abs d1 gp]
      exact Nat.lt_of_le_of_lt (Nat.div_le_self _ _) bq2
    · unfold Bi
      rw [fdiv_abs d2 gp]
      exact Nat.lt_of_le_of_lt (Nat.div_le_self _ _) bs
theorem nb_of {X U R D : Int} (hd : 0 < D) (h0 : 0 ≤ R) (bx : Bi 500 X) (bu : Bi 230 U) (br : Bi 600 R) (bd : Bi 480 D) {n : Num} (h : NumIs ((X : Rat) / (D : Rat)) ((U : Rat) / (D : Rat)) R n) : NB n := by
  obtain ⟨k1, k2⟩ := num_bd (r := 300) hd h0 bx bu br bd h
  cases n with
  | q q => exact (k1 q rfl).mono (by decide) (by decide)
  | r P Q S w =>
    obtain ⟨⟨a, b⟩, c, e⟩ := k2 P Q S w rfl
    exact ⟨⟨a, b.mono (by decide)⟩, c.mono (by decide), e.mono (by decide)⟩
theorem nw_of {X U R D : Int} (hd : 0 < D) (h0 : 0 ≤ R) (bx : Bi 900 X) (bu : Bi 400 U) (br : Bi 600 R) (bd : Bi 900 D) {n : Num} (h : NumIs ((X : Rat) / (D : Rat)) ((U : Rat) / (D : Rat)) R n) : NW n := by
  obtain ⟨k1, k2⟩ := num_bd (r := 300) hd h0 bx bu br bd h
  cases n with
  | q q => exact (k1 q rfl).mono (by decide) (by decide)
  | r P Q S w =>
    obtain ⟨⟨a, b⟩, c, e⟩ := k2 P Q S w rfl
    exact ⟨b.mono (by decide), c.mono (by decide), e.mono (by decide)⟩
theorem told_of {s : Spot} {n m : Num} (h : SB s) (h1 : NumIs s.x s.u s.R n) (h2 : NumIs s.y s.v s.R m) : Told s n m := ⟨h, h1, h2, nb_of h.d0 h.r0 h.hX h.hU h.hR h.hD h1, nb_of h.d0 h.r0 h.hY h.hV h.hR h.hD h2⟩
theorem shn_told {s : Spot} {n m : Num} (h : SB2 s) (h1 : NumIs s.x s.u s.R n) (h2 : NumIs s.y s.v s.R m) : Shn 4 30 (.tuple [encN n, encN m]) := shn_2N (nw_of h.d0 h.r0 h.hX h.hU h.hR h.hD h1) (nw_of h.d0 h.r0 h.hY h.hV h.hR h.hD h2)
theorem SB0.to {s : Spot} (h : SB0 s) : SB s := ⟨h.d0, h.r0, h.hX.mono (by decide), h.hY.mono (by decide), h.hU.mono (by decide), h.hV.mono (by decide), h.hR, h.hD.mono (by decide)⟩
theorem SB.to2 {s : Spot} (h : SB s) : SB2 s := ⟨h.d0, h.r0, h.hX.mono (by decide), h.hY.mono (by decide), h.hU.mono (by decide), h.hV.mono (by decide), h.hR, h.hD.mono (by decide)⟩
end GD
end

section
set_option Elab.async false
set_option linter.all false
set_option maxRecDepth 100000
set_option exponentiation.threshold 2000
set_option maxHeartbeats 4000000
/-! MC: plain laws: places led, signs kept, leads behind and back. -/
namespace GD
open PySem PySem.Spec PyProof.Rows L2 GQ
local macro_rules | `(tactic| walk_at "bi") => `(tactic| with_reducible first | assumption | exact zero_b | exact one_b | exact two_b | (apply GQ.B.neg; walk_at "bi") | (apply ite_b; walk_at "bi") | (apply GQ.B.add; walk_at "bi"; walk_at "bi") | (apply GQ.B.sub; walk_at "bi"; walk_at "bi") | (apply GQ.B.mul; walk_at "bi"; walk_at "bi") | (apply GQ.B.div; walk_at "bi"; walk_at "bi"; assumption))
local macro_rules | `(tactic| walk_at "bm") => `(tactic| (apply GQ.B.mono; walk_at "bi"; decide; decide))
local macro_rules | `(tactic| walk_at "ok") => `(tactic| (apply Ok2.of; walk_at "bi"; walk_at "bi"; decide; decide; decide))
local macro_rules | `(tactic| walk_at "bb") => `(tactic| with_reducible first | assumption | exact bl0 | exact bl1 | exact bl2 | exact bl4 | (apply GQ.Bi.neg; walk_at "bb") | (apply GQ.Bi.add; walk_at "bb"; walk_at "bb") | (apply GQ.Bi.sub; walk_at "bb"; walk_at "bb") | (apply GQ.Bi.mul; walk_at "bb"; walk_at "bb"))
local macro_rules | `(tactic| walk_at "sm") => `(tactic| (apply GQ.Bi.sm; walk_at "bb"; decide))
local macro_rules | `(tactic| walk_at "en") => `(tactic| try dsimp only [startD, List.cons_append, List.nil_append, dNil, List.map, List.replicate, List.length, List.set, gdCons, gdName, gdNil, cutD, List.drop, List.take, Option.getD, Nat.reduceAdd, Nat.reduceSub])
local macro_rules | `(tactic| walk_at "mm") => `(tactic| (refine ⟨⟨?_, ?_⟩, ?_⟩; (walk_at "sm"); (walk_at "sm")))
local macro_rules | `(tactic| walk_at "bx") => `(tactic| (apply GQ.Bi.mono; walk_at "bb"; decide))
local macro_rules | `(tactic| walk_at "okl") => `(tactic| (apply OkL.of; walk_at "bi"; walk_at "bi"; decide; decide; decide))

theorem LB0.to {l : Lead} (h : LB0 l) : LB l := ⟨h.ha.mono (by decide) (by decide), h.hb.mono (by decide) (by decide), h.hx.mono (by decide) (by decide), h.hy.mono (by decide) (by decide), h.nz⟩
theorem frac (q : Rat) : q = (q.num : Rat) / ((q.den : Int) : Rat) := by
  have := fr_eq q.num q.den
  rw [Rat.num_divInt_den] at this
  exact this
theorem denR (q : Rat) : ((q.den : Int) : Rat) ≠ 0 := rat_ne (den_pos' q)
theorem mn {a b : Rat} (h : a ≠ 0) (k : b ≠ 0) : a * b ≠ 0 := fun z => (Rat.mul_eq_zero.mp z).elim h k
theorem lx1 {an ad bn bd xn xd yd X Y D : Rat} (h1 : ad ≠ 0) (h2 : bd ≠ 0) (h3 : xd ≠ 0) (h4 : yd ≠ 0) (h5 : D ≠ 0) : (an * bd * (xd * yd) * X - bn * ad * (xd * yd) * Y + xn * yd * (ad * bd) * D) / (ad * bd * (xd * yd) * D) = an / ad * (X / D) - bn / bd * (Y / D) + xn / xd := by
  have hn := mn (mn (mn h1 h2) (mn h3 h4)) h5
  grind
theorem lu1 {an ad bn bd xd yd X Y D : Rat} (h1 : ad ≠ 0) (h2 : bd ≠ 0) (h3 : xd ≠ 0) (h4 : yd ≠ 0) (h5 : D ≠ 0) : (an * bd * (xd * yd) * X - bn * ad * (xd * yd) * Y) / (ad * bd * (xd * yd) * D) = an / ad * (X / D) - bn / bd * (Y / D) := by
  have hn := mn (mn (mn h1 h2) (mn h3 h4)) h5
  grind
theorem ly1 {an ad bn bd xd yn yd X Y D : Rat} (h1 : ad ≠ 0) (h2 : bd ≠ 0) (h3 : xd ≠ 0) (h4 : yd ≠ 0) (h5 : D ≠ 0) : (bn * ad * (xd * yd) * X + an * bd * (xd * yd) * Y + yn * xd * (ad * bd) * D) / (ad * bd * (xd * yd) * D) = an / ad * (Y / D) + bn / bd * (X / D) + yn / yd := by
  have hn := mn (mn (mn h1 h2) (mn h3 h4)) h5
  grind
theorem lv1 {an ad bn bd xd yd X Y D : Rat} (h1 : ad ≠ 0) (h2 : bd ≠ 0) (h3 : xd ≠ 0) (h4 : yd ≠ 0) (h5 : D ≠ 0) : (bn * ad * (xd * yd) * X + an * bd * (xd * yd) * Y) / (ad * bd * (xd * yd) * D) = an / ad * (Y / D) + bn / bd * (X / D) := by
  have hn := mn (mn (mn h1 h2) (mn h3 h4)) h5
  grind
theorem flipC {m : Bool} {Y D : Int} : ((if m then 0 - Y else Y : Int) : Rat) / (D : Rat) = if m then -((Y : Rat) / (D : Rat)) else (Y : Rat) / (D : Rat) := by
  cases m
  · rfl
  · show ((0 - Y : Int) : Rat) / (D : Rat) = -((Y : Rat) / (D : Rat))
    rw [Int.zero_sub, Rat.intCast_neg]
    grind
theorem ledS_val (l : Lead) (s : Spot) (hD : 0 < s.D) : ((ledS l s).x = l.cx s.x s.y + l.x ∧ (ledS l s).u = l.cx s.u s.v) ∧ (ledS l s).y = l.cy s.x s.y + l.y ∧ (ledS l s).v = l.cy s.u s.v := by
  have hd := rat_ne hD
  have h1 := denR l.a
  have h2 := denR l.b
  have h3 := denR l.x
  have h4 := denR l.y
  have ea := frac l.a
  have eb := frac l.b
  have ex := frac l.x
  have ey := frac l.y
  unfold Spot.x Spot.y Spot.u Spot.v Lead.cx Lead.cy ledS
  simp only [Rat.intCast_add, Rat.intCast_sub, Rat.intCast_mul]
  simp only [← flipC]
  rw [lx1 h1 h2 h3 h4 hd, lu1 h1 h2 h3 h4 hd, ly1 h1 h2 h3 h4 hd, lv1 h1 h2 h3 h4 hd, ← ea, ← eb, ← ex, ← ey]
  exact ⟨⟨rfl, rfl⟩, rfl, rfl⟩
theorem flip_bi {m : Bool} {Y : Int} {n : Nat} (h : Bi n Y) : Bi n (if m then 0 - Y else Y) := by
  cases m
  · exact h
  · show Bi n (0 - Y)
    rw [Int.zero_sub]
    exact h.neg
theorem ledS_pos {l : Lead} {s : Spot} (hD : 0 < s.D) : 0 < (ledS l s).D := Int.mul_pos (Int.mul_pos (Int.mul_pos (den_pos' _) (den_pos' _)) (Int.mul_pos (den_pos' _) (den_pos' _))) hD
structure LedB (l : Lead) (s : Spot) (x u d x' u' d' : Nat) : Prop where
  hx : Bi x s.X
  hy : Bi x s.Y
  hu : Bi u s.U
  hv : Bi u s.V
  hd : Bi d s.D
  l : LB0 l
  kx : max (max (12 + x) (12 + x) + 1) (27 + d) + 1 ≤ x'
  ku : max (12 + u) (12 + u) + 1 ≤ u'
  kd : 12 + d ≤ d'
theorem LedB.go {l : Lead} {s : Spot} {x u d x' u' d' : Nat} (h : LedB l s x u d x' u' d') : ((Bi x' (ledS l s).X ∧ Bi x' (ledS l s).Y) ∧ Bi u' (ledS l s).U ∧ Bi u' (ledS l s).V) ∧ Bi d' (ledS l s).D := by
  obtain ⟨hx, hy, hu, hv, hd, hl, kx, ku, kd⟩ := h
  have a1 := hl.ha.num
  have a2 := hl.ha.den
  have b1 := hl.hb.num
  have b2 := hl.hb.den
  have x1 := hl.hx.num
  have x2 := hl.hx.den
  have y1 := hl.hy.num
  have y2 := hl.hy.den
  have fy := flip_bi (m := l.m) hy
  have fv := flip_bi (m := l.m) hv
  have A : Bi 12 (l.a.num * (l.b.den : Int) * ((l.x.den : Int) * l.y.den)) := (a1.mul b2).mul (x2.mul y2)
  have Bb : Bi 12 (l.b.num * (l.a.den : Int) * ((l.x.den : Int) * l.y.den)) := (b1.mul a2).mul (x2.mul y2)
  have F : Bi (27 + d) (l.x.num * (l.y.den : Int) * ((l.a.den : Int) * l.b.den) * s.D) := ((x1.mul y2).mul (a2.mul b2)).mul hd
  have G : Bi (27 + d) (l.y.num * (l.x.den : Int) * ((l.a.den : Int) * l.b.den) * s.D) := ((y1.mul x2).mul (a2.mul b2)).mul hd
  have D : Bi (12 + d) ((l.a.den : Int) * l.b.den * ((l.x.den : Int) * l.y.den) * s.D) := ((a2.mul b2).mul (x2.mul y2)).mul hd
  exact ⟨⟨⟨(((A.mul hx).sub (Bb.mul fy)).add F).mono kx, (((Bb.mul hx).add (A.mul fy)).add G).mono kx⟩, ((A.mul hu).sub (Bb.mul fv)).mono ku, ((Bb.mul hu).add (A.mul fv)).mono ku⟩, D.mono kd⟩
theorem led_sb {l : Lead} {s : Spot} (hl : LB0 l) (h : SB0 s) : SB (ledS l s) := by
  obtain ⟨⟨⟨a, b⟩, c, d⟩, e⟩ := LedB.go (x' := 500) (u' := 230) (d' := 480) ⟨h.hX, h.hY, h.hU, h.hV, h.hD, hl, by decide, by decide, by decide⟩
  exact ⟨ledS_pos h.d0, h.r0, a, b, c, d, h.hR, e⟩
theorem led_sb2 {l : Lead} {s : Spot} (hl : LB0 l) (h : SB s) : SB2 (ledS l s) := by
  obtain ⟨⟨⟨a, b⟩, c, d⟩, e⟩ := LedB.go (x' := 900) (u' := 400) (d' := 900) ⟨h.hX, h.hY, h.hU, h.hV, h.hD, hl, by decide, by decide, by decide⟩
  exact ⟨ledS_pos h.d0, h.r0, a, b, c, d, h.hR, e⟩
/-- two told places of one -/
theorem led_uniq {l : Lead} {s t : Spot} {n m : Num} {d : PyData} (h : LedIs l s d) (hR : t.R = s.R) (e : ((t.x = l.cx s.x s.y + l.x ∧ t.u = l.cx s.u s.v) ∧ t.y = l.cy s.x s.y + l.y ∧ t.v = l.cy s.u s.v)) (h1 : NumIs t.x t.u t.R n) (h2 : NumIs t.y t.v t.R m) : d = .tuple [encN n, encN m] := by
  obtain ⟨n', m', k1, k2, rfl⟩ := h
  obtain ⟨⟨e1, e2⟩, e3, e4⟩ := e
  rw [← e1, ← e2, ← hR] at k1
  rw [← e3, ← e4, ← hR] at k2
  rw [NumIs.uniq k1 h1, NumIs.uniq k2 h2]
/-! ### signs -/
def mu : Curve → Int
  | .line a b c => a.den * b.den * c.den
  | .circ x y q => x.den * x.den * (y.den * y.den) * q.den
theorem mu_pos (c : Curve) : 0 < mu c := by
  cases c with
  | line a b c => exact Int.mul_pos (Int.mul_pos (den_pos' _) (den_pos' _)) (den_pos' _)
  | circ x y q => exact Int.mul_pos (Int.mul_pos (Int.mul_pos (den_pos' _) (den_pos' _)) (Int.mul_pos (den_pos' _) (den_pos' _))) (den_pos' _)
theorem vl1 {an ad bn bd cn cd X Y D : Rat} (h1 : ad ≠ 0) (h2 : bd ≠ 0) (h3 : cd ≠ 0) (h5 : D ≠ 0) : D * (an * bd * cd * X + bn * ad * cd * Y) + D * D * (0 - cn * (ad * bd)) = ad * bd * cd * (D * D) * (an / ad * (X / D) + bn / bd * (Y / D) - cn / cd) := by grind
theorem vl2 {an ad bn bd cd X Y D : Rat} (h1 : ad ≠ 0) (h2 : bd ≠ 0) (h3 : cd ≠ 0) (h5 : D ≠ 0) : D * (an * bd * cd * X + bn * ad * cd * Y) = ad * bd * cd * (D * D) * (an / ad * (X / D) + bn / bd * (Y / D)) := by grind
theorem vc1 {p q r pd qd rd x y u v X Y U V D R : Rat} (hx : X = x * D) (hy : Y = y * D) (hu : U = u * D) (hv : V = v * D) :
    pd * pd * (qd * qd) * rd * (X * X + Y * Y + R * (U * U + V * V)) + D * ((0 - 2 * (p * pd) * pd * (qd * qd) * rd) * X + (0 - 2 * (q * qd) * qd * (pd * pd) * rd) * Y) + D * D * ((p * pd * (p * pd) * (qd * qd) + q * qd * (q * qd) * (pd * pd)) * rd - r * rd * (pd * pd) * (qd * qd)) =
    pd * pd * (qd * qd) * rd * (D * D) * ((x - p) * (x - p) + (y - q) * (y - q) + (u * u + v * v) * R - r) := by
  subst hx hy hu hv
  grind
theorem vc2 {p q pd qd rd x y u v X Y U V D : Rat} (hx : X = x * D) (hy : Y = y * D) (hu : U = u * D) (hv : V = v * D) :
    2 * (pd * pd * (qd * qd) * rd) * (X * U + Y * V) + D * ((0 - 2 * (p * pd) * pd * (qd * qd) * rd) * U + (0 - 2 * (q * qd) * qd * (pd * pd) * rd) * V) = pd * pd * (qd * qd) * rd * (D * D) * (2 * ((x - p) * u + (y - q) * v)) := by
  subst hx hy hu hv
  grind
theorem numR (q : Rat) : (q.num : Rat) = q * ((q.den : Int) : Rat) := by
  have h := frac q
  have k := denR q
  generalize (q.num : Rat) = n at *
  generalize ((q.den : Int) : Rat) = d at *
  grind
theorem spotD {X D : Int} (h : 0 < D) : (X : Rat) = (X : Rat) / (D : Rat) * (D : Rat) := by
  have := rat_ne h
  grind
theorem c0 : ((0 : Int) : Rat) = 0 := rfl
theorem c2 : ((2 : Int) : Rat) = 2 := rfl
theorem flat_val (c : Curve) (s : Spot) (hD : 0 < s.D) : ((at1 (flatOf c) s : Int) : Rat) = ((mu c * (s.D * s.D) : Int) : Rat) * val1 c s.x s.u s.y s.v s.R ∧ ((at2 (flatOf c) s : Int) : Rat) = ((mu c * (s.D * s.D) : Int) : Rat) * val2 c s.x s.u s.y s.v := by
  have hd := rat_ne hD
  cases c with
  | line a b c =>
    have h1 := denR a
    have h2 := denR b
    have h3 := denR c
    have ea := frac a
    have eb := frac b
    have ec := frac c
    unfold at1 at2 flatOf mu val1 val2 Spot.x Spot.y Spot.u Spot.v
    simp only [Rat.intCast_add, Rat.intCast_sub, Rat.intCast_mul, c0, c2, Rat.zero_mul, Rat.mul_zero, Rat.zero_add]
    constructor
    · have := vl1 (an := a.num) (bn := b.num) (cn := c.num) (X := s.X) (Y := s.Y) h1 h2 h3 hd
      rw [← ea, ← eb, ← ec] at this
      exact this
    · have := vl2 (an := a.num) (bn := b.num) (X := s.U) (Y := s.V) h1 h2 h3 hd
      rw [← ea, ← eb] at this
      exact this
  | circ x y q =>
    have e1 := numR x
    have e2 := numR y
    have e3 := numR q
    have f1 := spotD (X := s.X) hD
    have f2 := spotD (X := s.Y) hD
    have f3 := spotD (X := s.U) hD
    have f4 := spotD (X := s.V) hD
    unfold at1 at2 flatOf mu val1 val2 Spot.x Spot.y Spot.u Spot.v
    simp only [Rat.intCast_add, Rat.intCast_sub, Rat.intCast_mul, c0, c2]
    constructor
    · rw [e1, e2, e3]
      exact vc1 f1 f2 f3 f4
    · rw [e1, e2]
      exact vc2 f1 f2 f3 f4
end GD
end

section
set_option Elab.async false
set_option linter.all false
set_option maxRecDepth 100000
set_option exponentiation.threshold 2000
set_option maxHeartbeats 4000000
/-! MD: plain laws: signs kept, leads behind, back, turned, mirrored. -/
namespace GD
open PySem PySem.Spec PyProof.Rows L2 GQ
local macro_rules | `(tactic| walk_at "bi") => `(tactic| with_reducible first | assumption | exact zero_b | exact one_b | exact two_b | (apply GQ.B.neg; walk_at "bi") | (apply ite_b; walk_at "bi") | (apply GQ.B.add; walk_at "bi"; walk_at "bi") | (apply GQ.B.sub; walk_at "bi"; walk_at "bi") | (apply GQ.B.mul; walk_at "bi"; walk_at "bi") | (apply GQ.B.div; walk_at "bi"; walk_at "bi"; assumption))
local macro_rules | `(tactic| walk_at "bm") => `(tactic| (apply GQ.B.mono; walk_at "bi"; decide; decide))
local macro_rules | `(tactic| walk_at "ok") => `(tactic| (apply Ok2.of; walk_at "bi"; walk_at "bi"; decide; decide; decide))
local macro_rules | `(tactic| walk_at "bb") => `(tactic| with_reducible first | assumption | exact bl0 | exact bl1 | exact bl2 | exact bl4 | (apply GQ.Bi.neg; walk_at "bb") | (apply GQ.Bi.add; walk_at "bb"; walk_at "bb") | (apply GQ.Bi.sub; walk_at "bb"; walk_at "bb") | (apply GQ.Bi.mul; walk_at "bb"; walk_at "bb"))
local macro_rules | `(tactic| walk_at "sm") => `(tactic| (apply GQ.Bi.sm; walk_at "bb"; decide))
local macro_rules | `(tactic| walk_at "en") => `(tactic| try dsimp only [startD, List.cons_append, List.nil_append, dNil, List.map, List.replicate, List.length, List.set, gdCons, gdName, gdNil, cutD, List.drop, List.take, Option.getD, Nat.reduceAdd, Nat.reduceSub])
local macro_rules | `(tactic| walk_at "mm") => `(tactic| (refine ⟨⟨?_, ?_⟩, ?_⟩; (walk_at "sm"); (walk_at "sm")))
local macro_rules | `(tactic| walk_at "bx") => `(tactic| (apply GQ.Bi.mono; walk_at "bb"; decide))
local macro_rules | `(tactic| walk_at "okl") => `(tactic| (apply OkL.of; walk_at "bi"; walk_at "bi"; decide; decide; decide))

theorem led_val (l : Lead) (c : Curve) (x u y v : Rat) (R : Int) : val1 (ledC l c) (l.cx x y + l.x) (l.cx u v) (l.cy x y + l.y) (l.cy u v) R = l.n * val1 c x u y v R ∧ val2 (ledC l c) (l.cx x y + l.x) (l.cx u v) (l.cy x y + l.y) (l.cy u v) = l.n * val2 c x u y v := by
  obtain ⟨a, b, m, lx, ly⟩ := l
  cases c with
  | line p q r =>
    unfold val1 val2 ledC Lead.cx Lead.cy Lead.n
    cases m
    · simp only [Bool.false_eq_true, if_false]
      constructor <;> grind
    · simp only [if_true]
      constructor <;> grind
  | circ p q r =>
    unfold val1 val2 ledC Lead.cx Lead.cy Lead.n
    cases m
    · simp only [Bool.false_eq_true, if_false]
      constructor <;> grind
    · simp only [if_true]
      constructor <;> grind
theorem sign_law (l : Lead) (c : Curve) (s : Spot) (hn : 0 < l.n) (hD : 0 < s.D) : sgQ (val1 (ledC l c) (ledS l s).x (ledS l s).u (ledS l s).y (ledS l s).v (ledS l s).R) (val2 (ledC l c) (ledS l s).x (ledS l s).u (ledS l s).y (ledS l s).v) (ledS l s).R = sgQ (at1 (flatOf c) s : Int) (at2 (flatOf c) s : Int) s.R := by
  obtain ⟨⟨e1, e2⟩, e3, e4⟩ := ledS_val l s hD
  obtain ⟨k1, k2⟩ := led_val l c s.x s.u s.y s.v s.R
  obtain ⟨f1, f2⟩ := flat_val c s hD
  have hR : (ledS l s).R = s.R := rfl
  rw [e1, e2, e3, e4, hR, k1, k2, f1, f2, sgQ_scale hn, sgQ_scale (rat_pos (Int.mul_pos (mu_pos c) (Int.mul_pos hD hD)))]
theorem flat_bd {c : Curve} (h : CB c) : ((Bi 144 (flatOf c).k ∧ Bi 190 (flatOf c).a) ∧ Bi 190 (flatOf c).b ∧ Bi 220 (flatOf c).c) ∧ Bi 144 (mu c) := by
  cases c with
  | line a b c =>
    obtain ⟨⟨ha, hb, hc⟩, nz⟩ := h
    have a1 := ha.num
    have a2 := ha.den
    have b1 := hb.num
    have b2 := hb.den
    have c1 := hc.num
    have c2 := hc.den
    refine ⟨⟨⟨?_, ?_⟩, ?_, ?_⟩, ?_⟩
    · show Bi 144 0
      walk_at "bx"
    · show Bi 190 (a.num * b.den * c.den)
      walk_at "bx"
    · show Bi 190 (b.num * a.den * c.den)
      walk_at "bx"
    · show Bi 220 (0 - c.num * (a.den * b.den))
      walk_at "bx"
    · show Bi 144 ((a.den : Int) * b.den * c.den)
      walk_at "bx"
  | circ x y q =>
    obtain ⟨⟨ha, hb, hc⟩, nz⟩ := h
    have a1 := ha.num
    have a2 := ha.den
    have b1 := hb.num
    have b2 := hb.den
    have c1 := hc.num
    have c2 := hc.den
    refine ⟨⟨⟨?_, ?_⟩, ?_, ?_⟩, ?_⟩
    · show Bi 144 ((x.den : Int) * x.den * (y.den * y.den) * q.den)
      walk_at "bx"
    · show Bi 190 (0 - 2 * x.num * x.den * (y.den * y.den) * q.den)
      walk_at "bx"
    · show Bi 190 (0 - 2 * y.num * y.den * (x.den * x.den) * q.den)
      walk_at "bx"
    · show Bi 220 ((x.num * x.num * (y.den * y.den) + y.num * y.num * (x.den * x.den)) * q.den - q.num * (x.den * x.den) * (y.den * y.den))
      walk_at "bx"
    · show Bi 144 ((x.den : Int) * x.den * (y.den * y.den) * q.den)
      walk_at "bx"
theorem val_bd {c : Curve} {s : Spot} (hc : CB c) (hs : SB s) : B 2000 1300 (val1 c s.x s.u s.y s.v s.R) ∧ B 2000 1300 (val2 c s.x s.u s.y s.v) := by
  obtain ⟨f1, f2⟩ := flat_val c s hs.d0
  obtain ⟨⟨⟨hk, ha⟩, hb, hc'⟩, hm⟩ := flat_bd hc
  have hX := hs.hX
  have hY := hs.hY
  have hU := hs.hU
  have hV := hs.hV
  have hR := hs.hR
  have hD := hs.hD
  have mp : 0 < mu c * (s.D * s.D) := Int.mul_pos (mu_pos c) (Int.mul_pos hs.d0 hs.d0)
  have mz := rat_ne mp
  have bm : Bi 1300 (mu c * (s.D * s.D)) := by walk_at "bx"
  have b1 : Bi 2000 (at1 (flatOf c) s) := by
    unfold at1
    walk_at "bx"
  have b2 : Bi 2000 (at2 (flatOf c) s) := by
    unfold at2
    walk_at "bx"
  have e1 : val1 c s.x s.u s.y s.v s.R = Rat.divInt (at1 (flatOf c) s) (mu c * (s.D * s.D)) := by
    rw [fr_eq, f1]
    grind
  have e2 : val2 c s.x s.u s.y s.v = Rat.divInt (at2 (flatOf c) s) (mu c * (s.D * s.D)) := by
    rw [fr_eq, f2]
    grind
  rw [e1, e2]
  exact ⟨B.fr b1 bm (Int.ne_of_gt mp), B.fr b2 bm (Int.ne_of_gt mp)⟩
/-! ### behind, back -/
theorem behind_val (l k : Lead) (x y : Rat) : ((behindL l k).cx x y + (behindL l k).x = k.cx (l.cx x y + l.x) (l.cy x y + l.y) + k.x ∧ (behindL l k).cy x y + (behindL l k).y = k.cy (l.cx x y + l.x) (l.cy x y + l.y) + k.y) ∧ (behindL l k).cx x y = k.cx (l.cx x y) (l.cy x y) ∧ (behindL l k).cy x y = k.cy (l.cx x y) (l.cy x y) := by
  obtain ⟨a, b, m, lx, ly⟩ := l
  obtain ⟨c, d, m', kx, ky⟩ := k
  unfold behindL Lead.cx Lead.cy
  cases m <;> cases m' <;> simp only [Bool.false_eq_true, if_false, if_true, bne_self_eq_false, Bool.bne_false, Bool.true_bne, Bool.not_true, Bool.not_false, Bool.false_bne] <;> refine ⟨⟨?_, ?_⟩, ?_, ?_⟩ <;> grind
theorem back_val (l : Lead) (hn : 0 < l.n) (x y : Rat) : ((backL l).cx (l.cx x y + l.x) (l.cy x y + l.y) + (backL l).x = x ∧ (backL l).cy (l.cx x y + l.x) (l.cy x y + l.y) + (backL l).y = y) ∧ (backL l).cx (l.cx x y) (l.cy x y) = x ∧ (backL l).cy (l.cx x y) (l.cy x y) = y := by
  obtain ⟨a, b, m, lx, ly⟩ := l
  unfold backL Lead.cx Lead.cy Lead.n at *
  have hz : a * a + b * b ≠ 0 := Rat.ne_of_gt hn
  cases m <;> simp only [Bool.false_eq_true, if_false, if_true] <;> refine ⟨⟨?_, ?_⟩, ?_, ?_⟩ <;> grind
/-! ### bounds of leads made -/
theorem LB0.n {l : Lead} (h : LB0 l) : B 13 12 l.n := by
  have ha := h.ha
  have hb := h.hb
  unfold Lead.n
  walk_at "bm"
theorem LB0.cx {l : Lead} {n d n' d' : Nat} {x y : Rat} (h : LB0 l) (hx : B n d x) (hy : B n d y) (h1 : n + d + 7 ≤ n') (h2 : d + d + 6 ≤ d') : B n' d' (l.cx x y) := by
  have ha := h.ha
  have hb := h.hb
  unfold Lead.cx
  refine GQ.B.mono (B.sub (ha.mul hx) (hb.mul (ite_b hy))) ?_ ?_ <;> omega
theorem LB0.cy {l : Lead} {n d n' d' : Nat} {x y : Rat} (h : LB0 l) (hx : B n d x) (hy : B n d y) (h1 : n + d + 7 ≤ n') (h2 : d + d + 6 ≤ d') : B n' d' (l.cy x y) := by
  have ha := h.ha
  have hb := h.hb
  unfold Lead.cy
  refine GQ.B.mono (B.add (ha.mul (ite_b hy)) (hb.mul hx)) ?_ ?_ <;> omega
theorem zz00 : ¬ (0 : Rat) < 0 * 0 + 0 * 0 := by
  rw [Rat.zero_mul, Rat.zero_add]
  exact Rat.lt_irrefl
/-- a bow, a line of it scaled -/
def CBs : Curve → Prop
  | .line a b c => (B 13 3 a ∧ B 13 3 b ∧ B 42 3 c) ∧ (a ≠ 0 ∨ b ≠ 0)
  | .circ x y q => (B 25 8 x ∧ B 25 8 y ∧ B 60 27 q) ∧ 0 < q
theorem led_cb {l : Lead} {c : Curve} (hl : LB0 l) (h : CBs c) : CB (ledC l c) := by
  have hn := hl.n
  have kx := hl.hx
  have ky := hl.hy
  have np : 0 < l.n := norm_pos hl.nz
  cases c with
  | line a b c =>
    obtain ⟨⟨ha, hb, hc⟩, hz⟩ := h
    have h1 : B 23 12 (l.cx a b) := hl.cx ha hb (by decide) (by decide)
    have h2 : B 23 12 (l.cy a b) := hl.cy ha hb (by decide) (by decide)
    have h3 : B 92 46 (l.n * c + (l.cx a b * l.x + l.cy a b * l.y)) := by walk_at "bm"
    refine ⟨⟨h1.mono (by decide) (by decide), h2.mono (by decide) (by decide), h3⟩, ?_⟩
    have e : l.cx a b * l.cx a b + l.cy a b * l.cy a b = l.n * (a * a + b * b) := by
      unfold Lead.cx Lead.cy Lead.n
      cases l.m <;> simp only [Bool.false_eq_true, if_false, if_true] <;> grind
    have p := Rat.mul_pos np (norm_pos hz)
    rw [← e] at p
    by_cases z : l.cx a b = 0
    · refine .inr fun w => ?_
      rw [z, w] at p
      exact absurd p zz00
    · exact .inl z
  | circ x y q =>
    obtain ⟨⟨ha, hb, hc⟩, hz⟩ := h
    have h1 : B 40 22 (l.cx x y) := hl.cx ha hb (by decide) (by decide)
    have h2 : B 40 22 (l.cy x y) := hl.cy ha hb (by decide) (by decide)
    have h3 : B 60 26 (l.cx x y + l.x) := by walk_at "bm"
    have h4 : B 60 26 (l.cy x y + l.y) := by walk_at "bm"
    have h5 : B 74 40 (l.n * q) := by walk_at "bm"
    exact ⟨⟨h3, h4, h5⟩, Rat.mul_pos np hz⟩
theorem behind_lb {l k : Lead} (hl : LB0 l) (hk : LB0 k) : LB (behindL l k) := by
  have h1 : B 44 44 (k.cx l.a l.b) := hk.cx hl.ha hl.hb (by decide) (by decide)
  have h2 : B 44 44 (k.cy l.a l.b) := hk.cy hl.ha hl.hb (by decide) (by decide)
  have h3 : B 28 12 (k.cx l.x l.y) := hk.cx hl.hx hl.hy (by decide) (by decide)
  have h4 : B 28 12 (k.cy l.x l.y) := hk.cy hl.hx hl.hy (by decide) (by decide)
  have kx := hk.hx
  have ky := hk.hy
  have h5 : B 60 44 (k.cx l.x l.y + k.x) := by walk_at "bm"
  have h6 : B 60 44 (k.cy l.x l.y + k.y) := by walk_at "bm"
  refine ⟨h1, h2, h5, h6, ?_⟩
  have e : k.cx l.a l.b * k.cx l.a l.b + k.cy l.a l.b * k.cy l.a l.b = k.n * (l.a * l.a + l.b * l.b) := by
    unfold Lead.cx Lead.cy Lead.n
    cases k.m <;> simp only [Bool.false_eq_true, if_false, if_true] <;> grind
  have p : 0 < k.n * (l.a * l.a + l.b * l.b) := Rat.mul_pos (norm_pos hk.nz) (norm_pos hl.nz)
  rw [← e] at p
  by_cases z : k.cx l.a l.b = 0
  · refine .inr fun w => ?_
    have w : k.cy l.a l.b = 0 := w
    rw [z, w] at p
    exact absurd p zz00
  · exact .inl z
theorem back_lb {l : Lead} (hl : LB0 l) : LB (backL l) := by
  have hn := hl.n
  have ha := hl.ha
  have hb := hl.hb
  have kx := hl.hx
  have ky := hl.hy
  have np : 0 < l.n := norm_pos hl.nz
  have hd : B 13 14 (1 / l.n) := (B.div one_b hn np).mono (by decide) (by decide)
  have h1 : B 16 17 (l.a * (1 / l.n)) := by walk_at "bm"
  have h2 : B 16 17 (-l.b * (1 / l.n)) := by walk_at "bm"
  have m1 : B 1 1 (-1 : Rat) := ⟨by decide, by decide⟩
  have h3 : B 60 44 ((l.a * (1 / l.n) * l.x - -l.b * (1 / l.n) * l.y) * -1) := by walk_at "bm"
  have h4 : B 60 44 ((if l.m then -(l.a * (1 / l.n) * l.y + -l.b * (1 / l.n) * l.x) else l.a * (1 / l.n) * l.y + -l.b * (1 / l.n) * l.x) * -1) := by walk_at "bm"
  refine ⟨h1.mono (by decide) (by decide), (ite_b h2).mono (by decide) (by decide), h3, h4, ?_⟩
  have nz := Rat.ne_of_gt np
  show l.a * (1 / l.n) ≠ 0 ∨ (if l.m then -(-l.b * (1 / l.n)) else -l.b * (1 / l.n)) ≠ 0
  generalize l.n = t at *
  rcases hl.nz with z | z
  · refine .inl fun w => z ?_
    grind
  · refine .inr fun w => z ?_
    cases hm : l.m <;> simp only [hm, Bool.false_eq_true, if_false, if_true] at w <;> grind
end GD
end

section
set_option Elab.async false
set_option linter.all false
set_option maxRecDepth 100000
set_option exponentiation.threshold 2000
set_option maxHeartbeats 4000000
/-! ME: the law's main def. -/
namespace GD
open PySem PySem.Spec PyProof.Rows L2 GQ
local macro_rules | `(tactic| walk_at "bi") => `(tactic| with_reducible first | assumption | exact zero_b | exact one_b | exact two_b | (apply GQ.B.neg; walk_at "bi") | (apply ite_b; walk_at "bi") | (apply GQ.B.add; walk_at "bi"; walk_at "bi") | (apply GQ.B.sub; walk_at "bi"; walk_at "bi") | (apply GQ.B.mul; walk_at "bi"; walk_at "bi") | (apply GQ.B.div; walk_at "bi"; walk_at "bi"; assumption))
local macro_rules | `(tactic| walk_at "bm") => `(tactic| (apply GQ.B.mono; walk_at "bi"; decide; decide))
local macro_rules | `(tactic| walk_at "ok") => `(tactic| (apply Ok2.of; walk_at "bi"; walk_at "bi"; decide; decide; decide))
local macro_rules | `(tactic| walk_at "bb") => `(tactic| with_reducible first | assumption | exact bl0 | exact bl1 | exact bl2 | exact bl4 | (apply GQ.Bi.neg; walk_at "bb") | (apply GQ.Bi.add; walk_at "bb"; walk_at "bb") | (apply GQ.Bi.sub; walk_at "bb"; walk_at "bb") | (apply GQ.Bi.mul; walk_at "bb"; walk_at "bb"))
local macro_rules | `(tactic| walk_at "sm") => `(tactic| (apply GQ.Bi.sm; walk_at "bb"; decide))
local macro_rules | `(tactic| walk_at "en") => `(tactic| try dsimp only [startD, List.cons_append, List.nil_append, dNil, List.map, List.replicate, List.length, List.set, gdCons, gdName, gdNil, cutD, List.drop, List.take, Option.getD, Nat.reduceAdd, Nat.reduceSub])
local macro_rules | `(tactic| walk_at "mm") => `(tactic| (refine ⟨⟨?_, ?_⟩, ?_⟩; (walk_at "sm"); (walk_at "sm")))
local macro_rules | `(tactic| walk_at "bx") => `(tactic| (apply GQ.Bi.mono; walk_at "bb"; decide))
local macro_rules | `(tactic| walk_at "okl") => `(tactic| (apply OkL.of; walk_at "bi"; walk_at "bi"; decide; decide; decide))

def rightTail : MS := (dSeq (dAsg (dLcL 6 (dVar 3) dtYes (dCall S_l_flat (dCons (dVar 6) dNil))) (gdName 7))
    (dSeq (dAsg (dCall S_l_spot (dCons (dVar 0) (dCons (dVar 7) (dCons (dCall S_l_marks (dCons (dVar 7) dNil)) dNil)))) (gdName 8))
    (dSeq (dPar3 9 10 11 (dCons (dCall S_l_led_spot (dCons (dVar 1) (dCons (dVar 8) dNil))) (dCons (dCall S_l_led (dCons (dVar 1) (dCons (dVar 4) dNil))) (dCons (dCall S_l_both (dCons (dVar 1) (dCons (dVar 2) dNil))) dNil))))
    (dSeq (dPar 12 13 (dCons (dCall S_l_told (dCons (dVar 8) dNil)) (dCons (dCall S_l_told (dCons (dVar 9) dNil)) dNil)))
    (dSeq (dIfS (dtVal (dBin (kEqS true) (dCall kRepr (dCons (dTup (dCons (dCall S_p_led_place (dCons (dVar 1) (dCons (dVar 12) dNil))) (dCons (dCall S_p_led_curve (dCons (dVar 1) (dCons (dVar 4) dNil))) dNil))) dNil)) (dCall kRepr (dCons (dTup (dCons (dVar 13) (dCons (dVar 10) dNil))) dNil)))) (dRet (dC (.bool false))) dNext)
    (dSeq (dIfS (dtVal (dBin (kEqS true) (dCall kRepr (dCons (dCall S_p_sign_at (dCons (dVar 10) (dCons (dVar 13) dNil))) dNil)) (dCall kRepr (dCons (dCall S_l_at (dCons (dCall S_l_flat (dCons (dVar 4) dNil)) (dCons (dVar 8) dNil))) dNil)))) (dRet (dC (.bool false))) dNext)
    (dSeq (dIfS (dtVal (dBin (kEqS true) (dCall kRepr (dCons (dTup (dCons (dCall S_p_behind (dCons (dVar 1) (dCons (dVar 2) dNil))) (dCons (dCall (fun ds => S_p_behind ds.reverse) (dCons (dVar 2) (dCons (dVar 1) dNil))) dNil))) dNil)) (dCall kRepr (dCons (dTup (dCons (dVar 11) (dCons (dVar 11) dNil))) dNil)))) (dRet (dC (.bool false))) dNext)
    (dSeq (dIfS (dtVal (dBin (kEqS true) (dCall kRepr (dCons (dCall (fun ds => S_p_led_place ds.reverse) (dCons (dVar 12) (dCons (dVar 11) dNil))) dNil)) (dCall kRepr (dCons (dCall S_l_told (dCons (dCall S_l_led_spot (dCons (dVar 2) (dCons (dVar 9) dNil))) dNil)) dNil)))) (dRet (dC (.bool false))) dNext)
    (dSeq (dIfS (dtVal (dBin (kEqS true) (dCall kRepr (dCons (dTup (dCons (dCall S_p_back (dCons (dVar 1) dNil)) (dCons (dCall S_p_led_place (dCons (dCall S_p_back (dCons (dVar 1) dNil)) (dCons (dVar 13) dNil))) (dCons (dCall S_p_is_lead (dCons (dVar 1) dNil)) dNil)))) dNil)) (dCall kRepr (dCons (dTup (dCons (dCall S_l_undone (dCons (dVar 1) dNil)) (dCons (dVar 12) (dCons (dC (.bool true)) dNil)))) dNil)))) (dRet (dC (.bool false))) dNext)
    (dSeq (dForT 6 (dTup (dCons (dVar 1) (dCons (dVar 11) dNil))) (dIfS (dtVal (dBin (kEqS true) (dCall kRepr (dCons (dCall S_p_is_rigid (dCons (dVar 6) dNil)) dNil)) (dCall kRepr (dCons (dBin kEq (dCall S_l_norm (dCons (dBin kIx (dVar 6) (dC (.int 0))) (dCons (dBin kIx (dVar 6) (dC (.int 1))) dNil))) (dTup (dCons (dC (.int 1)) (dCons (dC (.int 1)) dNil)))) dNil)))) (dRet (dC (.bool false))) dNext))
    (dRet (dAnd (dCall S_l_moves (dCons (dVar 0) dNil)) (dCall S_l_mirrors (dCons (dVar 0) dNil))))))))))))))
theorem CBs.cb {c : Curve} (h : CBs c) : CB c := by
  cases c with
  | line a b c => exact ⟨⟨h.1.1.mono (by decide) (by decide), h.1.2.1.mono (by decide) (by decide), h.1.2.2.mono (by decide) (by decide)⟩, h.2⟩
  | circ x y q => exact ⟨⟨h.1.1.mono (by decide) (by decide), h.1.2.1.mono (by decide) (by decide), h.1.2.2.mono (by decide) (by decide)⟩, h.2⟩
theorem CBs.tof {c : Curve} (h : CBs c) : CBf c := by
  cases c with
  | line a b c => exact ⟨⟨h.1.1.mono (by decide) (by decide), h.1.2.1.mono (by decide) (by decide), h.1.2.2.mono (by decide) (by decide)⟩, h.2⟩
  | circ x y q => exact h
theorem CBs.fb {c : Curve} (h : CBs c) : FB (flatOf c) := by
  cases c with
  | line a b c =>
    obtain ⟨⟨ha, hb, hc⟩, nz⟩ := h
    have a1 := ha.num
    have a2 := ha.den
    have b1 := hb.num
    have b2 := hb.den
    have c1 := hc.num
    have c2 := hc.den
    refine ⟨?_, ?_, ?_, ?_⟩
    · show Bi 70 0
      walk_at "bx"
    · show Bi 92 (a.num * b.den * c.den)
      walk_at "bx"
    · show Bi 92 (b.num * a.den * c.den)
      walk_at "bx"
    · show Bi 112 (0 - c.num * (a.den * b.den))
      walk_at "bx"
  | circ x y q => exact (flat_ok (c := .circ x y q) h).fb
theorem flats_map {a b c d e f x7 x8 x9 x10 x11 x12 x13 x14 : Option PyData} : ∀ (cs : List Curve) (P : List PyData → Prop), (∀ c ∈ cs, CBf c) → P ((cs.map flatOf).map encF) → mapD 6 dtYes (dCall S_l_flat (dCons (dVar 6) dNil)) (cs.map encC) [a, b, c, d, e, f, none, x7, x8, x9, x10, x11, x12, x13, x14] P
  | [], P, _, h => h
  | c :: cs, P, hc, h => ⟨c, rfl, hc c List.mem_cons_self, flats_map cs _ (fun x hx => hc x (List.mem_cons_of_mem _ hx)) h⟩
theorem cho_s {x y : Str} {A B : Prop} (e : x = y) (h : B) : cho (!decide (x = y)) A B := cho_f (by rw [decide_eq_true e]; rfl) h
theorem shn_sg (a b : Rat) (r : Int) : Shn 0 0 (.int (sgQ a b r)) := by
  refine shn_int ?_
  unfold sgQ
  repeat' split
  all_goals first | exact (sg_bi _).mono (by decide) | exact Bi.mono (n := 1) (Bi.lit (by decide)) (by decide)
theorem rigid_eq (l : Lead) : PyData.bool (decide (l.n = 1)) = PyData.bool (PyData.eqv (encQ (l.a * l.a + l.b * l.b)) (encQ 1)) := by
  rw [eqv_encQ]
  rfl
theorem ne_self {x y : Str} {P : Bool → Prop} (e : x = y) (h : P false) : P (!decide (x = y)) := by
  rw [decide_eq_true e]
  exact h
theorem ifs_seg {t : MT} {F rest : MS} {en : En} {N : En → Prop} {R : PyData → Prop} (h : ∀ P : Bool → Prop, P false → t en P) (k : rest en N R) : dSeq (dIfS t F dNext) rest en N R := h (fun c => cho c (F en (fun en' => rest en' N R) R) (dNext en (fun en' => rest en' N R) R)) k
section
variable {L K CS C S TH FAR DUE TOLD LED : PyData} {x5 x6 x7 x14 : Option PyData}
theorem seg1 {V_p_led_curve V_p_led_place : List PyData → MD} (h1 : ∀ P : PyData → Prop, P LED → V_p_led_place [L, TOLD] P) (h2 : ∀ P : PyData → Prop, P FAR → V_p_led_curve [L, C] P) (o : ShowOk (.tuple [LED, FAR])) (P : Bool → Prop) (h : P false) : (dtVal (dBin (kEqS true) (dCall kRepr (dCons (dTup (dCons (dCall V_p_led_place (dCons (dVar 1) (dCons (dVar 12) dNil))) (dCons (dCall V_p_led_curve (dCons (dVar 1) (dCons (dVar 4) dNil))) dNil))) dNil)) (dCall kRepr (dCons (dTup (dCons (dVar 13) (dCons (dVar 10) dNil))) dNil)))) [some dWell, some L, some K, some CS, some C, x5, x6, x7, some S, some TH, some FAR, some DUE, some TOLD, some LED, x14] P := by
  show V_p_led_place [L, TOLD] _
  refine h1 _ ?_
  show V_p_led_curve [L, C] _
  refine h2 _ ?_
  exact ⟨le1000 rfl, o, le1000 rfl, o, ne_self rfl h⟩
theorem seg2 {V_l_at V_l_flat V_p_sign_at : List PyData → MD} {F : PyData} {i j : Int} (h1 : ∀ P : PyData → Prop, P (.int i) → V_p_sign_at [FAR, LED] P) (h2 : ∀ P : PyData → Prop, P F → V_l_flat [C] P) (h3 : ∀ P : PyData → Prop, P (.int j) → V_l_at [F, S] P) (e : i = j) (o : ShowOk (.int i)) (P : Bool → Prop) (h : P false) : (dtVal (dBin (kEqS true) (dCall kRepr (dCons (dCall V_p_sign_at (dCons (dVar 10) (dCons (dVar 13) dNil))) dNil)) (dCall kRepr (dCons (dCall V_l_at (dCons (dCall V_l_flat (dCons (dVar 4) dNil)) (dCons (dVar 8) dNil))) dNil)))) [some dWell, some L, some K, some CS, some C, x5, x6, x7, some S, some TH, some FAR, some DUE, some TOLD, some LED, x14] P := by
  subst e
  show V_p_sign_at [FAR, LED] _
  refine h1 _ ⟨o, ?_⟩
  show V_l_flat [C] _
  refine h2 _ ?_
  show V_l_at [F, S] _
  refine h3 _ ?_
  exact ⟨o, ne_self rfl h⟩
theorem seg3 {V_p_behind : List PyData → MD} (h1 : ∀ P : PyData → Prop, P DUE → V_p_behind [L, K] P) (o : ShowOk (.tuple [DUE, DUE])) (P : Bool → Prop) (h : P false) : (dtVal (dBin (kEqS true) (dCall kRepr (dCons (dTup (dCons (dCall V_p_behind (dCons (dVar 1) (dCons (dVar 2) dNil))) (dCons (dCall (fun ds => V_p_behind ds.reverse) (dCons (dVar 2) (dCons (dVar 1) dNil))) dNil))) dNil)) (dCall kRepr (dCons (dTup (dCons (dVar 11) (dCons (dVar 11) dNil))) dNil)))) [some dWell, some L, some K, some CS, some C, x5, x6, x7, some S, some TH, some FAR, some DUE, some TOLD, some LED, x14] P := by
  show V_p_behind [L, K] _
  refine h1 _ ?_
  show V_p_behind [L, K] _
  refine h1 _ ?_
  exact ⟨le1000 rfl, o, le1000 rfl, o, ne_self rfl h⟩
theorem seg4 {V_l_led_spot V_l_told V_p_led_place : List PyData → MD} {T : PyData} {xs : List PyData} (h1 : ∀ P : PyData → Prop, P (.tuple xs) → V_p_led_place [DUE, TOLD] P) (h2 : ∀ P : PyData → Prop, P T → V_l_led_spot [K, TH] P) (h3 : ∀ P : PyData → Prop, P (.tuple xs) → V_l_told [T] P) (o : ShowOk (.tuple xs)) (P : Bool → Prop) (h : P false) : (dtVal (dBin (kEqS true) (dCall kRepr (dCons (dCall (fun ds => V_p_led_place ds.reverse) (dCons (dVar 12) (dCons (dVar 11) dNil))) dNil)) (dCall kRepr (dCons (dCall V_l_told (dCons (dCall V_l_led_spot (dCons (dVar 2) (dCons (dVar 9) dNil))) dNil)) dNil)))) [some dWell, some L, some K, some CS, some C, x5, x6, x7, some S, some TH, some FAR, some DUE, some TOLD, some LED, x14] P := by
  show V_p_led_place [DUE, TOLD] _
  refine h1 _ ⟨o, ?_⟩
  show V_l_led_spot [K, TH] _
  refine h2 _ ?_
  show V_l_told [T] _
  refine h3 _ ?_
  exact ⟨o, ne_self rfl h⟩
theorem seg5 {V_l_undone V_p_back V_p_is_lead V_p_led_place : List PyData → MD} {BK : PyData} (h1 : ∀ P : PyData → Prop, P BK → V_p_back [L] P) (h2 : ∀ P : PyData → Prop, P TOLD → V_p_led_place [BK, LED] P) (h3 : ∀ P : PyData → Prop, P (.bool true) → V_p_is_lead [L] P) (h4 : ∀ P : PyData → Prop, P BK → V_l_undone [L] P) (o : ShowOk (.tuple [BK, TOLD, .bool true])) (P : Bool → Prop) (h : P false) : (dtVal (dBin (kEqS true) (dCall kRepr (dCons (dTup (dCons (dCall V_p_back (dCons (dVar 1) dNil)) (dCons (dCall V_p_led_place (dCons (dCall V_p_back (dCons (dVar 1) dNil)) (dCons (dVar 13) dNil))) (dCons (dCall V_p_is_lead (dCons (dVar 1) dNil)) dNil)))) dNil)) (dCall kRepr (dCons (dTup (dCons (dCall V_l_undone (dCons (dVar 1) dNil)) (dCons (dVar 12) (dCons (dC (.bool true)) dNil)))) dNil)))) [some dWell, some L, some K, some CS, some C, x5, x6, x7, some S, some TH, some FAR, some DUE, some TOLD, some LED, x14] P := by
  show V_p_back [L] _
  refine h1 _ ?_
  show V_p_back [L] _
  refine h1 _ ?_
  show V_p_led_place [BK, LED] _
  refine h2 _ ?_
  show V_p_is_lead [L] _
  refine h3 _ ⟨le1000 rfl, o, ?_⟩
  show V_l_undone [L] _
  refine h4 _ ?_
  exact ⟨le1000 rfl, o, ne_self rfl h⟩
theorem seg6 {x1 y3 y4 : Option PyData} {zs : List (Option PyData)} (l : Lead) (hl : LB l) (P : Bool → Prop) (h : P false) (y0 y1 y2 : Option PyData) : (dtVal (dBin (kEqS true) (dCall kRepr (dCons (dCall S_p_is_rigid (dCons (dVar 6) dNil)) dNil)) (dCall kRepr (dCons (dBin kEq (dCall S_l_norm (dCons (dBin kIx (dVar 6) (dC (.int 0))) (dCons (dBin kIx (dVar 6) (dC (.int 1))) dNil))) (dTup (dCons (dC (.int 1)) (dCons (dC (.int 1)) dNil)))) dNil)))) (y0 :: y1 :: y2 :: y3 :: y4 :: x1 :: some (encL l) :: zs) P := by
  refine ⟨l, rfl, hl, (l.a, l.b), rfl, ⟨44, 44, ⟨hl.ha, hl.hb⟩, by decide, by decide⟩, le1000 rfl, ⟨shQ _, shQ 1⟩, ?_⟩
  exact ne_self (congrArg PyData.shown (rigid_eq l)) h
end
end GD
end

section
set_option Elab.async false
set_option linter.all false
set_option maxRecDepth 100000
set_option exponentiation.threshold 2000
set_option maxHeartbeats 4000000
/-! MF: the law's main def, joined. -/
namespace GD
open PySem PySem.Spec PyProof.Rows L2 GQ
local macro_rules | `(tactic| walk_at "bi") => `(tactic| with_reducible first | assumption | exact zero_b | exact one_b | exact two_b | (apply GQ.B.neg; walk_at "bi") | (apply ite_b; walk_at "bi") | (apply GQ.B.add; walk_at "bi"; walk_at "bi") | (apply GQ.B.sub; walk_at "bi"; walk_at "bi") | (apply GQ.B.mul; walk_at "bi"; walk_at "bi") | (apply GQ.B.div; walk_at "bi"; walk_at "bi"; assumption))
local macro_rules | `(tactic| walk_at "bm") => `(tactic| (apply GQ.B.mono; walk_at "bi"; decide; decide))
local macro_rules | `(tactic| walk_at "ok") => `(tactic| (apply Ok2.of; walk_at "bi"; walk_at "bi"; decide; decide; decide))
local macro_rules | `(tactic| walk_at "bb") => `(tactic| with_reducible first | assumption | exact bl0 | exact bl1 | exact bl2 | exact bl4 | (apply GQ.Bi.neg; walk_at "bb") | (apply GQ.Bi.add; walk_at "bb"; walk_at "bb") | (apply GQ.Bi.sub; walk_at "bb"; walk_at "bb") | (apply GQ.Bi.mul; walk_at "bb"; walk_at "bb"))
local macro_rules | `(tactic| walk_at "sm") => `(tactic| (apply GQ.Bi.sm; walk_at "bb"; decide))
local macro_rules | `(tactic| walk_at "en") => `(tactic| try dsimp only [startD, List.cons_append, List.nil_append, dNil, List.map, List.replicate, List.length, List.set, gdCons, gdName, gdNil, cutD, List.drop, List.take, Option.getD, Nat.reduceAdd, Nat.reduceSub])
local macro_rules | `(tactic| walk_at "mm") => `(tactic| (refine ⟨⟨?_, ?_⟩, ?_⟩; (walk_at "sm"); (walk_at "sm")))
local macro_rules | `(tactic| walk_at "bx") => `(tactic| (apply GQ.Bi.mono; walk_at "bb"; decide))
local macro_rules | `(tactic| walk_at "okl") => `(tactic| (apply OkL.of; walk_at "bi"; walk_at "bi"; decide; decide; decide))
theorem right_tail {l k : Lead} {cs : List Curve} {c : Curve} {x5 : Option PyData} {P : PyData → Prop} (hl : LB0 l) (hk : LB0 k) (hcs : ∀ c ∈ cs, CB0 c) (hlen : cs.length ≤ 2) (hc : CBs c) (h : P (.bool true)) :
    rightTail [some dWell, some (encL l), some (encL k), some (.list (cs.map encC)), some (encC c), x5, none, none, none, none, none, none, none, none, none] (fun _ => P .none) P := by
  have Ll := hl.to
  have Lk := hk.to
  have ln : (cs.map encC).length ≤ 1000 := by
    rw [List.length_map]
    omega
  unfold rightTail
  refine ⟨ln, ?_⟩
  walk_at "en"
  refine flats_map cs _ (fun c hc => (hcs c hc).tof) ⟨ln, ?_⟩
  walk_at "en"
  have fo : ∀ f ∈ cs.map flatOf, FlatOk f := fun f hf => by
    obtain ⟨x, hx, rfl⟩ := List.mem_map.mp hf
    exact flat_ok (hcs x hx)
  have fl : (cs.map flatOf).length ≤ 2 := by
    rw [List.length_map]
    exact hlen
  generalize cs.map flatOf = fs at fo fl ⊢
  refine ⟨fs, rfl, ⟨fo, fl⟩, ?_⟩
  rintro _ ⟨ms, hms, lms, rfl⟩
  refine ⟨⟨fs, ms⟩, rfl, ⟨fo, hms, fl, lms⟩, ?_⟩
  rintro _ ⟨s, hs, rfl⟩
  walk_at "en"
  have Ss := hs.to
  have St := led_sb hl hs
  have S2 := led_sb2 hk St
  have Lb := behind_lb hl hk
  have Lr := back_lb hl
  have Cf := led_cb hl hc
  have np : 0 < l.n := norm_pos hl.nz
  refine ⟨(l, s), rfl, ⟨Ll, Ss.to2⟩, (l, c), rfl, ⟨Ll, hc.cb⟩, (l, k), rfl, ⟨Ll, Lk⟩, ?_⟩
  walk_at "en"
  refine ⟨s, rfl, Ss.to2, ?_⟩
  rintro _ ⟨n, m, hn, hm, rfl⟩
  refine ⟨ledS l s, rfl, St.to2, ?_⟩
  rintro _ ⟨n', m', hn', hm', rfl⟩
  walk_at "en"
  have ts := told_of Ss hn hm
  have tt := told_of St hn' hm'
  have sh1 := shn_told Ss.to2 hn hm
  have sh2 := shn_told St.to2 hn' hm'
  refine ifs_seg (seg1 ?_ ?_ ?_) ?_
  · intro P h
    refine ⟨⟨l, s, n, m⟩, rfl, ⟨Ll, ts⟩, ?_⟩
    intro d hd
    obtain rfl := led_uniq (t := ledS l s) hd rfl (ledS_val l s hs.d0) hn' hm'
    exact h
  · intro P h
    exact ⟨(l, c), rfl, ⟨Ll, hc.cb⟩, h⟩
  · exact (shn_tup (shn_cons sh2 (shn_cons (shn_C Cf) shn_nil))).ok (by decide) (by decide)
  obtain ⟨v1, v2⟩ := val_bd Cf St
  refine ifs_seg (seg2 (F := encF (flatOf c)) ?_ ?_ ?_ (sign_law l c s np hs.d0) ((shn_sg _ _ _).ok (by decide) (by decide))) ?_
  · intro P h
    exact ⟨⟨ledC l c, ledS l s, n', m'⟩, rfl, ⟨Cf, tt, v1, v2⟩, h⟩
  · intro P h
    exact ⟨c, rfl, hc.tof, h⟩
  · intro P h
    exact ⟨(flatOf c, s), rfl, ⟨hc.fb, Ss⟩, h⟩
  refine ifs_seg (seg3 ?_ ?_) ?_
  · intro P h
    exact ⟨(l, k), rfl, ⟨Ll, Lk⟩, h⟩
  · exact (shn_tup (shn_cons (shn_L Lb) (shn_cons (shn_L Lb) shn_nil))).ok (by decide) (by decide)
  have ev : (((ledS k (ledS l s)).x = (behindL l k).cx s.x s.y + (behindL l k).x ∧ (ledS k (ledS l s)).u = (behindL l k).cx s.u s.v) ∧ (ledS k (ledS l s)).y = (behindL l k).cy s.x s.y + (behindL l k).y ∧ (ledS k (ledS l s)).v = (behindL l k).cy s.u s.v) := by
    obtain ⟨⟨e1, e2⟩, e3, e4⟩ := ledS_val l s hs.d0
    obtain ⟨⟨f1, f2⟩, f3, f4⟩ := ledS_val k (ledS l s) St.d0
    obtain ⟨⟨g1, g2⟩, _, _⟩ := behind_val l k s.x s.y
    obtain ⟨_, g3, g4⟩ := behind_val l k s.u s.v
    rw [f1, f2, f3, f4, e1, e2, e3, e4, g1, g2, g3, g4]
    exact ⟨⟨rfl, rfl⟩, rfl, rfl⟩
  have eb : ((s.x = (backL l).cx (ledS l s).x (ledS l s).y + (backL l).x ∧ s.u = (backL l).cx (ledS l s).u (ledS l s).v) ∧ s.y = (backL l).cy (ledS l s).x (ledS l s).y + (backL l).y ∧ s.v = (backL l).cy (ledS l s).u (ledS l s).v) := by
    obtain ⟨⟨e1, e2⟩, e3, e4⟩ := ledS_val l s hs.d0
    obtain ⟨⟨g1, g2⟩, _, _⟩ := back_val l np s.x s.y
    obtain ⟨_, g3, g4⟩ := back_val l np s.u s.v
    rw [e1, e2, e3, e4, g1, g2, g3, g4]
    exact ⟨⟨rfl, rfl⟩, rfl, rfl⟩
  refine ifs_seg (fun P h => ?_) ?_
  · refine ⟨⟨behindL l k, s, n, m⟩, rfl, ⟨Lb, ts⟩, ?_⟩
    intro d hd
    obtain ⟨n2, m2, k1, k2, rfl⟩ := hd
    rw [← ev.1.1, ← ev.1.2] at k1
    rw [← ev.2.1, ← ev.2.2] at k2
    refine ⟨(shn_told S2 k1 k2).ok (by decide) (by decide), (k, ledS l s), rfl, ⟨Lk, St.to2⟩, ledS k (ledS l s), rfl, S2, ?_⟩
    rintro _ ⟨n3, m3, k3, k4, rfl⟩
    refine ⟨(shn_told S2 k3 k4).ok (by decide) (by decide), ?_⟩
    refine ne_self ?_ h
    rw [NumIs.uniq k1 k3, NumIs.uniq k2 k4]
  refine ifs_seg (seg5 (BK := encL (backL l)) ?_ ?_ ?_ ?_ ?_) ?_
  · intro P h
    exact ⟨l, rfl, Ll, h⟩
  · intro P h
    refine ⟨⟨backL l, ledS l s, n', m'⟩, rfl, ⟨Lr, tt⟩, ?_⟩
    intro d hd
    obtain rfl := led_uniq (t := s) hd rfl eb hn hm
    exact h
  · intro P h
    exact ⟨l, rfl, Ll, h⟩
  · intro P h
    exact ⟨l, rfl, Ll, h⟩
  · exact (shn_tup (shn_cons (shn_L Lr) (shn_cons sh1 (shn_cons (shn_bool true) shn_nil)))).ok (by decide) (by decide)
  refine ⟨le1000 rfl, ?_⟩
  refine seg6 l Ll _ ?_ _ _ _
  refine seg6 (behindL l k) Lb _ ?_ _ _ _
  exact ⟨(), rfl, trivial, (), rfl, trivial, h⟩
end GD
end

section
set_option Elab.async false
set_option linter.all false
set_option maxRecDepth 100000
set_option exponentiation.threshold 2000
set_option maxHeartbeats 4000000
/-! MG: the law's main def, from its start. -/
namespace GD
open PySem PySem.Spec PyProof.Rows L2 GQ
local macro_rules | `(tactic| walk_at "bi") => `(tactic| with_reducible first | assumption | exact zero_b | exact one_b | exact two_b | (apply GQ.B.neg; walk_at "bi") | (apply ite_b; walk_at "bi") | (apply GQ.B.add; walk_at "bi"; walk_at "bi") | (apply GQ.B.sub; walk_at "bi"; walk_at "bi") | (apply GQ.B.mul; walk_at "bi"; walk_at "bi") | (apply GQ.B.div; walk_at "bi"; walk_at "bi"; assumption))
local macro_rules | `(tactic| walk_at "bm") => `(tactic| (apply GQ.B.mono; walk_at "bi"; decide; decide))
local macro_rules | `(tactic| walk_at "ok") => `(tactic| (apply Ok2.of; walk_at "bi"; walk_at "bi"; decide; decide; decide))
local macro_rules | `(tactic| walk_at "bb") => `(tactic| with_reducible first | assumption | exact bl0 | exact bl1 | exact bl2 | exact bl4 | (apply GQ.Bi.neg; walk_at "bb") | (apply GQ.Bi.add; walk_at "bb"; walk_at "bb") | (apply GQ.Bi.sub; walk_at "bb"; walk_at "bb") | (apply GQ.Bi.mul; walk_at "bb"; walk_at "bb"))
local macro_rules | `(tactic| walk_at "sm") => `(tactic| (apply GQ.Bi.sm; walk_at "bb"; decide))
local macro_rules | `(tactic| walk_at "en") => `(tactic| try dsimp only [startD, List.cons_append, List.nil_append, dNil, List.map, List.replicate, List.length, List.set, gdCons, gdName, gdNil, cutD, List.drop, List.take, Option.getD, Nat.reduceAdd, Nat.reduceSub])
local macro_rules | `(tactic| walk_at "mm") => `(tactic| (refine ⟨⟨?_, ?_⟩, ?_⟩; (walk_at "sm"); (walk_at "sm")))
local macro_rules | `(tactic| walk_at "bx") => `(tactic| (apply GQ.Bi.mono; walk_at "bb"; decide))
local macro_rules | `(tactic| walk_at "okl") => `(tactic| (apply OkL.of; walk_at "bi"; walk_at "bi"; decide; decide; decide))

theorem CB0.tos {c : Curve} (h : CB0 c) : CBs c := by
  cases c with
  | line a b c => exact ⟨⟨h.1.1.mono (by decide) (by decide), h.1.2.1.mono (by decide) (by decide), h.1.2.2.mono (by decide) (by decide)⟩, h.2⟩
  | circ x y q => exact h
theorem ifs_t {t : MT} {F rest : MS} {en : En} {N : En → Prop} {R : PyData → Prop} (h : ∀ P : Bool → Prop, P true → t en P) (k : F en (fun en' => rest en' N R) R) : dSeq (dIfS t F dNext) rest en N R := h (fun c => cho c (F en (fun en' => rest en' N R) R) (dNext en (fun en' => rest en' N R) R)) k
theorem sem_l_right {ds : List PyData} {P : PyData → Prop} : S_l_right ds P → m_l_right (startD N_l_right ds) (fun _ => P .none) P := by
  rintro ⟨_, rfl, _, h⟩
  have h : P (.bool true) := h
  refine ⟨(), rfl, trivial, ?_⟩
  rintro _ ⟨l, hl, rfl⟩
  refine ⟨(), rfl, trivial, ?_⟩
  rintro _ ⟨k, hk, rfl⟩
  refine ⟨(), rfl, trivial, ?_⟩
  rintro _ ⟨cs, hcs, hne, hlen, rfl⟩
  walk_at "en"
  have ne : cs.map encC ≠ [] := fun z => hne (List.map_eq_nil_iff.mp z)
  refine ⟨⟨true, cs.map encC⟩, rfl, ne, ?_⟩
  intro d hd
  obtain ⟨c, hc, rfl⟩ := List.mem_map.mp hd
  have c0 := hcs c hc
  walk_at "en"
  have tail := fun (c' : Curve) (x5 : Option PyData) (hc' : CBs c') => right_tail (x5 := x5) hl hk hcs hlen hc' h
  unfold rightTail at tail
  cases c with
  | circ x y q =>
    refine ifs_seg (fun P h => h) ?_
    exact tail (.circ x y q) none c0.tos
  | line a b c =>
    obtain ⟨⟨ha, hb, hc⟩, hz⟩ := c0
    refine ifs_t (fun P h => h) ?_
    have rest : ∀ r : Rat, B 2 2 r → r ≠ 0 → ∀ d : PyData, d = encQ r → (dSeq (dAsg (dBin kCatT (dTup (dCons (dC (.str "line")) dNil)) (dCall kTuple (dCons (dLcT 14 (dCut (some 1) none (dVar 4)) dtYes (dCall S_l_product (dCons (dVar 5) (dCons (dVar 14) dNil)))) dNil))) (gdName 4)) rightTail) [some dWell, some (encL l), some (encL k), some (.list (cs.map encC)), some (encC (.line a b c)), some d, none, none, none, none, none, none, none, none, none] (fun _ => P .none) P := by
      rintro r hr rz _ rfl
      have o1 : OkL r a := by walk_at "okl"
      have o2 : OkL r b := by walk_at "okl"
      have o3 : OkL r c := by walk_at "okl"
      have k1 : B 13 3 (r * a) := by walk_at "bm"
      have k2 : B 13 3 (r * b) := by walk_at "bm"
      have k3 : B 42 3 (r * c) := by walk_at "bm"
      refine ⟨le1000 rfl, cutL rfl, le1000 rfl, (r, a), rfl, o1, (r, b), rfl, o2, (r, c), rfl, o3, le1000 rfl, ⟨neN rfl, le1000 rfl, le1000 rfl⟩, ?_⟩
      refine right_tail (c := .line (r * a) (r * b) (r * c)) hl hk hcs hlen ⟨⟨k1, k2, k3⟩, ?_⟩ h
      rcases hz with y | y
      · exact .inl fun e => (Rat.mul_eq_zero.mp e).elim rz y
      · exact .inr fun e => (Rat.mul_eq_zero.mp e).elim rz y
    unfold rightTail at rest
    refine ⟨le1000 rfl, le1000 rfl, le1000 rfl, le1000 rfl, le1000 rfl, ⟨false, _⟩, rfl, List.cons_ne_nil _ _, ?_⟩
    refine allc (rest (rt 1 1) ⟨by decide, by decide⟩ (by decide) _ rfl) ?_
    refine allc (rest (rt (-1) 1) ⟨by decide, by decide⟩ (by decide) _ rfl) ?_
    refine allc (rest (rt 1 2) ⟨by decide, by decide⟩ (by decide) _ rfl) ?_
    exact allc (rest (rt (-2) 3) ⟨by decide, by decide⟩ (by decide) _ rfl) alln
end GD
end

section
set_option Elab.async false
set_option linter.all false
set_option maxRecDepth 100000
set_option exponentiation.threshold 2000
set_option maxHeartbeats 4000000
/-! MH: plain laws of turns and mirrors; places of fractions. -/
namespace GD
open PySem PySem.Spec PyProof.Rows L2 GQ
local macro_rules | `(tactic| walk_at "bi") => `(tactic| with_reducible first | assumption | exact zero_b | exact one_b | exact two_b | (apply GQ.B.neg; walk_at "bi") | (apply ite_b; walk_at "bi") | (apply GQ.B.add; walk_at "bi"; walk_at "bi") | (apply GQ.B.sub; walk_at "bi"; walk_at "bi") | (apply GQ.B.mul; walk_at "bi"; walk_at "bi") | (apply GQ.B.div; walk_at "bi"; walk_at "bi"; assumption))
local macro_rules | `(tactic| walk_at "bm") => `(tactic| (apply GQ.B.mono; walk_at "bi"; decide; decide))
local macro_rules | `(tactic| walk_at "ok") => `(tactic| (apply Ok2.of; walk_at "bi"; walk_at "bi"; decide; decide; decide))
local macro_rules | `(tactic| walk_at "bb") => `(tactic| with_reducible first | assumption | exact bl0 | exact bl1 | exact bl2 | exact bl4 | (apply GQ.Bi.neg; walk_at "bb") | (apply GQ.Bi.add; walk_at "bb"; walk_at "bb") | (apply GQ.Bi.sub; walk_at "bb"; walk_at "bb") | (apply GQ.Bi.mul; walk_at "bb"; walk_at "bb"))
local macro_rules | `(tactic| walk_at "sm") => `(tactic| (apply GQ.Bi.sm; walk_at "bb"; decide))
local macro_rules | `(tactic| walk_at "en") => `(tactic| try dsimp only [startD, List.cons_append, List.nil_append, dNil, List.map, List.replicate, List.length, List.set, gdCons, gdName, gdNil, cutD, List.drop, List.take, Option.getD, Nat.reduceAdd, Nat.reduceSub])
local macro_rules | `(tactic| walk_at "mm") => `(tactic| (refine ⟨⟨?_, ?_⟩, ?_⟩; (walk_at "sm"); (walk_at "sm")))
local macro_rules | `(tactic| walk_at "bx") => `(tactic| (apply GQ.Bi.mono; walk_at "bb"; decide))
local macro_rules | `(tactic| walk_at "okl") => `(tactic| (apply OkL.of; walk_at "bi"; walk_at "bi"; decide; decide; decide))


/-! ### a place of two fractions -/
def qS (x y : Rat) : Spot := ⟨x.num * y.den, 0, y.num * x.den, 0, 0, x.den * y.den⟩
theorem qS_pos (x y : Rat) : 0 < (qS x y).D := Int.mul_pos (den_pos' x) (den_pos' y)
theorem qf1 {xn xd yd : Rat} (h1 : xd ≠ 0) (h2 : yd ≠ 0) : xn * yd / (xd * yd) = xn / xd := by
  have := mn h1 h2
  grind
theorem qf2 {yn xd yd : Rat} (h1 : xd ≠ 0) (h2 : yd ≠ 0) : yn * xd / (xd * yd) = yn / yd := by
  have := mn h1 h2
  grind
theorem qS_x (x y : Rat) : (qS x y).x = x := by
  have e := frac x
  unfold Spot.x qS
  simp only [Rat.intCast_mul]
  rw [qf1 (denR x) (denR y), ← e]
theorem qS_y (x y : Rat) : (qS x y).y = y := by
  have e := frac y
  unfold Spot.y qS
  simp only [Rat.intCast_mul]
  rw [qf2 (denR x) (denR y), ← e]
theorem z_div (d : Rat) : (0 : Rat) / d = 0 := by
  rw [Rat.div_def, Rat.zero_mul]
theorem qS_u (x y : Rat) : (qS x y).u = 0 := by
  unfold Spot.u qS
  rw [c0]
  exact z_div _
theorem qS_v (x y : Rat) : (qS x y).v = 0 := by
  unfold Spot.v qS
  rw [c0]
  exact z_div _
theorem bi_zero (n : Nat) : Bi n 0 := Nat.two_pow_pos n
theorem numQ (x : Rat) (r : Int) : NumIs x 0 r (.q x) := ⟨.inl rfl, by rw [Rat.zero_mul, Rat.add_zero]⟩
theorem qS_told {n d : Nat} {x y : Rat} (hx : B n d x) (hy : B n d y) (h1 : n + d ≤ 500) (h2 : d + d ≤ 480) : Told (qS x y) (.q x) (.q y) := by
  have sb : SB (qS x y) := ⟨qS_pos x y, Int.le_refl 0, (hx.num.mul hy.den).mono h1, (hy.num.mul hx.den).mono h1, bi_zero 230, bi_zero 230, bi_zero 600, (hx.den.mul hy.den).mono h2⟩
  refine ⟨sb, ?_, ?_, hx.mono (by omega) (by omega), hy.mono (by omega) (by omega)⟩
  · rw [qS_x, qS_u]
    exact numQ x _
  · rw [qS_y, qS_v]
    exact numQ y _
theorem Lead.cx0 (l : Lead) : l.cx 0 0 = 0 := by
  unfold Lead.cx
  cases l.m <;> simp only [Bool.false_eq_true, if_false, if_true] <;> grind
theorem Lead.cy0 (l : Lead) : l.cy 0 0 = 0 := by
  unfold Lead.cy
  cases l.m <;> simp only [Bool.false_eq_true, if_false, if_true] <;> grind
theorem led_point {l : Lead} {x y : Rat} {d : PyData} (h : LedIs l (qS x y) d) : d = encP (l.cx x y + l.x) (l.cy x y + l.y) := by
  refine led_uniq (t := qS (l.cx x y + l.x) (l.cy x y + l.y)) (n := .q (l.cx x y + l.x)) (m := .q (l.cy x y + l.y)) h rfl ?_ ?_ ?_
  · simp only [qS_x, qS_y, qS_u, qS_v, l.cx0, l.cy0]
    exact ⟨⟨trivial, trivial⟩, trivial, trivial⟩
  · rw [qS_x, qS_u]
    exact numQ _ _
  · rw [qS_y, qS_v]
    exact numQ _ _
theorem led_pt {n d : Nat} {l : Lead} {x y : Rat} {P : PyData → Prop} (hl : LB l) (hx : B n d x) (hy : B n d y) (h1 : n + d ≤ 500) (h2 : d + d ≤ 480) (h : P (encP (l.cx x y + l.x) (l.cy x y + l.y))) : S_p_led_place [encL l, encP x y] P := by
  refine ⟨⟨l, qS x y, .q x, .q y⟩, rfl, ⟨hl, qS_told hx hy h1 h2⟩, ?_⟩
  intro e he
  rw [led_point he]
  exact h
/-! ### turns -/
theorem tf1 {xn xd yn yd : Rat} (h1 : xd ≠ 0) (h2 : yd ≠ 0) (hv : xn / xd * (xn / xd) + yn / yd * (yn / yd) ≠ 0) : (xn / xd * (xn / xd) - yn / yd * (yn / yd)) * (1 / (xn / xd * (xn / xd) + yn / yd * (yn / yd))) = (xn * yd * (xn * yd) - yn * xd * (yn * xd)) / (xn * yd * (xn * yd) + yn * xd * (yn * xd)) := by
  have k1 : xn * yd = xn / xd * (xd * yd) := by grind
  have k2 : yn * xd = yn / yd * (xd * yd) := by grind
  rw [k1, k2]
  have k3 := mn h1 h2
  generalize xd * yd = t at *
  generalize xn / xd = a at *
  generalize yn / yd = b at *
  have e1 : a * t * (a * t) - b * t * (b * t) = (a * a - b * b) * (t * t) := by grind
  have e2 : a * t * (a * t) + b * t * (b * t) = (a * a + b * b) * (t * t) := by grind
  rw [e1, e2]
  have k4 := mn k3 k3
  generalize t * t = s at *
  generalize a * a - b * b = u at *
  generalize a * a + b * b = v at *
  have k5 := mn hv k4
  grind
theorem tf2 {xn xd yn yd : Rat} (h1 : xd ≠ 0) (h2 : yd ≠ 0) (hv : xn / xd * (xn / xd) + yn / yd * (yn / yd) ≠ 0) : (xn / xd * (yn / yd) + yn / yd * (xn / xd)) * (1 / (xn / xd * (xn / xd) + yn / yd * (yn / yd))) = (xn * yd * (yn * xd) + yn * xd * (xn * yd)) / (xn * yd * (xn * yd) + yn * xd * (yn * xd)) := by
  have k1 : xn * yd = xn / xd * (xd * yd) := by grind
  have k2 : yn * xd = yn / yd * (xd * yd) := by grind
  rw [k1, k2]
  have k3 := mn h1 h2
  generalize xd * yd = t at *
  generalize xn / xd = a at *
  generalize yn / yd = b at *
  have e1 : a * t * (b * t) + b * t * (a * t) = (a * b + b * a) * (t * t) := by grind
  have e2 : a * t * (a * t) + b * t * (b * t) = (a * a + b * b) * (t * t) := by grind
  rw [e1, e2]
  have k4 := mn k3 k3
  generalize t * t = s at *
  generalize a * b + b * a = u at *
  generalize a * a + b * b = v at *
  have k5 := mn hv k4
  grind
theorem turn_n {x y : Rat} (h : x ≠ 0 ∨ y ≠ 0) : (turnL x y).n = 1 := by
  have hz := Rat.ne_of_gt (norm_pos h)
  unfold turnL Lead.n
  dsimp only
  have e : (x * x - y * y) * (x * x - y * y) + (x * y + y * x) * (x * y + y * x) = (x * x + y * y) * (x * x + y * y) := by grind
  generalize x * x + y * y = t at *
  generalize x * x - y * y = u at *
  generalize x * y + y * x = v at *
  grind
theorem nz_of_n {a b : Rat} (h : a * a + b * b = 1) : a ≠ 0 ∨ b ≠ 0 := by
  by_cases z : a = 0
  · refine .inr fun w => ?_
    rw [z, w, Rat.zero_mul, Rat.zero_add] at h
    exact absurd h (by decide)
  · exact .inl z
theorem turn_lb {x y : Rat} (hx : B 18 3 x) (hy : B 18 3 y) (h : x ≠ 0 ∨ y ≠ 0) : LB (turnL x y) := by
  have hn := turn_n h
  have ex := frac x
  have ey := frac y
  have x1 := hx.num
  have x2 := hx.den
  have y1 := hy.num
  have y2 := hy.den
  have nz2 : x.num * y.den ≠ 0 ∨ y.num * x.den ≠ 0 := by
    rcases h with z | z
    · exact .inl fun w => z ((Int.mul_eq_zero.mp w).elim Rat.num_eq_zero.mp fun v => absurd v (Int.ne_of_gt (den_pos' y)))
    · exact .inr fun w => z ((Int.mul_eq_zero.mp w).elim Rat.num_eq_zero.mp fun v => absurd v (Int.ne_of_gt (den_pos' x)))
  have np := norm_posI nz2
  have hz := Rat.ne_of_gt (norm_pos h)
  have e1 : (turnL x y).a = Rat.divInt (x.num * y.den * (x.num * y.den) - y.num * x.den * (y.num * x.den)) (x.num * y.den * (x.num * y.den) + y.num * x.den * (y.num * x.den)) := by
    rw [fr_eq]
    simp only [Rat.intCast_add, Rat.intCast_sub, Rat.intCast_mul]
    rw [← tf1 (denR x) (denR y) (by rw [← ex, ← ey]; exact hz), ← ex, ← ey]
    rfl
  have e2 : (turnL x y).b = Rat.divInt (x.num * y.den * (y.num * x.den) + y.num * x.den * (x.num * y.den)) (x.num * y.den * (x.num * y.den) + y.num * x.den * (y.num * x.den)) := by
    rw [fr_eq]
    simp only [Rat.intCast_add, Rat.intCast_sub, Rat.intCast_mul]
    rw [← tf2 (denR x) (denR y) (by rw [← ex, ← ey]; exact hz), ← ex, ← ey]
    rfl
  have b0 : Bi 44 (x.num * y.den * (x.num * y.den) + y.num * x.den * (y.num * x.den)) := by walk_at "bx"
  have b1 : Bi 44 (x.num * y.den * (x.num * y.den) - y.num * x.den * (y.num * x.den)) := by walk_at "bx"
  have b2 : Bi 44 (x.num * y.den * (y.num * x.den) + y.num * x.den * (x.num * y.den)) := by walk_at "bx"
  refine ⟨?_, ?_, zero_b.mono (by decide) (by decide), zero_b.mono (by decide) (by decide), nz_of_n hn⟩
  · rw [e1]
    exact B.fr b1 b0 (Int.ne_of_gt np)
  · rw [e2]
    exact B.fr b2 b0 (Int.ne_of_gt np)
/-! ### mirrors -/
theorem mirror_n {a b c : Rat} (h : a ≠ 0 ∨ b ≠ 0) : (mirrorL a b c).n = 1 := by
  have hz := Rat.ne_of_gt (norm_pos h)
  unfold mirrorL Lead.n
  dsimp only
  have e : (a * a - b * b) * (a * a - b * b) + (a * b + b * a) * (a * b + b * a) = (a * a + b * b) * (a * a + b * b) := by grind
  generalize a * a + b * b = t at *
  generalize a * a - b * b = u at *
  generalize a * b + b * a = v at *
  grind
theorem mirror_scale {a b c r : Rat} (hr : r ≠ 0) (h : a ≠ 0 ∨ b ≠ 0) : mirrorL (r * a) (r * b) (r * c) = mirrorL a b c := by
  have hz := Rat.ne_of_gt (norm_pos h)
  have e0 : r * a * (r * a) + r * b * (r * b) = r * r * (a * a + b * b) := by grind
  have rr := mn hr hr
  unfold mirrorL
  rw [e0]
  congr 1
  · have e1 : r * a * (r * a) - r * b * (r * b) = r * r * (a * a - b * b) := by grind
    rw [e1]
    generalize a * a + b * b = t at *
    generalize a * a - b * b = u at *
    generalize r * r = s at *
    grind
  · have e1 : r * a * (r * b) + r * b * (r * a) = r * r * (a * b + b * a) := by grind
    rw [e1]
    generalize a * a + b * b = t at *
    generalize a * b + b * a = u at *
    generalize r * r = s at *
    grind
  · generalize a * a + b * b = t at *
    grind
  · generalize a * a + b * b = t at *
    grind
theorem mirror_lb {a b c : Rat} (ha : B 11 1 a) (hb : B 11 1 b) (hc : B 40 1 c) (h : a ≠ 0 ∨ b ≠ 0) : LB (mirrorL a b c) := by
  have hn := mirror_n (c := c) h
  have np := norm_pos h
  have m1 : B 1 1 (-1 : Rat) := ⟨by decide, by decide⟩
  have h1 : B 44 44 ((a * a - b * b) * (-1 / (a * a + b * b))) := by walk_at "bm"
  have h2 : B 44 44 ((a * b + b * a) * (-1 / (a * a + b * b))) := by walk_at "bm"
  have h3 : B 60 44 (a * (2 * c / (a * a + b * b))) := by walk_at "bm"
  have h4 : B 60 44 (b * (2 * c / (a * a + b * b))) := by walk_at "bm"
  exact ⟨h1, h2, h3, h4, nz_of_n hn⟩
theorem mirror_twice {a b c : Rat} (h : a ≠ 0 ∨ b ≠ 0) (x y : Rat) : (mirrorL a b c).cx ((mirrorL a b c).cx x y + (mirrorL a b c).x) ((mirrorL a b c).cy x y + (mirrorL a b c).y) + (mirrorL a b c).x = x ∧ (mirrorL a b c).cy ((mirrorL a b c).cx x y + (mirrorL a b c).x) ((mirrorL a b c).cy x y + (mirrorL a b c).y) + (mirrorL a b c).y = y := by
  have hz := Rat.ne_of_gt (norm_pos h)
  unfold mirrorL Lead.cx Lead.cy
  simp only [if_true]
  have e : 1 / (a * a + b * b) * (a * a + b * b) = 1 := by grind
  have k1 : -1 / (a * a + b * b) = -(1 / (a * a + b * b)) := by grind
  have k2 : 2 * c / (a * a + b * b) = 2 * c * (1 / (a * a + b * b)) := by grind
  rw [k1, k2]
  generalize 1 / (a * a + b * b) = t at *
  constructor <;> grind
/-- the foot of a line -/
theorem mirror_foot {a b c : Rat} (h : a ≠ 0 ∨ b ≠ 0) : (mirrorL a b c).cx (1 / (a * a + b * b) * (2 * c) * (1 / 2) * a) (1 / (a * a + b * b) * (2 * c) * (1 / 2) * b) + (mirrorL a b c).x = 1 / (a * a + b * b) * (2 * c) * (1 / 2) * a ∧ (mirrorL a b c).cy (1 / (a * a + b * b) * (2 * c) * (1 / 2) * a) (1 / (a * a + b * b) * (2 * c) * (1 / 2) * b) + (mirrorL a b c).y = 1 / (a * a + b * b) * (2 * c) * (1 / 2) * b := by
  have hz := Rat.ne_of_gt (norm_pos h)
  unfold mirrorL Lead.cx Lead.cy
  simp only [if_true]
  have e : 1 / (a * a + b * b) * (a * a + b * b) = 1 := by grind
  have k1 : -1 / (a * a + b * b) = -(1 / (a * a + b * b)) := by grind
  have k2 : 2 * c / (a * a + b * b) = 2 * c * (1 / (a * a + b * b)) := by grind
  have k3 : (1 : Rat) / 2 * 2 = 1 := by grind
  rw [k1, k2]
  generalize 1 / (a * a + b * b) = t at *
  constructor <;> grind
end GD
end

section
set_option Elab.async false
set_option linter.all false
set_option maxRecDepth 100000
set_option exponentiation.threshold 2000
set_option maxHeartbeats 4000000
/-! MI: the law's draws. -/
namespace GD
open PySem PySem.Spec PyProof.Rows L2 GQ
local macro_rules | `(tactic| walk_at "bi") => `(tactic| with_reducible first | assumption | exact zero_b | exact one_b | exact two_b | (apply GQ.B.neg; walk_at "bi") | (apply ite_b; walk_at "bi") | (apply GQ.B.add; walk_at "bi"; walk_at "bi") | (apply GQ.B.sub; walk_at "bi"; walk_at "bi") | (apply GQ.B.mul; walk_at "bi"; walk_at "bi") | (apply GQ.B.div; walk_at "bi"; walk_at "bi"; assumption))
local macro_rules | `(tactic| walk_at "bm") => `(tactic| (apply GQ.B.mono; walk_at "bi"; decide; decide))
local macro_rules | `(tactic| walk_at "ok") => `(tactic| (apply Ok2.of; walk_at "bi"; walk_at "bi"; decide; decide; decide))
local macro_rules | `(tactic| walk_at "bb") => `(tactic| with_reducible first | assumption | exact bl0 | exact bl1 | exact bl2 | exact bl4 | (apply GQ.Bi.neg; walk_at "bb") | (apply GQ.Bi.add; walk_at "bb"; walk_at "bb") | (apply GQ.Bi.sub; walk_at "bb"; walk_at "bb") | (apply GQ.Bi.mul; walk_at "bb"; walk_at "bb"))
local macro_rules | `(tactic| walk_at "sm") => `(tactic| (apply GQ.Bi.sm; walk_at "bb"; decide))
local macro_rules | `(tactic| walk_at "en") => `(tactic| try dsimp only [startD, List.cons_append, List.nil_append, dNil, List.map, List.replicate, List.length, List.set, gdCons, gdName, gdNil, cutD, List.drop, List.take, Option.getD, Nat.reduceAdd, Nat.reduceSub])
local macro_rules | `(tactic| walk_at "mm") => `(tactic| (refine ⟨⟨?_, ?_⟩, ?_⟩; (walk_at "sm"); (walk_at "sm")))
local macro_rules | `(tactic| walk_at "bx") => `(tactic| (apply GQ.Bi.mono; walk_at "bb"; decide))
local macro_rules | `(tactic| walk_at "okl") => `(tactic| (apply OkL.of; walk_at "bi"; walk_at "bi"; decide; decide; decide))


theorem fm_nn (x : Int) {n : Int} (h : 0 < n) : 0 ≤ x.fmod n ∧ x.fmod n < n := by
  rw [Int.fmod_eq_emod_of_nonneg _ (by omega)]
  exact ⟨Int.emod_nonneg _ (by omega), Int.emod_lt_of_pos _ h⟩
theorem sem_l_draw {ds : List PyData} {P : PyData → Prop} : S_l_draw ds P → m_l_draw (startD N_l_draw ds) (fun _ => P .none) P := by
  rintro ⟨n, rfl, ⟨h0, h1⟩, h⟩
  have h0 : 0 < n := h0
  have h1 : n < 4611686018427387904 := h1
  have h : ∀ d, (∃ i : Int, (0 ≤ i ∧ i < n) ∧ d = .int i) → P d := h
  have fin : ∀ i : Int, 0 ≤ i ∧ i < n → P (.int i) := fun i a => h _ ⟨i, a, rfl⟩
  have ne1 : (2147483579 : Int) ≠ 0 := by decide
  have ne2 : (6007 : Int) ≠ 0 := by decide
  refine ⟨rfl, fun v => ?_⟩
  refine cho_2 (c := decide (0 < v)) (fun _ => ?_) (fun _ => ?_)
  · refine ⟨rfl, fun u => ⟨⟨h0, h1⟩, rfl, ?_⟩⟩
    exact fin _ ⟨Int.emod_nonneg _ (by omega), Int.emod_lt_of_pos _ h0⟩
  · refine ⟨rfl, fun a => ⟨rfl, rfl, fun b => ⟨rfl, fun c => ⟨⟨by decide, by decide⟩, ne1, ?_⟩⟩⟩⟩
    walk_at "en"
    obtain ⟨k1, k2⟩ := fm_nn (b + 48611 * c) (n := 2147483579) (by decide)
    generalize (b + 48611 * c).fmod 2147483579 = sd at *
    refine ⟨ne2, ⟨by omega, by omega⟩, rfl, fun e => ⟨⟨by decide, by decide⟩, ne1, rfl, rfl, fun f => ⟨(Bi.lit (n := 10) (by decide)).dv (by decide) (by decide), by omega, ?_⟩⟩⟩
    exact fin _ (fm_nn _ h0)
theorem sem_l_small {ds : List PyData} {P : PyData → Prop} : S_l_small ds P → m_l_small (startD N_l_small ds) (fun _ => P .none) P := by
  rintro ⟨_, rfl, _, h⟩
  have h : ∀ d, (∃ q, B 18 3 q ∧ d = encQ q) → P d := h
  have lean : ∀ a b : Int, Bi 18 a → (0 < b ∧ b < 8) → S_l_lean [.int a, .int b] P := fun a b ha hb => by
    have k : Bi 3 b := by
      unfold Bi
      omega
    exact ⟨(a, b), rfl, ⟨hb.1, k.mono (by decide)⟩, h _ ⟨_, B.fr ha k (Int.ne_of_gt hb.1), rfl⟩⟩
  refine ⟨40, rfl, by decide, ?_⟩
  rintro _ ⟨i, hi, rfl⟩
  walk_at "en"
  have tail : (dSeq (dIfS (dtVal (dBin kGt (dVar 1) (dC (.int 34)))) (dRet (dCall S_l_lean (dCons (dBin kSub (dCall S_l_draw (dCons (dVar 0) (dCons (dC (.int 9)) dNil))) (dC (.int 4))) (dCons (dBin kAdd (dC (.int 2)) (dCall S_l_draw (dCons (dVar 0) (dCons (dC (.int 3)) dNil)))) dNil)))) dNext)
    (dRet (dTup (dCons (dBin kIx (dTup (dCons (dC (.int 0)) (dCons (dC (.int 1)) (dCons (dNeg (dC (.int 1))) (dCons (dC (.int 2)) (dCons (dC (.int 0)) (dCons (dC (.int 1)) (dCons (dNeg (dC (.int 2))) (dCons (dC (.int 3)) dNil))))))))) (dCall S_l_draw (dCons (dVar 0) (dCons (dC (.int 8)) dNil)))) (dCons (dC (.int 1)) dNil))))) [some dWell, some (.int i)] (fun _ => P .none) P := by
    refine cho_2 (c := decide ((34 : Int) < i)) (fun _ => ?_) (fun _ => ?_)
    · refine ⟨9, rfl, by decide, ?_⟩
      rintro _ ⟨a, ha, rfl⟩
      refine ⟨3, rfl, by decide, ?_⟩
      rintro _ ⟨b, hb, rfl⟩
      refine lean (a - 4) (2 + b) ?_ (by omega)
      unfold Bi
      omega
    · refine ⟨le1000 rfl, 8, rfl, by decide, ?_⟩
      rintro _ ⟨k, hk, rfl⟩
      obtain ⟨n, rfl⟩ := Int.eq_ofNat_of_zero_le hk.1
      have hn : n < 8 := by omega
      have rest : ∀ r : Rat, B 18 3 r → ∀ e : PyData, PyData.tuple [e, .int 1] = encQ r → ([e, PyData.int 1].length ≤ 1000 ∧ P (.tuple [e, .int 1])) := fun r hr e he => ⟨le1000 rfl, h _ ⟨r, hr, he⟩⟩
      match n, hn with
      | 0, _ => exact rest (rt 0 1) ⟨by decide, by decide⟩ _ rfl
      | 1, _ => exact rest (rt 1 1) ⟨by decide, by decide⟩ _ rfl
      | 2, _ => exact rest (rt (-1) 1) ⟨by decide, by decide⟩ _ rfl
      | 3, _ => exact rest (rt 2 1) ⟨by decide, by decide⟩ _ rfl
      | 4, _ => exact rest (rt 0 1) ⟨by decide, by decide⟩ _ rfl
      | 5, _ => exact rest (rt 1 1) ⟨by decide, by decide⟩ _ rfl
      | 6, _ => exact rest (rt (-2) 1) ⟨by decide, by decide⟩ _ rfl
      | 7, _ => exact rest (rt 3 1) ⟨by decide, by decide⟩ _ rfl
  refine cho_2 (c := decide (i = 39)) (fun _ => ?_) (fun _ => ?_)
  rotate_left
  · refine cho_f rfl ?_
    dsimp only [dNext]
    exact tail
  refine ⟨rfl, fun v => ?_⟩
  refine cho_2 (c := decide (0 < v)) (fun _ => ?_) (fun _ => ?_)
  rotate_left
  · dsimp only [dNext]
    exact tail
  refine ⟨rfl, 300017, rfl, by decide, ?_⟩
  rintro _ ⟨a, ha, rfl⟩
  refine ⟨7, rfl, by decide, ?_⟩
  rintro _ ⟨b, hb, rfl⟩
  refine lean (a - 150008) (1 + b) ?_ (by omega)
  unfold Bi
  omega
end GD
end

section
set_option Elab.async false
set_option linter.all false
set_option maxRecDepth 100000
set_option exponentiation.threshold 2000
set_option maxHeartbeats 4000000
/-! MJ: moves, turns, mirrors. -/
namespace GD
open PySem PySem.Spec PyProof.Rows L2 GQ
local macro_rules | `(tactic| walk_at "bi") => `(tactic| with_reducible first | assumption | exact zero_b | exact one_b | exact two_b | (apply GQ.B.neg; walk_at "bi") | (apply ite_b; walk_at "bi") | (apply GQ.B.add; walk_at "bi"; walk_at "bi") | (apply GQ.B.sub; walk_at "bi"; walk_at "bi") | (apply GQ.B.mul; walk_at "bi"; walk_at "bi") | (apply GQ.B.div; walk_at "bi"; walk_at "bi"; assumption))
local macro_rules | `(tactic| walk_at "bm") => `(tactic| (apply GQ.B.mono; walk_at "bi"; decide; decide))
local macro_rules | `(tactic| walk_at "ok") => `(tactic| (apply Ok2.of; walk_at "bi"; walk_at "bi"; decide; decide; decide))
local macro_rules | `(tactic| walk_at "bb") => `(tactic| with_reducible first | assumption | exact bl0 | exact bl1 | exact bl2 | exact bl4 | (apply GQ.Bi.neg; walk_at "bb") | (apply GQ.Bi.add; walk_at "bb"; walk_at "bb") | (apply GQ.Bi.sub; walk_at "bb"; walk_at "bb") | (apply GQ.Bi.mul; walk_at "bb"; walk_at "bb"))
local macro_rules | `(tactic| walk_at "sm") => `(tactic| (apply GQ.Bi.sm; walk_at "bb"; decide))
local macro_rules | `(tactic| walk_at "en") => `(tactic| try dsimp only [startD, List.cons_append, List.nil_append, dNil, List.map, List.replicate, List.length, List.set, gdCons, gdName, gdNil, cutD, List.drop, List.take, Option.getD, Nat.reduceAdd, Nat.reduceSub])
local macro_rules | `(tactic| walk_at "mm") => `(tactic| (refine ⟨⟨?_, ?_⟩, ?_⟩; (walk_at "sm"); (walk_at "sm")))
local macro_rules | `(tactic| walk_at "bx") => `(tactic| (apply GQ.Bi.mono; walk_at "bb"; decide))
local macro_rules | `(tactic| walk_at "okl") => `(tactic| (apply OkL.of; walk_at "bi"; walk_at "bi"; decide; decide; decide))

def movesTail : MS :=
    (dSeq (dAsg (dCall S_l_norm (dCons (dVar 2) (dCons (dVar 3) dNil))) (gdName 4))
    (dSeq (dAsg (dTup (dCons (dBin kIx (dVar 4) (dC (.int 1))) (dCons (dBin kIx (dVar 4) (dC (.int 0))) dNil))) (gdName 5))
    (dSeq (dAsg (dCall S_l_product (dCons (dVar 5) (dCons (dCall S_l_sum (dCons (dCall S_l_product (dCons (dVar 2) (dCons (dVar 2) dNil))) (dCons (dCall S_l_product (dCons (dVar 3) (dCons (dTup (dCons (dBin kSub (dC (.int 0)) (dBin kIx (dVar 3) (dC (.int 0)))) (dCons (dBin kIx (dVar 3) (dC (.int 1))) dNil))) dNil))) dNil))) dNil))) (gdName 6))
    (dSeq (dPar 7 8 (dCons (dCall S_l_product (dCons (dVar 5) (dCons (dCall S_l_product (dCons (dTup (dCons (dC (.int 2)) (dCons (dC (.int 1)) dNil))) (dCons (dCall S_l_product (dCons (dVar 2) (dCons (dVar 3) dNil))) dNil))) dNil))) (dCons (dTup (dCons (dC (.int 0)) (dCons (dC (.int 1)) dNil))) dNil)))
    (dSeq (dAsg (dIf (dtVal (dBin kEqI (dCall S_l_draw (dCons (dVar 0) (dCons (dC (.int 2)) dNil))) (dC (.int 0)))) (dCall S_p_turn (dCons (dTup (dCons (dVar 2) (dCons (dVar 3) dNil))) dNil)) (dCall (fun ds => S_p_turn ds.reverse) (dCons (dTup (dCons (dVar 2) (dCons (dVar 3) dNil))) dNil))) (gdName 9))
    (dSeq (dIfS (dtVal (dBin (kEqS true) (dCall kRepr (dCons (dVar 9) dNil)) (dCall kRepr (dCons (dTup (dCons (dVar 6) (dCons (dVar 7) (dCons (dC (.bool false)) (dCons (dTup (dCons (dVar 8) (dCons (dVar 8) dNil))) dNil))))) dNil)))) (dRet (dC (.bool false))) dNext)
    (dRet (dBin (kEqS false) (dCall kRepr (dCons (dTup (dCons (dCall S_p_is_rigid (dCons (dVar 9) dNil)) (dCons (dCall S_p_is_lead (dCons (dVar 9) dNil)) (dCons (dCall S_p_led_place (dCons (dVar 9) (dCons (dTup (dCons (dTup (dCons (dC (.int 1)) (dCons (dC (.int 1)) dNil))) (dCons (dVar 8) dNil))) dNil))) dNil)))) dNil)) (dCall kRepr (dCons (dTup (dCons (dC (.bool true)) (dCons (dC (.bool true)) (dCons (dTup (dCons (dVar 6) (dCons (dVar 7) dNil))) dNil)))) dNil))))))))))
def movesEnd : MS :=
    (dSeq (dIfS (dtVal (dBin (kEqS true) (dCall kRepr (dCons (dVar 9) dNil)) (dCall kRepr (dCons (dTup (dCons (dVar 6) (dCons (dVar 7) (dCons (dC (.bool false)) (dCons (dTup (dCons (dVar 8) (dCons (dVar 8) dNil))) dNil))))) dNil)))) (dRet (dC (.bool false))) dNext)
    (dRet (dBin (kEqS false) (dCall kRepr (dCons (dTup (dCons (dCall S_p_is_rigid (dCons (dVar 9) dNil)) (dCons (dCall S_p_is_lead (dCons (dVar 9) dNil)) (dCons (dCall S_p_led_place (dCons (dVar 9) (dCons (dTup (dCons (dTup (dCons (dC (.int 1)) (dCons (dC (.int 1)) dNil))) (dCons (dVar 8) dNil))) dNil))) dNil)))) dNil)) (dCall kRepr (dCons (dTup (dCons (dC (.bool true)) (dCons (dC (.bool true)) (dCons (dTup (dCons (dVar 6) (dCons (dVar 7) dNil))) dNil)))) dNil)))))
def mirTail : MS :=
    (dSeq (dAsg (dCall S_l_norm (dCons (dVar 3) (dCons (dVar 4) dNil))) (gdName 6))
    (dSeq (dPar 7 8 (dCons (dTup (dCons (dBin kIx (dVar 6) (dC (.int 1))) (dCons (dBin kIx (dVar 6) (dC (.int 0))) dNil))) (dCons (dCall S_l_sum (dCons (dCall S_l_product (dCons (dVar 4) (dCons (dVar 4) dNil))) (dCons (dCall S_l_product (dCons (dVar 3) (dCons (dTup (dCons (dBin kSub (dC (.int 0)) (dBin kIx (dVar 3) (dC (.int 0)))) (dCons (dBin kIx (dVar 3) (dC (.int 1))) dNil))) dNil))) dNil))) dNil)))
    (dSeq (dAsg (dCall S_l_product (dCons (dVar 7) (dCons (dCall S_l_product (dCons (dTup (dCons (dNeg (dC (.int 2))) (dCons (dC (.int 1)) dNil))) (dCons (dCall S_l_product (dCons (dVar 3) (dCons (dVar 4) dNil))) dNil))) dNil))) (gdName 9))
    (dSeq (dAsg (dCall S_l_product (dCons (dVar 7) (dCons (dCall S_l_product (dCons (dTup (dCons (dC (.int 2)) (dCons (dC (.int 1)) dNil))) (dCons (dVar 5) dNil))) dNil))) (gdName 10))
    (dSeq (dAsg (dTup (dCons (dCall S_l_product (dCons (dVar 7) (dCons (dVar 8) dNil))) (dCons (dVar 9) (dCons (dC (.bool true)) (dCons (dTup (dCons (dCall S_l_product (dCons (dVar 10) (dCons (dVar 3) dNil))) (dCons (dCall S_l_product (dCons (dVar 10) (dCons (dVar 4) dNil))) dNil))) dNil))))) (gdName 11))
    (dSeq (dPar 12 13 (dCons (dCall S_p_mirror (dCons (dVar 2) dNil)) (dCons (dTup (dCons (dCall S_l_small (dCons (dVar 0) dNil)) (dCons (dCall S_l_small (dCons (dVar 0) dNil)) dNil))) dNil)))
    (dSeq (dIfS (dtOr (dtVal (dBin (kEqS true) (dCall kRepr (dCons (dVar 12) dNil)) (dCall kRepr (dCons (dVar 11) dNil)))) (dtVal (dBin (kEqS true) (dCall kRepr (dCons (dCall (fun ds => S_p_mirror ds.reverse) (dCons (dVar 2) dNil)) dNil)) (dCall kRepr (dCons (dVar 11) dNil))))) (dRet (dC (.bool false))) dNext)
    (dSeq (dIfS (dtOr (dtVal (dBin (kEqS true) (dCall kRepr (dCons (dCall S_p_led_place (dCons (dVar 11) (dCons (dCall S_p_led_place (dCons (dVar 11) (dCons (dVar 13) dNil))) dNil))) dNil)) (dCall kRepr (dCons (dVar 13) dNil)))) (dtNot (dtVal (dCall S_p_is_rigid (dCons (dVar 11) dNil))))) (dRet (dC (.bool false))) dNext)
    (dSeq (dAsg (dTup (dCons (dCall S_l_product (dCons (dCall S_l_product (dCons (dVar 10) (dCons (dTup (dCons (dC (.int 1)) (dCons (dC (.int 2)) dNil))) dNil))) (dCons (dVar 3) dNil))) (dCons (dCall S_l_product (dCons (dCall S_l_product (dCons (dVar 10) (dCons (dTup (dCons (dC (.int 1)) (dCons (dC (.int 2)) dNil))) dNil))) (dCons (dVar 4) dNil))) dNil))) (gdName 14))
    (dRet (dBin (kEqS false) (dCall kRepr (dCons (dCall S_p_led_place (dCons (dVar 11) (dCons (dVar 14) dNil))) dNil)) (dCall kRepr (dCons (dVar 14) dNil)))))))))))))
def mirMid : MS :=
    (dSeq (dAsg (dCall S_l_product (dCons (dVar 7) (dCons (dCall S_l_product (dCons (dTup (dCons (dNeg (dC (.int 2))) (dCons (dC (.int 1)) dNil))) (dCons (dCall S_l_product (dCons (dVar 3) (dCons (dVar 4) dNil))) dNil))) dNil))) (gdName 9))
    (dSeq (dAsg (dCall S_l_product (dCons (dVar 7) (dCons (dCall S_l_product (dCons (dTup (dCons (dC (.int 2)) (dCons (dC (.int 1)) dNil))) (dCons (dVar 5) dNil))) dNil))) (gdName 10))
    (dSeq (dAsg (dTup (dCons (dCall S_l_product (dCons (dVar 7) (dCons (dVar 8) dNil))) (dCons (dVar 9) (dCons (dC (.bool true)) (dCons (dTup (dCons (dCall S_l_product (dCons (dVar 10) (dCons (dVar 3) dNil))) (dCons (dCall S_l_product (dCons (dVar 10) (dCons (dVar 4) dNil))) dNil))) dNil))))) (gdName 11))
    (dSeq (dPar 12 13 (dCons (dCall S_p_mirror (dCons (dVar 2) dNil)) (dCons (dTup (dCons (dCall S_l_small (dCons (dVar 0) dNil)) (dCons (dCall S_l_small (dCons (dVar 0) dNil)) dNil))) dNil)))
    (dSeq (dIfS (dtOr (dtVal (dBin (kEqS true) (dCall kRepr (dCons (dVar 12) dNil)) (dCall kRepr (dCons (dVar 11) dNil)))) (dtVal (dBin (kEqS true) (dCall kRepr (dCons (dCall (fun ds => S_p_mirror ds.reverse) (dCons (dVar 2) dNil)) dNil)) (dCall kRepr (dCons (dVar 11) dNil))))) (dRet (dC (.bool false))) dNext)
    (dSeq (dIfS (dtOr (dtVal (dBin (kEqS true) (dCall kRepr (dCons (dCall S_p_led_place (dCons (dVar 11) (dCons (dCall S_p_led_place (dCons (dVar 11) (dCons (dVar 13) dNil))) dNil))) dNil)) (dCall kRepr (dCons (dVar 13) dNil)))) (dtNot (dtVal (dCall S_p_is_rigid (dCons (dVar 11) dNil))))) (dRet (dC (.bool false))) dNext)
    (dSeq (dAsg (dTup (dCons (dCall S_l_product (dCons (dCall S_l_product (dCons (dVar 10) (dCons (dTup (dCons (dC (.int 1)) (dCons (dC (.int 2)) dNil))) dNil))) (dCons (dVar 3) dNil))) (dCons (dCall S_l_product (dCons (dCall S_l_product (dCons (dVar 10) (dCons (dTup (dCons (dC (.int 1)) (dCons (dC (.int 2)) dNil))) dNil))) (dCons (dVar 4) dNil))) dNil))) (gdName 14))
    (dRet (dBin (kEqS false) (dCall kRepr (dCons (dCall S_p_led_place (dCons (dVar 11) (dCons (dVar 14) dNil))) dNil)) (dCall kRepr (dCons (dVar 14) dNil)))))))))))
def mirDue : MS :=
    (dSeq (dPar 12 13 (dCons (dCall S_p_mirror (dCons (dVar 2) dNil)) (dCons (dTup (dCons (dCall S_l_small (dCons (dVar 0) dNil)) (dCons (dCall S_l_small (dCons (dVar 0) dNil)) dNil))) dNil)))
    (dSeq (dIfS (dtOr (dtVal (dBin (kEqS true) (dCall kRepr (dCons (dVar 12) dNil)) (dCall kRepr (dCons (dVar 11) dNil)))) (dtVal (dBin (kEqS true) (dCall kRepr (dCons (dCall (fun ds => S_p_mirror ds.reverse) (dCons (dVar 2) dNil)) dNil)) (dCall kRepr (dCons (dVar 11) dNil))))) (dRet (dC (.bool false))) dNext)
    (dSeq (dIfS (dtOr (dtVal (dBin (kEqS true) (dCall kRepr (dCons (dCall S_p_led_place (dCons (dVar 11) (dCons (dCall S_p_led_place (dCons (dVar 11) (dCons (dVar 13) dNil))) dNil))) dNil)) (dCall kRepr (dCons (dVar 13) dNil)))) (dtNot (dtVal (dCall S_p_is_rigid (dCons (dVar 11) dNil))))) (dRet (dC (.bool false))) dNext)
    (dSeq (dAsg (dTup (dCons (dCall S_l_product (dCons (dCall S_l_product (dCons (dVar 10) (dCons (dTup (dCons (dC (.int 1)) (dCons (dC (.int 2)) dNil))) dNil))) (dCons (dVar 3) dNil))) (dCons (dCall S_l_product (dCons (dCall S_l_product (dCons (dVar 10) (dCons (dTup (dCons (dC (.int 1)) (dCons (dC (.int 2)) dNil))) dNil))) (dCons (dVar 4) dNil))) dNil))) (gdName 14))
    (dRet (dBin (kEqS false) (dCall kRepr (dCons (dCall S_p_led_place (dCons (dVar 11) (dCons (dVar 14) dNil))) dNil)) (dCall kRepr (dCons (dVar 14) dNil))))))))
def mirEnd : MS :=
    (dSeq (dIfS (dtOr (dtVal (dBin (kEqS true) (dCall kRepr (dCons (dVar 12) dNil)) (dCall kRepr (dCons (dVar 11) dNil)))) (dtVal (dBin (kEqS true) (dCall kRepr (dCons (dCall (fun ds => S_p_mirror ds.reverse) (dCons (dVar 2) dNil)) dNil)) (dCall kRepr (dCons (dVar 11) dNil))))) (dRet (dC (.bool false))) dNext)
    (dSeq (dIfS (dtOr (dtVal (dBin (kEqS true) (dCall kRepr (dCons (dCall S_p_led_place (dCons (dVar 11) (dCons (dCall S_p_led_place (dCons (dVar 11) (dCons (dVar 13) dNil))) dNil))) dNil)) (dCall kRepr (dCons (dVar 13) dNil)))) (dtNot (dtVal (dCall S_p_is_rigid (dCons (dVar 11) dNil))))) (dRet (dC (.bool false))) dNext)
    (dSeq (dAsg (dTup (dCons (dCall S_l_product (dCons (dCall S_l_product (dCons (dVar 10) (dCons (dTup (dCons (dC (.int 1)) (dCons (dC (.int 2)) dNil))) dNil))) (dCons (dVar 3) dNil))) (dCons (dCall S_l_product (dCons (dCall S_l_product (dCons (dVar 10) (dCons (dTup (dCons (dC (.int 1)) (dCons (dC (.int 2)) dNil))) dNil))) (dCons (dVar 4) dNil))) dNil))) (gdName 14))
    (dRet (dBin (kEqS false) (dCall kRepr (dCons (dCall S_p_led_place (dCons (dVar 11) (dCons (dVar 14) dNil))) dNil)) (dCall kRepr (dCons (dVar 14) dNil)))))))
def mirFoot : MS :=
    (dSeq (dAsg (dTup (dCons (dCall S_l_product (dCons (dCall S_l_product (dCons (dVar 10) (dCons (dTup (dCons (dC (.int 1)) (dCons (dC (.int 2)) dNil))) dNil))) (dCons (dVar 3) dNil))) (dCons (dCall S_l_product (dCons (dCall S_l_product (dCons (dVar 10) (dCons (dTup (dCons (dC (.int 1)) (dCons (dC (.int 2)) dNil))) dNil))) (dCons (dVar 4) dNil))) dNil))) (gdName 14))
    (dRet (dBin (kEqS false) (dCall kRepr (dCons (dCall S_p_led_place (dCons (dVar 11) (dCons (dVar 14) dNil))) dNil)) (dCall kRepr (dCons (dVar 14) dNil)))))
theorem eqs_self {x y : Str} {P : Bool → Prop} (e : x = y) (h : P true) : P (decide (x = y)) := by
  rw [decide_eq_true e]
  exact h
theorem neg1 (p q : Rat) : [encQ p, PyData.tuple [.int (0 - q.num), .int q.den]] = [encQ p, encQ (-q)] := by rw [negQ]
theorem half_rt : (1 : Rat) / 2 = rt 1 2 := by decide +kernel
theorem mtwo_rt : (-2 : Rat) = rt (-2) 1 := by decide +kernel
section
variable {A Bb C D L Z DOT DUE MID : PyData} {xs ys zs : List PyData} {V V1 V2 V3 : List PyData → MD} {y0 y1 y2 y3 y4 y5 y6 y7 y8 y9 y10 y11 y12 y13 y14 y15 : Option PyData}
theorem mv1 (h1 : ∀ P : PyData → Prop, P (.tuple xs) → V [D] P) (e : xs = [.tuple [.int 1, .int 1], .tuple [.int 0, .int 1], .bool false, D]) (o : ShowOk (.tuple xs)) (P : Bool → Prop) (h : P false) : (dtVal (dBin (kEqS true) (dCall kRepr (dCons (dCall V (dCons (dVar 1) dNil)) dNil)) (dCall kRepr (dCons (dTup (dCons (dTup (dCons (dC (.int 1)) (dCons (dC (.int 1)) dNil))) (dCons (dTup (dCons (dC (.int 0)) (dCons (dC (.int 1)) dNil))) (dCons (dC (.bool false)) (dCons (dVar 1) dNil))))) dNil)))) [y0, some D, y2, y3, y4, y5, y6, y7, y8, y9] P := by
  have o' := o
  rw [e] at o'
  refine h1 _ ⟨o, le1000 rfl, le1000 rfl, le1000 rfl, o', ?_⟩
  exact ne_self (P := P) (x := (PyData.tuple xs).shown) (y := (PyData.tuple [.tuple [.int 1, .int 1], .tuple [.int 0, .int 1], .bool false, D]).shown) (by rw [e]) h
theorem mv8 (e : xs = [A, Bb, .bool false, .tuple [Z, Z]]) (o : ShowOk (.tuple xs)) (P : Bool → Prop) (h : P false) : (dtVal (dBin (kEqS true) (dCall kRepr (dCons (dVar 9) dNil)) (dCall kRepr (dCons (dTup (dCons (dVar 6) (dCons (dVar 7) (dCons (dC (.bool false)) (dCons (dTup (dCons (dVar 8) (dCons (dVar 8) dNil))) dNil))))) dNil)))) [y0, y1, y2, y3, y4, y5, some A, some Bb, some Z, some (.tuple xs)] P := by
  have o' := o
  rw [e] at o'
  refine ⟨o, le1000 rfl, le1000 rfl, o', ?_⟩
  exact ne_self (P := P) (x := (PyData.tuple xs).shown) (y := (PyData.tuple [A, Bb, .bool false, .tuple [Z, Z]]).shown) (by rw [e]) h
theorem mv9 {P : PyData → Prop} {R1 R2 R3 : PyData} (h1 : ∀ P : PyData → Prop, P R1 → V1 [L] P) (h2 : ∀ P : PyData → Prop, P R2 → V2 [L] P) (h3 : ∀ P : PyData → Prop, P R3 → V3 [L, .tuple [.tuple [.int 1, .int 1], Z]] P) (e1 : R1 = .bool true) (e2 : R2 = .bool true) (e3 : R3 = .tuple [A, Bb]) (o : ShowOk (.tuple [R1, R2, R3])) (h : P (.bool true)) :
    (dRet (dBin (kEqS false) (dCall kRepr (dCons (dTup (dCons (dCall V1 (dCons (dVar 9) dNil)) (dCons (dCall V2 (dCons (dVar 9) dNil)) (dCons (dCall V3 (dCons (dVar 9) (dCons (dTup (dCons (dTup (dCons (dC (.int 1)) (dCons (dC (.int 1)) dNil))) (dCons (dVar 8) dNil))) dNil))) dNil)))) dNil)) (dCall kRepr (dCons (dTup (dCons (dC (.bool true)) (dCons (dC (.bool true)) (dCons (dTup (dCons (dVar 6) (dCons (dVar 7) dNil))) dNil)))) dNil)))) [y0, y1, y2, y3, y4, y5, some A, some Bb, some Z, some L] (fun _ => P .none) P := by
  have o' := o
  rw [e1, e2, e3] at o'
  show V1 [L] _
  refine h1 _ ?_
  show V2 [L] _
  refine h2 _ ⟨le1000 rfl, le1000 rfl, ?_⟩
  show V3 [L, _] _
  refine h3 _ ⟨le1000 rfl, o, le1000 rfl, le1000 rfl, o', ?_⟩
  exact eqs_self (P := fun c => P (.bool c)) (x := (PyData.tuple [R1, R2, R3]).shown) (y := (PyData.tuple [.bool true, .bool true, .tuple [A, Bb]]).shown) (by rw [e1, e2, e3]) h
theorem mi10 (h1 : ∀ P : PyData → Prop, P (.tuple xs) → V [C] P) (o : ShowOk (.tuple xs)) (P : Bool → Prop) (h : P false) : (dtOr (dtVal (dBin (kEqS true) (dCall kRepr (dCons (dVar 12) dNil)) (dCall kRepr (dCons (dVar 11) dNil)))) (dtVal (dBin (kEqS true) (dCall kRepr (dCons (dCall (fun ds => V ds.reverse) (dCons (dVar 2) dNil)) dNil)) (dCall kRepr (dCons (dVar 11) dNil))))) [y0, y1, some C, y3, y4, y5, y6, y7, y8, y9, y10, some (.tuple xs), some (.tuple xs), y13, y14, y15] P := by
  refine ⟨o, o, cho_s rfl ?_⟩
  show V [C] _
  exact h1 _ ⟨o, o, ne_self rfl h⟩
theorem mi11 (h1 : ∀ P : PyData → Prop, P MID → V [DUE, .tuple xs] P) (h2 : ∀ P : PyData → Prop, P (.tuple xs) → V [DUE, MID] P) (h3 : ∀ P : PyData → Prop, P (.bool true) → V1 [DUE] P) (o : ShowOk (.tuple xs)) (P : Bool → Prop) (h : P false) :
    (dtOr (dtVal (dBin (kEqS true) (dCall kRepr (dCons (dCall V (dCons (dVar 11) (dCons (dCall V (dCons (dVar 11) (dCons (dVar 13) dNil))) dNil))) dNil)) (dCall kRepr (dCons (dVar 13) dNil)))) (dtNot (dtVal (dCall V1 (dCons (dVar 11) dNil))))) [y0, y1, y2, y3, y4, y5, y6, y7, y8, y9, y10, some DUE, y12, some (.tuple xs), y14, y15] P := by
  show V [DUE, .tuple xs] _
  refine h1 _ ?_
  show V [DUE, MID] _
  refine h2 _ ⟨o, o, cho_s rfl ?_⟩
  show V1 [DUE] _
  exact h3 _ h
theorem mi13 {P : PyData → Prop} (h1 : ∀ P : PyData → Prop, P (.tuple xs) → V [DUE, .tuple xs] P) (o : ShowOk (.tuple xs)) (h : P (.bool true)) :
    (dRet (dBin (kEqS false) (dCall kRepr (dCons (dCall V (dCons (dVar 11) (dCons (dVar 14) dNil))) dNil)) (dCall kRepr (dCons (dVar 14) dNil)))) [y0, y1, y2, y3, y4, y5, y6, y7, y8, y9, y10, some DUE, y12, y13, some (.tuple xs), y15] (fun _ => P .none) P := by
  show V [DUE, .tuple xs] _
  refine h1 _ ⟨o, o, ?_⟩
  exact eqs_self (P := fun c => P (.bool c)) rfl h
end
section
variable {p q x y : Rat} {y0 y1 y2 y3 y4 y5 y6 y7 y8 y9 : Option PyData}
theorem turn_pt {P : PyData → Prop} (hl : LB (turnL p q)) (h : P (.tuple [encQ (turnL p q).a, encQ (turnL p q).b])) : S_p_led_place [encL (turnL p q), encP 1 0] P := by
  refine led_pt (l := turnL p q) (x := 1) (y := 0) hl one_b zero_b (by decide) (by decide) ?_
  have e1 : (turnL p q).cx 1 0 + (turnL p q).x = (turnL p q).a := by
    show (turnL p q).a * 1 - (turnL p q).b * 0 + 0 = _
    grind
  have e2 : (turnL p q).cy 1 0 + (turnL p q).y = (turnL p q).b := by
    show (turnL p q).a * 0 + (turnL p q).b * 1 + 0 = _
    grind
  rw [e1, e2]
  exact h
theorem moves_end {P : PyData → Prop} (hl : LB (turnL p q)) (hn : (turnL p q).n = 1) (h : P (.bool true)) : movesEnd [y0, y1, y2, y3, y4, y5, some (encQ (turnL p q).a), some (encQ (turnL p q).b), some dZero, some (encL (turnL p q))] (fun _ => P .none) P := by
  have o : ShowOk (encL (turnL p q)) := (shn_L hl).ok (by decide) (by decide)
  have o2 : ShowOk (.tuple [.bool true, .bool true, encP (turnL p q).a (turnL p q).b]) := (shn_tup (shn_cons (shn_bool true) (shn_cons (shn_bool true) (shn_cons (shn_P hl.ha hl.hb (by decide) (by decide)) shn_nil)))).ok (by decide) (by decide)
  have h1 : ∀ P : PyData → Prop, P (.bool true) → S_p_is_rigid [encL (turnL p q)] P := fun P h => ⟨turnL p q, rfl, hl, by show P (.bool (decide ((turnL p q).n = 1))); rw [decide_eq_true hn]; exact h⟩
  have h2 : ∀ P : PyData → Prop, P (.bool true) → S_p_is_lead [encL (turnL p q)] P := fun P h => ⟨turnL p q, rfl, hl, h⟩
  have h3 : ∀ P : PyData → Prop, P (.tuple [encQ (turnL p q).a, encQ (turnL p q).b]) → S_p_led_place [encL (turnL p q), .tuple [.tuple [.int 1, .int 1], dZero]] P := fun P h => turn_pt hl h
  unfold movesEnd
  refine ifs_seg (mv8 (xs := [encQ (turnL p q).a, encQ (turnL p q).b, .bool (turnL p q).m, encP (turnL p q).x (turnL p q).y]) rfl o) ?_
  exact mv9 (R1 := .bool true) (R2 := .bool true) (R3 := .tuple [encQ (turnL p q).a, encQ (turnL p q).b]) h1 h2 h3 rfl rfl rfl o2 h
theorem moves_tail {P : PyData → Prop} (hp : B 18 3 p) (hq : B 18 3 q) (nz : p ≠ 0 ∨ q ≠ 0) (h : P (.bool true)) : movesTail [some dWell, y1, some (encQ p), some (encQ q), none, none, none, none, none, none] (fun _ => P .none) P := by
  have np := norm_pos nz
  have hl := turn_lb hp hq nz
  have hn := turn_n nz
  have bn : B 43 12 (p * p + q * q) := by walk_at "bm"
  have bt : B 13 44 (1 / (p * p + q * q)) := (B.div one_b bn np).mono (by decide) (by decide)
  unfold movesTail
  refine ⟨(p, q), rfl, ⟨18, 3, ⟨hp, hq⟩, by decide, by decide⟩, le1000 rfl, ?_⟩
  walk_at "en"
  rw [show PyData.tuple [.int ((p * p + q * q).den : Int), .int (p * p + q * q).num] = encQ (1 / (p * p + q * q)) from inv_data np]
  have ea : 1 / (p * p + q * q) * (p * p + q * -q) = (turnL p q).a := by
    show _ = (p * p - q * q) * (1 / (p * p + q * q))
    generalize 1 / (p * p + q * q) = t
    grind
  have eb : 1 / (p * p + q * q) * (2 * (p * q)) = (turnL p q).b := by
    show _ = (p * q + q * p) * (1 / (p * p + q * q))
    generalize 1 / (p * p + q * q) = t
    grind
  generalize 1 / (p * p + q * q) = t at *
  have o1 : OkL p p := by walk_at "okl"
  have o2 : OkL q (-q) := by walk_at "okl"
  have o3 : OkL (p * p) (q * -q) := by walk_at "okl"
  have o4 : OkL t (p * p + q * -q) := by walk_at "okl"
  have o5 : OkL p q := by walk_at "okl"
  have o6 : OkL 2 (p * q) := by walk_at "okl"
  have o7 : OkL t (2 * (p * q)) := by walk_at "okl"
  refine ⟨(p, p), rfl, o1, le1000 rfl, (q, -q), neg1 q q, o2, (p * p, q * -q), rfl, o3, (t, p * p + q * -q), rfl, o4, ?_⟩
  walk_at "en"
  refine ⟨le1000 rfl, (p, q), rfl, o5, (2, p * q), rfl, o6, (t, 2 * (p * q)), rfl, o7, le1000 rfl, ?_⟩
  walk_at "en"
  rw [ea, eb]
  have fin := fun (y4 y5 : Option PyData) => moves_end (y0 := some dWell) (y1 := y1) (y2 := some (encQ p)) (y3 := some (encQ q)) (y4 := y4) (y5 := y5) hl hn h
  unfold movesEnd at fin
  have hpb : PB 60 60 (p, q) := ⟨hp.mono (by decide) (by decide), hq.mono (by decide) (by decide)⟩
  refine ⟨2, rfl, by decide, ?_⟩
  rintro _ ⟨i, hi, rfl⟩
  refine cho_2 (c := decide (i = 0)) (fun _ => ?_) (fun _ => ?_)
  · exact ⟨le1000 rfl, (p, q), rfl, ⟨hpb, nz⟩, fin _ _⟩
  · exact ⟨le1000 rfl, (p, q), rfl, ⟨hpb, nz⟩, fin _ _⟩
end
theorem sem_l_moves {ds : List PyData} {P : PyData → Prop} : S_l_moves ds P → m_l_moves (startD N_l_moves ds) (fun _ => P .none) P := by
  rintro ⟨_, rfl, _, h⟩
  have h : P (.bool true) := h
  refine ⟨(), rfl, trivial, ?_⟩
  rintro _ ⟨x, hx, rfl⟩
  refine ⟨(), rfl, trivial, ?_⟩
  rintro _ ⟨y, hy, rfl⟩
  refine ⟨le1000 rfl, (), rfl, trivial, ?_⟩
  rintro _ ⟨p, hp, rfl⟩
  refine ⟨(), rfl, trivial, ?_⟩
  rintro _ ⟨q, hq, rfl⟩
  walk_at "en"
  have lb : LB ⟨1, 0, false, x, y⟩ := ⟨one_b.mono (by decide) (by decide), zero_b.mono (by decide) (by decide), hx.mono (by decide) (by decide), hy.mono (by decide) (by decide), .inl (show (1 : Rat) ≠ 0 by decide)⟩
  have o : ShowOk (.tuple [encQ 1, encQ 0, .bool false, encP x y]) := (shn_L lb).ok (by decide) (by decide)
  refine ifs_seg (mv1 (xs := [encQ 1, encQ 0, .bool false, encP x y]) (fun P h => ⟨(x, y), rfl, trivial, h⟩) rfl o) ?_
  have last := fun nz => moves_tail (p := p) (q := q) (y1 := some (enc2 (x, y))) hp hq nz h
  unfold movesTail at last
  refine cho_2 (c := decide (p.num = 0)) (fun _ => ?_) (fun e => ?_)
  · refine cho_2 (c := decide (q.num = 0)) (fun _ => h) (fun e => ?_)
    dsimp only [dNext]
    exact last (.inr fun z => by rw [z] at e; exact absurd e (by decide))
  · refine cho_f rfl ?_
    dsimp only [dNext]
    exact last (.inl fun z => by rw [z] at e; exact absurd e (by decide))
/-! ### mirrors -/
structure MirOk (a b c : Rat) : Prop where
  ha : B 13 3 a
  hb : B 13 3 b
  hc : B 42 3 c
  nz : a ≠ 0 ∨ b ≠ 0
  lb : LB (mirrorL a b c)
theorem MirOk.bt {a b c : Rat} (k : MirOk a b c) : B 13 34 (1 / (a * a + b * b)) := by
  have ha := k.ha
  have hb := k.hb
  have np := norm_pos k.nz
  have bn : B 33 12 (a * a + b * b) := by walk_at "bm"
  exact (B.div one_b bn np).mono (by decide) (by decide)
theorem MirOk.cb {a b c : Rat} (k : MirOk a b c) : CB (.line a b c) := ⟨⟨k.ha.mono (by decide) (by decide), k.hb.mono (by decide) (by decide), k.hc.mono (by decide) (by decide)⟩, k.nz⟩
theorem led_bd {l : Lead} {x y : Rat} (h : LB l) (hx : B 18 3 x) (hy : B 18 3 y) : B 156 138 (l.cx x y + l.x) ∧ B 156 138 (l.cy x y + l.y) := by
  have ha := h.ha
  have hb := h.hb
  have kx := h.hx
  have ky := h.hy
  unfold Lead.cx Lead.cy
  constructor
  · walk_at "bm"
  · walk_at "bm"
section
variable {a b c x y : Rat} {y0 y1 y2 y3 y4 y5 y6 y7 y8 y9 y12 y13 : Option PyData} {P : PyData → Prop}
theorem mir_foot (k : MirOk a b c) (h : P (.bool true)) : mirFoot [y0, y1, y2, some (encQ a), some (encQ b), y5, y6, y7, y8, y9, some (encQ (1 / (a * a + b * b) * (2 * c))), some (encL (mirrorL a b c)), y12, y13, none, none] (fun _ => P .none) P := by
  have ha := k.ha
  have hb := k.hb
  have hc := k.hc
  have bt := k.bt
  have hl := k.lb
  obtain ⟨f1, f2⟩ := mirror_foot (a := a) (b := b) (c := c) k.nz
  rw [half_rt] at f1 f2
  generalize mirrorL a b c = L at *
  generalize 1 / (a * a + b * b) = t at *
  have bh : B 1 2 (rt 1 2) := ⟨by decide, by decide⟩
  have hw : encQ (rt 1 2) = .tuple [.int 1, .int 2] := rfl
  generalize rt 1 2 = w at *
  have o1 : OkL (t * (2 * c)) w := by walk_at "okl"
  have o2 : OkL (t * (2 * c) * w) a := by walk_at "okl"
  have o3 : OkL (t * (2 * c) * w) b := by walk_at "okl"
  have bX : B 90 60 (t * (2 * c) * w * a) := by walk_at "bm"
  have bY : B 90 60 (t * (2 * c) * w * b) := by walk_at "bm"
  have e1 : [encQ (t * (2 * c)), PyData.tuple [.int 1, .int 2]] = [encQ (t * (2 * c)), encQ w] := by rw [hw]
  unfold mirFoot
  refine ⟨le1000 rfl, (t * (2 * c), w), e1, o1, (t * (2 * c) * w, a), rfl, o2, le1000 rfl, (t * (2 * c), w), e1, o1, (t * (2 * c) * w, b), rfl, o3, le1000 rfl, ?_⟩
  walk_at "en"
  have o : ShowOk (encP (t * (2 * c) * w * a) (t * (2 * c) * w * b)) := (shn_P bX bY (by decide) (by decide)).ok (by decide) (by decide)
  exact mi13 (xs := [encQ (t * (2 * c) * w * a), encQ (t * (2 * c) * w * b)]) (fun P h => led_pt hl bX bY (by decide) (by decide) (by rw [f1, f2]; exact h)) o h
theorem mir_end (k : MirOk a b c) (hx : B 18 3 x) (hy : B 18 3 y) (h : P (.bool true)) : mirEnd [y0, y1, some (encC (.line a b c)), some (encQ a), some (encQ b), y5, y6, y7, y8, y9, some (encQ (1 / (a * a + b * b) * (2 * c))), some (encL (mirrorL a b c)), some (encL (mirrorL a b c)), some (encP x y), none, none] (fun _ => P .none) P := by
  have hl := k.lb
  have hn := mirror_n (c := c) k.nz
  have o : ShowOk (encL (mirrorL a b c)) := (shn_L hl).ok (by decide) (by decide)
  have o2 : ShowOk (encP x y) := (shn_P hx hy (by decide) (by decide)).ok (by decide) (by decide)
  obtain ⟨f1, f2⟩ := mirror_twice (a := a) (b := b) (c := c) k.nz x y
  obtain ⟨b1, b2⟩ := led_bd hl hx hy
  have last := fun (y12 y13 : Option PyData) => mir_foot (y0 := y0) (y1 := y1) (y2 := some (encC (.line a b c))) (y5 := y5) (y6 := y6) (y7 := y7) (y8 := y8) (y9 := y9) (y12 := y12) (y13 := y13) k h
  unfold mirFoot at last
  have m1 : ∀ P : PyData → Prop, P (encL (mirrorL a b c)) → S_p_mirror [encC (.line a b c)] P := fun P h => ⟨(a, b, c), rfl, k.cb, h⟩
  have m2 : ∀ P : PyData → Prop, P (encP ((mirrorL a b c).cx x y + (mirrorL a b c).x) ((mirrorL a b c).cy x y + (mirrorL a b c).y)) → S_p_led_place [encL (mirrorL a b c), encP x y] P := fun P h => led_pt hl hx hy (by decide) (by decide) h
  have m3 : ∀ P : PyData → Prop, P (encP x y) → S_p_led_place [encL (mirrorL a b c), encP ((mirrorL a b c).cx x y + (mirrorL a b c).x) ((mirrorL a b c).cy x y + (mirrorL a b c).y)] P := fun P h => led_pt hl b1 b2 (by decide) (by decide) (by rw [f1, f2]; exact h)
  have m4 : ∀ P : PyData → Prop, P (.bool true) → S_p_is_rigid [encL (mirrorL a b c)] P := fun P h => ⟨mirrorL a b c, rfl, hl, by show P (.bool (decide ((mirrorL a b c).n = 1))); rw [decide_eq_true hn]; exact h⟩
  clear f1 f2 hn
  generalize mirrorL a b c = L at *
  unfold mirEnd
  refine ifs_seg (mi10 (xs := [encQ L.a, encQ L.b, .bool L.m, encP L.x L.y]) m1 o) ?_
  refine ifs_seg (mi11 (xs := [encQ x, encQ y]) m2 m3 m4 o2) ?_
  exact last _ _
theorem mir_due (k : MirOk a b c) (h : P (.bool true)) : mirDue [some dWell, y1, some (encC (.line a b c)), some (encQ a), some (encQ b), y5, y6, y7, y8, y9, some (encQ (1 / (a * a + b * b) * (2 * c))), some (encL (mirrorL a b c)), none, none, none, none] (fun _ => P .none) P := by
  have last := fun (x y : Rat) (hx : B 18 3 x) (hy : B 18 3 y) => mir_end (y0 := some dWell) (y1 := y1) (y5 := y5) (y6 := y6) (y7 := y7) (y8 := y8) (y9 := y9) k hx hy h
  unfold mirEnd at last
  unfold mirDue
  refine ⟨(a, b, c), rfl, k.cb, (), rfl, trivial, ?_⟩
  rintro _ ⟨x, hx, rfl⟩
  refine ⟨(), rfl, trivial, ?_⟩
  rintro _ ⟨y, hy, rfl⟩
  refine ⟨le1000 rfl, ?_⟩
  walk_at "en"
  exact last x y hx hy
theorem mir_mid (k : MirOk a b c) (h : P (.bool true)) : mirMid [some dWell, y1, some (encC (.line a b c)), some (encQ a), some (encQ b), some (encQ c), y6, some (encQ (1 / (a * a + b * b))), some (encQ (b * b + a * -a)), none, none, none, none, none, none, none] (fun _ => P .none) P := by
  have ha := k.ha
  have hb := k.hb
  have hc := k.hc
  have bt := k.bt
  have last := fun (y9 : Option PyData) => mir_due (y1 := y1) (y5 := some (encQ c)) (y6 := y6) (y7 := some (encQ (1 / (a * a + b * b)))) (y8 := some (encQ (b * b + a * -a))) (y9 := y9) k h
  unfold mirDue at last
  have hdue : PyData.tuple [encQ (1 / (a * a + b * b) * (b * b + a * -a)), encQ (1 / (a * a + b * b) * (rt (-2) 1 * (a * b))), .bool true, .tuple [encQ (1 / (a * a + b * b) * (2 * c) * a), encQ (1 / (a * a + b * b) * (2 * c) * b)]] = encL (mirrorL a b c) := by
    have k1 : -1 / (a * a + b * b) = -(1 / (a * a + b * b)) := by grind
    have k2 : 2 * c / (a * a + b * b) = 2 * c * (1 / (a * a + b * b)) := by grind
    have e1 : 1 / (a * a + b * b) * (b * b + a * -a) = (a * a - b * b) * (-1 / (a * a + b * b)) := by
      rw [k1]
      generalize 1 / (a * a + b * b) = t
      grind
    have e2 : 1 / (a * a + b * b) * (rt (-2) 1 * (a * b)) = (a * b + b * a) * (-1 / (a * a + b * b)) := by
      rw [k1, ← mtwo_rt]
      generalize 1 / (a * a + b * b) = t
      grind
    have e3 : 1 / (a * a + b * b) * (2 * c) * a = a * (2 * c / (a * a + b * b)) := by
      rw [k2]
      generalize 1 / (a * a + b * b) = t
      grind
    have e4 : 1 / (a * a + b * b) * (2 * c) * b = b * (2 * c / (a * a + b * b)) := by
      rw [k2]
      generalize 1 / (a * a + b * b) = t
      grind
    rw [e1, e2, e3, e4]
    rfl
  generalize mirrorL a b c = L at *
  generalize 1 / (a * a + b * b) = t at *
  have bm : B 2 1 (rt (-2) 1) := ⟨by decide, by decide⟩
  have hw : encQ (rt (-2) 1) = .tuple [.int (-2), .int 1] := rfl
  generalize rt (-2) 1 = w at *
  have o1 : OkL a b := by walk_at "okl"
  have o2 : OkL w (a * b) := by walk_at "okl"
  have o3 : OkL t (w * (a * b)) := by walk_at "okl"
  have o4 : OkL 2 c := by walk_at "okl"
  have o5 : OkL t (2 * c) := by walk_at "okl"
  have o6 : OkL t (b * b + a * -a) := by walk_at "okl"
  have o7 : OkL (t * (2 * c)) a := by walk_at "okl"
  have o8 : OkL (t * (2 * c)) b := by walk_at "okl"
  have e1 : [PyData.tuple [.int (-2), .int 1], encQ (a * b)] = [encQ w, encQ (a * b)] := by rw [hw]
  unfold mirMid
  refine ⟨le1000 rfl, (a, b), rfl, o1, (w, a * b), e1, o2, (t, w * (a * b)), rfl, o3, ?_⟩
  walk_at "en"
  refine ⟨le1000 rfl, (2, c), rfl, o4, (t, 2 * c), rfl, o5, ?_⟩
  walk_at "en"
  refine ⟨(t, b * b + a * -a), rfl, o6, (t * (2 * c), a), rfl, o7, (t * (2 * c), b), rfl, o8, le1000 rfl, le1000 rfl, ?_⟩
  walk_at "en"
  rw [hdue]
  exact last _
theorem mir_tail (k : MirOk a b c) (h : P (.bool true)) : mirTail [some dWell, y1, some (encC (.line a b c)), some (encQ a), some (encQ b), some (encQ c), none, none, none, none, none, none, none, none, none, none] (fun _ => P .none) P := by
  have ha := k.ha
  have hb := k.hb
  have np := norm_pos k.nz
  have last := fun (y6 : Option PyData) => mir_mid (y1 := y1) (y6 := y6) k h
  unfold mirMid at last
  have o1 : OkL b b := by walk_at "okl"
  have o2 : OkL a (-a) := by walk_at "okl"
  have o3 : OkL (b * b) (a * -a) := by walk_at "okl"
  unfold mirTail
  refine ⟨(a, b), rfl, ⟨13, 3, ⟨ha, hb⟩, by decide, by decide⟩, ?_⟩
  walk_at "en"
  refine ⟨le1000 rfl, (b, b), rfl, o1, le1000 rfl, (a, -a), neg1 a a, o2, (b * b, a * -a), rfl, o3, ?_⟩
  walk_at "en"
  rw [show PyData.tuple [.int ((a * a + b * b).den : Int), .int (a * a + b * b).num] = encQ (1 / (a * a + b * b)) from inv_data np]
  exact last _
end
theorem sem_l_mirrors {ds : List PyData} {P : PyData → Prop} : S_l_mirrors ds P → m_l_mirrors (startD N_l_mirrors ds) (fun _ => P .none) P := by
  rintro ⟨_, rfl, _, h⟩
  have h : P (.bool true) := h
  have rest : ∀ r : Rat, B 2 2 r → r ≠ 0 → ∀ d : PyData, d = encQ r → (dSeq (dAsg (dCall S_l_line (dCons (dVar 0) (dCons (dTup (dCons (dCall S_l_small (dCons (dVar 0) dNil)) (dCons (dCall S_l_small (dCons (dVar 0) dNil)) dNil))) (dCons (dTup (dCons (dTup (dCons (dC (.int 1)) (dCons (dC (.int 1)) dNil))) (dCons (dTup (dCons (dC (.int 1)) (dCons (dC (.int 1)) dNil))) dNil))) dNil)))) (gdName 2))
    (dSeq (dAsg (dBin kCatT (dTup (dCons (dC (.str "line")) dNil)) (dCall kTuple (dCons (dLcT 15 (dCut (some 1) none (dVar 2)) dtYes (dCall S_l_product (dCons (dVar 1) (dCons (dVar 15) dNil)))) dNil))) (gdName 2))
    (dSeq (dAsg (dCut (some 1) none (dVar 2)) (gdTup 3 (gdCons (gdName 3) (gdCons (gdName 4) (gdCons (gdName 5) gdNil)))))
    (dSeq (dAsg (dCall S_l_norm (dCons (dVar 3) (dCons (dVar 4) dNil))) (gdName 6))
    (dSeq (dPar 7 8 (dCons (dTup (dCons (dBin kIx (dVar 6) (dC (.int 1))) (dCons (dBin kIx (dVar 6) (dC (.int 0))) dNil))) (dCons (dCall S_l_sum (dCons (dCall S_l_product (dCons (dVar 4) (dCons (dVar 4) dNil))) (dCons (dCall S_l_product (dCons (dVar 3) (dCons (dTup (dCons (dBin kSub (dC (.int 0)) (dBin kIx (dVar 3) (dC (.int 0)))) (dCons (dBin kIx (dVar 3) (dC (.int 1))) dNil))) dNil))) dNil))) dNil)))
    (dSeq (dAsg (dCall S_l_product (dCons (dVar 7) (dCons (dCall S_l_product (dCons (dTup (dCons (dNeg (dC (.int 2))) (dCons (dC (.int 1)) dNil))) (dCons (dCall S_l_product (dCons (dVar 3) (dCons (dVar 4) dNil))) dNil))) dNil))) (gdName 9))
    (dSeq (dAsg (dCall S_l_product (dCons (dVar 7) (dCons (dCall S_l_product (dCons (dTup (dCons (dC (.int 2)) (dCons (dC (.int 1)) dNil))) (dCons (dVar 5) dNil))) dNil))) (gdName 10))
    (dSeq (dAsg (dTup (dCons (dCall S_l_product (dCons (dVar 7) (dCons (dVar 8) dNil))) (dCons (dVar 9) (dCons (dC (.bool true)) (dCons (dTup (dCons (dCall S_l_product (dCons (dVar 10) (dCons (dVar 3) dNil))) (dCons (dCall S_l_product (dCons (dVar 10) (dCons (dVar 4) dNil))) dNil))) dNil))))) (gdName 11))
    (dSeq (dPar 12 13 (dCons (dCall S_p_mirror (dCons (dVar 2) dNil)) (dCons (dTup (dCons (dCall S_l_small (dCons (dVar 0) dNil)) (dCons (dCall S_l_small (dCons (dVar 0) dNil)) dNil))) dNil)))
    (dSeq (dIfS (dtOr (dtVal (dBin (kEqS true) (dCall kRepr (dCons (dVar 12) dNil)) (dCall kRepr (dCons (dVar 11) dNil)))) (dtVal (dBin (kEqS true) (dCall kRepr (dCons (dCall (fun ds => S_p_mirror ds.reverse) (dCons (dVar 2) dNil)) dNil)) (dCall kRepr (dCons (dVar 11) dNil))))) (dRet (dC (.bool false))) dNext)
    (dSeq (dIfS (dtOr (dtVal (dBin (kEqS true) (dCall kRepr (dCons (dCall S_p_led_place (dCons (dVar 11) (dCons (dCall S_p_led_place (dCons (dVar 11) (dCons (dVar 13) dNil))) dNil))) dNil)) (dCall kRepr (dCons (dVar 13) dNil)))) (dtNot (dtVal (dCall S_p_is_rigid (dCons (dVar 11) dNil))))) (dRet (dC (.bool false))) dNext)
    (dSeq (dAsg (dTup (dCons (dCall S_l_product (dCons (dCall S_l_product (dCons (dVar 10) (dCons (dTup (dCons (dC (.int 1)) (dCons (dC (.int 2)) dNil))) dNil))) (dCons (dVar 3) dNil))) (dCons (dCall S_l_product (dCons (dCall S_l_product (dCons (dVar 10) (dCons (dTup (dCons (dC (.int 1)) (dCons (dC (.int 2)) dNil))) dNil))) (dCons (dVar 4) dNil))) dNil))) (gdName 14))
    (dRet (dBin (kEqS false) (dCall kRepr (dCons (dCall S_p_led_place (dCons (dVar 11) (dCons (dVar 14) dNil))) dNil)) (dCall kRepr (dCons (dVar 14) dNil)))))))))))))))) [some dWell, some d, none, none, none, none, none, none, none, none, none, none, none, none, none, none] (fun _ => P .none) P := by
    rintro r hr rz _ rfl
    refine ⟨(), rfl, trivial, ?_⟩
    rintro _ ⟨x, hx, rfl⟩
    refine ⟨(), rfl, trivial, ?_⟩
    rintro _ ⟨y, hy, rfl⟩
    refine ⟨le1000 rfl, le1000 rfl, le1000 rfl, le1000 rfl, ((x, y), (1, 1)), rfl, ⟨⟨hx, hy⟩, ⟨one_b.mono (by decide) (by decide), one_b.mono (by decide) (by decide)⟩, .inl (show (1 : Rat) ≠ 0 by decide)⟩, ?_⟩
    rintro _ ⟨a, b, c, ⟨⟨ha, hb, hc⟩, hz⟩, rfl⟩
    walk_at "en"
    have o1 : OkL r a := by walk_at "okl"
    have o2 : OkL r b := by walk_at "okl"
    have o3 : OkL r c := by walk_at "okl"
    have k1 : B 13 3 (r * a) := by walk_at "bm"
    have k2 : B 13 3 (r * b) := by walk_at "bm"
    have k3 : B 42 3 (r * c) := by walk_at "bm"
    have kn : r * a ≠ 0 ∨ r * b ≠ 0 := by
      rcases hz with y | y
      · exact .inl fun e => (Rat.mul_eq_zero.mp e).elim rz y
      · exact .inr fun e => (Rat.mul_eq_zero.mp e).elim rz y
    have k : MirOk (r * a) (r * b) (r * c) := ⟨k1, k2, k3, kn, by rw [mirror_scale rz hz]; exact mirror_lb ha hb hc hz⟩
    have last := mir_tail (y1 := some (encQ r)) k h
    unfold mirTail at last
    refine ⟨le1000 rfl, cutL rfl, le1000 rfl, (r, a), rfl, o1, (r, b), rfl, o2, (r, c), rfl, o3, le1000 rfl, ⟨neN rfl, le1000 rfl, le1000 rfl⟩, ?_⟩
    walk_at "en"
    refine ⟨cutL rfl, rfl, ?_⟩
    walk_at "en"
    exact last
  refine ⟨le1000 rfl, le1000 rfl, le1000 rfl, le1000 rfl, le1000 rfl, ⟨false, _⟩, rfl, List.cons_ne_nil _ _, ?_⟩
  refine allc (rest (rt 1 1) ⟨by decide, by decide⟩ (by decide) _ rfl) ?_
  refine allc (rest (rt (-1) 1) ⟨by decide, by decide⟩ (by decide) _ rfl) ?_
  refine allc (rest (rt 1 2) ⟨by decide, by decide⟩ (by decide) _ rfl) ?_
  exact allc (rest (rt 3 1) ⟨by decide, by decide⟩ (by decide) _ rfl) alln
end GD
end

section
set_option Elab.async false
set_option linter.all false
set_option maxRecDepth 100000
/-! HA: a def by hand keeps its promise by data; a call by hand of such a def; one list that is set apart and changed. -/
namespace GD
open PySem PySem.Spec PyProof.Rows L2
/-! ### promises by hand -/
structure FnH (P : Program) (w : World) (K : PySem.W.Frag) (mg : Str → Option Value) (base : Heap) (k : Nat) (f : Addr) (fd : FuncData) (ps : List Str) (sp : List V → Hp → VK → Prop) : Prop where
  run : ∀ (A : Around) (outer : List Env) (s : Shared) (H : Hp) (args : Args) (us : List Value) (vs : List V) (Q : VK), Room k A → A.guards = some [] → Env0 P w K mg base A outer s H → BindsTo s fd args (ps.zip us) → Vals vs us → sp vs H Q →
    codeAny (model P w) A (.call (.ref f) args) (CR CX0 outer P w H s Q E0) s
section
variable {P : Program} {w : World} {K : PySem.W.Frag} {mg : Str → Option Value} {base : Heap} {x qual : Str} {params : Arguments} {body : List Stmt} {scope : Scope} {f : Addr} {fd : FuncData} {N ps : List Str} {k : Nat} {S : List PyData → MD} {sp : List V → Hp → VK → Prop}
/-- a def keeps its promise by the reading of its body -/
theorem fn_okH (F : FunD K x qual params body scope [] [] f fd) (sc : FnScope N ps scope) (len : ∀ vs H Q, sp vs H Q → vs.length = ps.length)
    (hb : ∀ (cdv : Value) (A : Around) (outer : List Env) (s : Shared) (H : Hp), Room k (A.deeper (envOfC qual scope s.heap.objs.size f cdv)) → (A.deeper (envOfC qual scope s.heap.objs.size f cdv)).guards = some [] →
      ∃ t : TS, PSs (cxOf CX0 P w K mg base N qual scope f cdv A outer s H E0) body t ∧ ∀ vs Q, sp vs H Q → t { nx := fun _ H' => Q .non H', rt := Q } (L2.start N vs) H) : FnH P w K mg base (k + 1) f fd ps sp := by
  obtain ⟨oc, od, dV, kV, doc, pm, an, cdv, ct, osl, rfl, lk, hcd, _, _⟩ := F.ex
  refine ⟨fun A outer s H args us vs Q hr hgd e0 hbt r hsp => ?_⟩
  have hl : vs.length = ps.length := len _ _ _ hsp
  have keepB : ∀ b o, base.get? b = some o → s.heap.get? b = some o := fun b o e => (e0.bs b o e).1
  have KX : K.In s.heap := e0.mod.kin.keeps keepB
  refine codeAny_call_function hr.depth (KX _ _ lk) rfl sc.co sc.gen rfl (PySem.W.codeRec_of KX hcd) (hbt _ _ _ _ ?_)
  refine wpAny_newFunctionEnv_cells sc.kind ?_ fun env he s1 z => ?_
  · rintro ⟨n, v⟩ hy
    rcases sc.par n (List.of_mem_zip hy).1 with q | q
    · exact .inl q
    · exact .inr ⟨q, PySem.W.cellsFrom_some _ _ _ (.inl q)⟩
  · subst he
    refine ⟨(e0.mod.nolimit.keeps keepB).keeps z.toInCall.keep, codeAny_func ?_⟩
    have I : Inv (cxOf CX0 P w K mg base N qual scope f cdv A outer s H E0) [] (L2.start N vs) H s1 := inv_start sc hr.hd e0 hl r z
    obtain ⟨t, D, sem⟩ := hb cdv A outer s H (hr.deeper _) hgd
    refine wpAny_mono (D.run [] s1 (L2.start N vs) H { nx := fun _ H' => Q .non H', rt := Q } I (sem vs Q hsp)) (fun fl s' hs => ?_) fun e s' hs => hs
    have fin : ∀ {σ' : L2.St} {H' : Hp} {v : V} {u : Value}, Inv (cxOf CX0 P w K mg base N qual scope f cdv A outer s H E0) [] σ' H' s' → RelV v u → Q v H' → CE outer P w H s Q u s' :=
      fun {σ' H' v u} J rv q => ⟨v, H', J.os, J.bare, J.base, J.hok, rv, q⟩
    cases fl with
    | ret u =>
      obtain ⟨v, σ', H', J, rv, q⟩ := hs
      exact fin J rv q
    | next =>
      obtain ⟨σ', H', J, q⟩ := hs
      exact fin (v := V.non) (u := Value.none) J rfl q
    | brk =>
      obtain ⟨_, _, _, q⟩ := hs
      exact False.elim q
    | cont =>
      obtain ⟨_, _, _, q⟩ := hs
      exact False.elim q
/-- a promise by data, kept by hand -/
theorem FnH.g (F : FnH P w K mg base k f fd ps fun vs H Q => ∃ wa ds, WellAt wa H ∧ RpA K wa H vs ds ∧ S ds (Af K wa H Q)) (len : ∀ ds P, S ds P → ds.length = ps.length) (mono : ∀ ds P P', (∀ d, P d → P' d) → S ds P → S ds P') : FnG P w K mg base k f fd ps S :=
  ⟨len, mono, fun A outer s H args us vs Q hr hg e0 hb r h => F.run A outer s H args us vs Q hr hg e0 hb r h⟩
end
section
variable {X : Cx} {x : Str} {p pos : Pos} {e : Expr} {es : List Expr} {t : TA} {S : List PyData → MD} {n k : Nat} {sp : List V → Hp → VK → Prop}
/-- a def known by its name, its promise by hand -/
structure KnH (P : Program) (w : World) (K : PySem.W.Frag) (mg : Str → Option Value) (base : Heap) (x : Str) (n k : Nat) (sp : List V → Hp → VK → Prop) : Prop where
  ex : ∃ (f : Addr) (fd : FuncData) (ps : List Str), mg x = some (.ref f) ∧ PySem.W.keepIn K (.ref f) = true ∧ Binds K fd ps [] ∧ ps.length = n ∧ FnH P w K mg base k f fd ps sp
theorem Kn.h {P : Program} {w : World} {K : PySem.W.Frag} {mg : Str → Option Value} {base : Heap} (G : Kn P w K mg base x n k S) : KnH P w K mg base x n k fun vs H Q => ∃ wa ds, WellAt wa H ∧ RpA K wa H vs ds ∧ S ds (Af K wa H Q) := by
  obtain ⟨f, fd, ps, hm, hk, hb, hl, F⟩ := G.ex
  exact ⟨f, fd, ps, hm, hk, hb, hl, ⟨fun A outer s H args us vs Q hr hg e0 hb r h => F.run A outer s H args us vs Q hr hg e0 hb r h⟩⟩
theorem FnH.up {P : Program} {w : World} {K : PySem.W.Frag} {mg : Str → Option Value} {base : Heap} {j k : Nat} {f : Addr} {fd : FuncData} {ps : List Str} (F : FnH P w K mg base j f fd ps sp) (h : j ≤ k) : FnH P w K mg base k f fd ps sp :=
  ⟨fun A outer s H args us vs Q hr => F.run A outer s H args us vs Q (hr.mono h)⟩
theorem KnH.up {P : Program} {w : World} {K : PySem.W.Frag} {mg : Str → Option Value} {base : Heap} {j k : Nat} (h : KnH P w K mg base x n j sp) (hj : j ≤ k) : KnH P w K mg base x n k sp := by
  obtain ⟨f, fd, ps, a, b, c, l, F⟩ := h.ex
  exact ⟨f, fd, ps, a, b, c, l, F.up hj⟩
theorem pe_callH (G : KnH X.prog X.w X.K X.mg X.base x n k sp) (hr : Room k X.A) (hgd : X.A.guards = some []) (ha : PA X (e :: es) t) (hg : Gl X x := by rfl) (hdb : (x == ("__debug__" : Str)) = false := by decide)
    (he : starEach (e :: es) X.env = (false, eval e X.env) :: starEach es X.env := by rfl) (hpl : (backTo pos (starEach es X.env)).any (·.1) = false := by rfl) : PE X (.Call (.Name x p) (e :: es) [] pos) fun σ H Q => t σ H fun vs H1 => vs.length = n ∧ sp vs H1 Q := by
  obtain ⟨f, fd, ps, hm, hk, hb, hl0, F⟩ := G.ex
  refine ⟨fun pins s σ H Q I h => ?_⟩
  refine wpAny_Call_Name_kw (ld_glob I hg hm ?_ hdb)
  refine PySem.W.callWith_K (h₀ := X.base) I.ok.mod.kin hk (thn (ha.run pos pins s σ H _ I h) fun us s1 ⟨vs, H1, I1, r, hlv, q⟩ => ⟨I1.kIn, ?_⟩) he hpl
  have hl : (us ++ ([] : List Value)).length = ps.length := by
    rw [List.append_nil, ← r.length, hlv, hl0]
  have hbt := hb s1 us I1.kIn hl
  rw [List.append_nil] at hbt
  refine wpAny_call (codeAny_mono (F.run X.A X.stack s1 H1 ⟨us, []⟩ us vs Q hr hgd I1.env0 hbt r q) fun res s' hq => ?_)
  cases res with
  | error er => exact (show False from hq).elim
  | ok fl =>
    cases fl with
    | ret u => exact I1.after hq
    | next => exact False.elim hq
    | brk => exact False.elim hq
    | cont => exact False.elim hq
end
/-! ### readings by data, to be used by hand -/
def tK (K : PySem.W.Frag) (m : ME) : TE := fun σ H Q => ∃ wa en P, WellAt wa H ∧ RpS K wa H σ en ∧ m en P ∧ ∀ d v H1, P d → Gr wa H H1 → WellAt wa H1 → Rp K wa H1 v d → Q v H1
def tKA (K : PySem.W.Frag) (m : MA) : TA := fun σ H Q => ∃ wa en P, WellAt wa H ∧ RpS K wa H σ en ∧ m en P ∧ ∀ ds vs H1, P ds → Gr wa H H1 → WellAt wa H1 → RpA K wa H1 vs ds → Q vs H1
def tKS (K : PySem.W.Frag) (m : MS) : TS := fun D σ H => ∃ wa en N P, WellAt wa H ∧ RpS K wa H σ en ∧ m en N P ∧ (∀ en' σ' H1, N en' → Gr wa H H1 → WellAt wa H1 → RpS K wa H1 σ' en' → D.nx σ' H1) ∧ ∀ d v H1, P d → Gr wa H H1 → WellAt wa H1 → Rp K wa H1 v d → D.rt v H1
section
variable {X : Cx} {e : Expr} {es : List Expr} {st : Stmt}
theorem DE.pk {m : ME} (h : DE X e m) : PE X e (tK X.K m) := h.pe.wk fun σ H Q ⟨wa, en, P, w, s, hm, k⟩ => runE h.mono w s hm k
theorem DA.pk {m : MA} (h : DA X es m) : PA X es (tKA X.K m) := h.pa.wk fun σ H Q ⟨wa, en, P, w, s, hm, k⟩ => runA h.mono w s hm k
theorem DS.pk {m : MS} (h : DS X st m) : PS X st (tKS X.K m) := h.ps.wk fun D σ H ⟨wa, en, N, P, w, s, hm, kn, kr⟩ => runS h.mono w s hm kn kr
end
/-! ### data without lists -/
mutual
def noL : PyData → Bool
  | .list _ => false
  | .tuple xs => noLs xs
  | _ => true
def noLs : List PyData → Bool
  | [] => true
  | x :: r => noL x && noLs r
end
mutual
theorem Rp.hidL {K : PySem.W.Frag} {wa : Wl} {H : Hp} {D : Addr} : ∀ {v : V} {d : PyData}, noL d = true → Rp K wa H v d → Rp K (wa.hid D) H v d
  | _, _, _, .non => .non
  | _, _, _, .bl b => .bl b
  | _, _, _, .int i => .int i
  | _, _, _, .str x => .str x
  | _, _, e, .tup h t => .tup h (RpA.hidL (by unfold noL at e; exact e) t)
  | _, _, e, .lst _ _ _ => by unfold noL at e; cases e
  | _, _, _, .well => .well
theorem RpA.hidL {K : PySem.W.Frag} {wa : Wl} {H : Hp} {D : Addr} : ∀ {vs : List V} {ds : List PyData}, noLs ds = true → RpA K wa H vs ds → RpA K (wa.hid D) H vs ds
  | _, _, _, .nil => .nil
  | _, _, e, .cons h t => by
    unfold noLs at e
    have e2 := Bool.and_eq_true_iff.mp e
    exact .cons (Rp.hidL e2.1 h) (RpA.hidL e2.2 t)
end
/-! ### a list set apart -/
/-- the list at D (in slot i) is new since H0, holds ds, and nothing else bears it -/
structure HidAt (K : PySem.W.Frag) (wa : Wl) (D : Addr) (H0 : Hp) (i : Nat) (σ : L2.St) (en : En) (ds : List PyData) (H : Hp) : Prop where
  g : Gr wa H0 H
  nD : H0 D = none
  no : wa.no D
  w : WellAt (wa.hid D) H
  s : RpS K (wa.hid D) H σ en
  sl : σ[i]? = some (some (.ref D))
  ls : ∃ vs, H D = some (.lst vs) ∧ RpA K (wa.hid D) H vs ds
section
variable {K : PySem.W.Frag} {wa : Wl} {D : Addr} {H0 H H1 : Hp} {i j : Nat} {σ : L2.St} {en : En} {ds : List PyData} {v : V} {d : PyData}
theorem RpS.put_none {x : Option V} (s : RpS K wa H σ en) (h : en[j]? = some none) : RpS K wa H (σ.set j x) en := by
  refine ⟨by rw [List.length_set]; exact s.len, fun k d e => ?_⟩
  have hk : j ≠ k := fun z => by
    rw [z, e] at h
    cases h
  obtain ⟨v, h1, h2⟩ := s.at_ k d e
  exact ⟨v, by rw [List.getElem?_set_ne hk]; exact h1, h2⟩
theorem HidAt.wW (h : HidAt K wa D H0 i σ en ds H) : WellAt wa H := h.w.unhide
/-- the whole told as data, the list among them -/
theorem HidAt.full (h : HidAt K wa D H0 i σ en ds H) : RpS K wa H σ (en.set i (some (.list ds))) := by
  obtain ⟨vs, hD, ra⟩ := h.ls
  refine ⟨by rw [List.length_set]; exact h.s.len, fun k d e => ?_⟩
  by_cases hk : i = k
  · subst hk
    by_cases hl : i < en.length
    · rw [List.getElem?_set_self hl] at e
      cases e
      exact ⟨_, h.sl, .lst h.no hD ra.unhide⟩
    · rw [List.getElem?_eq_none (by rw [List.length_set]; omega)] at e
      cases e
  · rw [List.getElem?_set_ne hk] at e
    obtain ⟨v, h1, h2⟩ := h.s.at_ k d e
    exact ⟨v, h1, h2.unhide⟩
theorem HidAt.step (h : HidAt K wa D H0 i σ en ds H) (g : Gr wa H H1) (w : WellAt wa H1) : HidAt K wa D H0 i σ en ds H1 := by
  obtain ⟨vs, hD, ra⟩ := h.ls
  have hD1 : H1 D = some (.lst vs) := g _ _ h.no.1 hD
  have g' : Gr (wa.hid D) H H1 := g
  refine ⟨h.g.trans g, h.nD, h.no, ⟨w.1, fun e he => ?_⟩, h.s.mono h.w g', h.sl, vs, hD1, ra.mono h.w g'⟩
  rcases List.mem_cons.mp he with z | z
  · rw [z]
    exact ⟨_, hD1⟩
  · exact w.2 e z
theorem HidAt.put (h : HidAt K wa D H0 i σ en ds H) (hj : j ≠ i) (r : Rp K (wa.hid D) H v d) : HidAt K wa D H0 i (σ.set j (some v)) (en.set j (some d)) ds H :=
  ⟨h.g, h.nD, h.no, h.w, h.s.set j r, by rw [List.getElem?_set_ne hj]; exact h.sl, h.ls⟩
/-- the list is changed -/
theorem HidAt.grow {vs : List V} {es : List PyData} (h : HidAt K wa D H0 i σ en ds H) (ra : RpA K (wa.hid D) H vs es) : HidAt K wa D H0 i σ en es (upd H D (.lst vs)) := by
  obtain ⟨us, hD, _⟩ := h.ls
  refine ⟨fun b o hb eo => ?_, h.nD, h.no, h.w.set_ h.no.1 hD, h.s.set_ hD, h.sl, vs, upd_same, ra.set hD⟩
  rw [upd_ne (ne_of_none eo h.nD)]
  exact h.g _ _ hb eo
/-- a part that does not bear the list is run -/
theorem HidAt.run {m : ME} {P : PyData → Prop} {R : VK} (h : HidAt K wa D H0 i σ en ds H) (hm : m en P)
    (k : ∀ d v H1, P d → HidAt K wa D H0 i σ en ds H1 → Rp K (wa.hid D) H1 v d → R v H1) : tK K m σ H R :=
  ⟨wa.hid D, en, P, h.w, h.s, hm, fun d v H1 hd g w r => k d v H1 hd (h.step g w.unhide) r⟩
/-- a part that bears the list is run; what comes of it bears no list -/
theorem HidAt.runF {m : ME} {P : PyData → Prop} {R : VK} (h : HidAt K wa D H0 i σ en ds H) (hm : m (en.set i (some (.list ds))) fun d => noL d = true ∧ P d)
    (k : ∀ d v H1, P d → HidAt K wa D H0 i σ en ds H1 → Rp K (wa.hid D) H1 v d → R v H1) : tK K m σ H R :=
  ⟨wa, _, _, h.wW, h.full, hm, fun d v H1 hd g w r => k d v H1 hd.2 (h.step g w) (r.hidL hd.1)⟩
/-- the list is made -/
theorem hid_new {H2 : Hp} (g : Gr wa H0 H2) (w : WellAt wa H2) (s : RpS K wa H2 σ en) (nD : H2 D = none) (hi : en[i]? = some none) (hl : i < σ.length) : HidAt K wa D H0 i (σ.set i (some (.ref D))) en [] (upd H2 D (.lst [])) := by
  have no := w.fresh nD
  refine ⟨g.trans (Gr.laid nD), ?_, no, w.hide nD, ?_, List.getElem?_set_self hl, [], upd_same, .nil⟩
  · cases e : H0 D with
    | none => rfl
    | some o =>
      have := g _ _ no.1 e
      rw [nD] at this
      cases this
  · exact (show RpS K (wa.hid D) (upd H2 D (.lst [])) σ en from ⟨s.len, fun i d e => let ⟨v, h, p⟩ := s.at_ i d e; ⟨v, h, p.newHid w nD⟩⟩).put_none hi
end
end GD
end

section
set_option Elab.async false
set_option linter.all false
set_option maxRecDepth 100000
set_option maxHeartbeats 4000000
/-! HB: some drawn bows, by hand: a list that is filled in a loop. -/
namespace GD
open PySem PySem.Spec PyProof.Rows L2 GQ
abbrev s_l_bows : Stmt := topS 105
abbrev N_l_bows : List Str := ["_law_well_here", "_law_many", "_law_one", "_law_two", "_law_hub", "_law_found", "_law_lap", "_law_bow_here"]
theorem sc_l_bows : FnScope N_l_bows ["_law_well_here", "_law_many"] (defScope s_l_bows) := ⟨rfl, rfl, rfl, by decide +kernel, rfl, by decide +kernel, by decide +kernel⟩
def m_bows1 : MS := (dAsg (dCall S_l_pick (dCons (dVar 0) (dCons (dTup (dCons (dTup (dCons (dC (.int 1)) (dCons (dC (.int 0)) dNil))) (dCons (dTup (dCons (dC (.int 0)) (dCons (dC (.int 1)) dNil))) (dCons (dTup (dCons (dC (.int 1)) (dCons (dC (.int 1)) dNil))) (dCons (dTup (dCons (dC (.int 1)) (dCons (dC (.int 0)) dNil))) (dCons (dTup (dCons (dNeg (dC (.int 1))) (dCons (dC (.int 2)) dNil))) (dCons (dTup (dCons (dC (.int 3)) (dCons (dC (.int 4)) dNil))) (dCons (dTup (dCons (dC (.int 0)) (dCons (dC (.int 1)) dNil))) dNil)))))))) dNil))) (gdTup 2 (gdCons (gdName 2) (gdCons (gdName 3) gdNil))))
def m_bows2 : ME := (dTup (dCons (dCall S_l_small (dCons (dVar 0) dNil)) (dCons (dCall S_l_small (dCons (dVar 0) dNil)) dNil)))
def m_bows3 : ME := (dCall S_l_bow (dCons (dVar 0) (dCons (dVar 4) (dCons (dTup (dCons (dTup (dCons (dVar 2) (dCons (dC (.int 1)) dNil))) (dCons (dTup (dCons (dVar 3) (dCons (dC (.int 1)) dNil))) dNil))) (dCons (dVar 5) dNil)))))
/-- an aim in whole numbers -/
def Aim (a b : Int) : Prop := (a ≠ 0 ∨ b ≠ 0) ∧ Bi 3 a ∧ Bi 3 b
theorem Aim.of {a b : Int} (h : (a ≠ 0 ∨ b ≠ 0) ∧ a.natAbs < 2 ^ 3 ∧ b.natAbs < 2 ^ 3) : Aim a b := h
theorem Aim.hub {a b : Int} {x y : Rat} (h : Aim a b) (hx : B 18 3 x) (hy : B 18 3 y) : AHub ((x, y), ((a : Rat), (b : Rat))) :=
  ⟨⟨hx, hy⟩, ⟨B.int h.2.1, B.int h.2.2⟩, h.1.imp (fun z w => z (Rat.intCast_eq_zero_iff.mp w)) (fun z w => z (Rat.intCast_eq_zero_iff.mp w))⟩
theorem sem_bows1 {e1 e4 e5 e6 e7 : Option PyData} {N : En → Prop} {R : PyData → Prop} (h : ∀ a b : Int, Aim a b → N [some dWell, e1, some (.int a), some (.int b), e4, e5, e6, e7]) : m_bows1 [some dWell, e1, none, none, e4, e5, e6, e7] N R := by
  unfold m_bows1
  refine ⟨le1000 rfl, le1000 rfl, le1000 rfl, le1000 rfl, le1000 rfl, le1000 rfl, le1000 rfl, le1000 rfl, ⟨false, _⟩, rfl, List.cons_ne_nil _ _, ?_⟩
  refine allc ⟨rfl, h 1 0 (.of (by decide))⟩ ?_
  refine allc ⟨rfl, h 0 1 (.of (by decide))⟩ ?_
  refine allc ⟨rfl, h 1 1 (.of (by decide))⟩ ?_
  refine allc ⟨rfl, h 1 0 (.of (by decide))⟩ ?_
  refine allc ⟨rfl, h (-1) 2 (.of (by decide))⟩ ?_
  refine allc ⟨rfl, h 3 4 (.of (by decide))⟩ ?_
  exact allc ⟨rfl, h 0 1 (.of (by decide))⟩ alln
theorem sem_bows2 {en : En} {e : En} (he : en = some dWell :: e) : m_bows2 en fun d => ∃ x y, (B 18 3 x ∧ B 18 3 y) ∧ d = encP x y := by
  subst he
  refine ⟨(), rfl, trivial, ?_⟩
  rintro _ ⟨x, hx, rfl⟩
  refine ⟨(), rfl, trivial, ?_⟩
  rintro _ ⟨y, hy, rfl⟩
  exact ⟨le1000 rfl, x, y, ⟨hx, hy⟩, rfl⟩
theorem noL_encC (c : Curve) : noL (encC c) = true := by cases c <;> rfl
theorem noW_encC (c : Curve) : noWell (encC c) = true := by cases c <;> rfl
theorem sem_bows3 {e1 e6 e7 : Option PyData} {a b : Int} {x y : Rat} {cs : List Curve} (ha : Aim a b) (hx : B 18 3 x) (hy : B 18 3 y) (hc : ∀ c ∈ cs, CB1 c) :
    m_bows3 [some dWell, e1, some (.int a), some (.int b), some (encP x y), some (.list (cs.map encC)), e6, e7] fun d => noL d = true ∧ ∃ c, CB0 c ∧ (cs = [] → CB1 c) ∧ d = encC c := by
  refine ⟨le1000 rfl, le1000 rfl, le1000 rfl, ⟨((x, y), ((a : Rat), (b : Rat))), cs⟩, rfl, ⟨ha.hub hx hy, hc⟩, ?_⟩
  rintro _ ⟨c, h1, h2, rfl⟩
  exact ⟨noL_encC c, c, h1, h2, rfl⟩
theorem noW_map : ∀ cs : List Curve, noWells (cs.map encC) = true
  | [] => rfl
  | c :: cs => by
    show (noWell (encC c) && noWells (cs.map encC)) = true
    rw [noW_encC, noW_map cs]
    rfl
theorem sh_lay {d : PyData} (h : d.canLay0 = true ∧ d.depth ≤ 10) : SeqAt.shaped d = true := by
  unfold SeqAt.shaped
  rw [h.1, decide_eq_true (Nat.le_trans h.2 (by decide))]
  rfl
theorem any_ne {α : Type} {f : α → Bool} {xs : List α} (h : (!xs.any f) = false) : xs ≠ [] := fun z => by
  rw [z] at h
  cases h
section
variable {P : Program} {w : World} {K : PySem.W.Frag} {mg : Str → Option Value} {base : Heap} {f : Addr} {fd : FuncData}
/-- what stands at the loop's turn -/
structure BowAt (K : PySem.W.Frag) (wa : Wl) (D : Addr) (H0 : Hp) (a b : Int) (x y : Rat) (j : Nat) (σ : L2.St) (H : Hp) : Prop where
  ex : ∃ (e6 e7 : Option PyData) (cs : List Curve), HidAt K wa D H0 5 σ [some dWell, some (.int 2), some (.int a), some (.int b), some (encP x y), none, e6, e7] (cs.map encC) H ∧ cs.length ≤ j ∧ (j ≠ 0 → cs ≠ []) ∧ (j ≤ 1 → ∀ c ∈ cs, CB1 c) ∧ ∀ c ∈ cs, CB0 c
theorem ok_l_bows (F : FunD K "_law_bows" "_law_bows" (defArgs s_l_bows) (defBody s_l_bows) (defScope s_l_bows) [] [] f fd) (Bf : BF mg) (k_l_pick : Kn P w K mg base "_law_pick" 2 2 S_l_pick) (k_l_small : Kn P w K mg base "_law_small" 1 3 S_l_small) (k_l_bow : Kn P w K mg base "_law_bow" 4 6 S_l_bow) :
    FnG P w K mg base 7 f fd ["_law_well_here", "_law_many"] S_l_bows := by
  refine FnH.g (fn_okH (k := 6) F sc_l_bows (fun vs H Q ⟨wa, ds, w1, ra, h⟩ => ra.len.trans (spN_len (fun _ => rfl) ds _ h)) fun cdv A outer s H hr hgd => ?_) (spN_len fun _ => rfl) spN_mono
  refine ⟨_, PSs.nox (pss_cons (ds_asg (de_call (k_l_pick.up (by decide)) hr hgd (da_cons (de_var (pv 0)) (da_cons (de_tup (da_cons (de_tup (da_cons de_int (da_cons de_int da_nil))) (da_cons (de_tup (da_cons de_int (da_cons de_int da_nil))) (da_cons (de_tup (da_cons de_int (da_cons de_int da_nil))) (da_cons (de_tup (da_cons de_int (da_cons de_int da_nil))) (da_cons (de_tup (da_cons (de_neg de_int) (da_cons de_int da_nil))) (da_cons (de_tup (da_cons de_int (da_cons de_int da_nil))) (da_cons (de_tup (da_cons de_int (da_cons de_int da_nil))) da_nil)))))))) da_nil))) (dg_tup rfl (dgs_cons (dg_name (pg_name (i := 2) sc_l_bows.nd rfl (.inl rfl))) (dgs_cons (dg_name (pg_name (i := 3) sc_l_bows.nd rfl (.inl rfl))) dgs_nil)))).pk
    (pss_cons (ps_par (i := 4) (j := 5) rfl sc_l_bows.nd rfl rfl (by decide) rfl rfl (pa_cons (de_tup (da_cons (de_call (k_l_small.up (by decide)) hr hgd (da_cons (de_var (pv 0)) da_nil)) (da_cons (de_call (k_l_small.up (by decide)) hr hgd (da_cons (de_var (pv 0)) da_nil)) da_nil))).pk (pa_cons (pe_lst pa_nil) pa_nil)) rfl)
    (pss_cons (ps_for PassesOwn.never rfl (pi_range1 rfl Bf.range (pa_cons (pv 1) pa_nil)) (pg_name (i := 6) sc_l_bows.nd rfl (.inl rfl))
      (pss_cons (ps_set (i := 7) sc_l_bows.nd rfl (.inl rfl) (de_call (k_l_bow.up (by decide)) hr hgd (da_cons (de_var (pv 0)) (da_cons (de_var (pv 4)) (da_cons (de_tup (da_cons (de_tup (da_cons (de_var (pv 2)) (da_cons de_int da_nil))) (da_cons (de_tup (da_cons (de_var (pv 3)) (da_cons de_int da_nil))) da_nil))) (da_cons (de_var (pv 5)) da_nil))))).pk)
      (pss_one (ps_if (pt_cmpR (op_notInD (by have := hr.un; show (A.deeper (envOfC "_law_bows" (defScope s_l_bows) s.heap.objs.size f cdv)).units + 65 < cLine; omega)) (pv 7) (pv 5) rfl) (pss_one (ps_expr (pe_bm PySem.F.plainAttrs_list PySem.F.slot_list_append PySem.F.type_list_append mt_append (pv 5) (pa_cons (pv 7) pa_nil)))) pss_nil))))
    (pss_one (ps_ret (pv 5)))))), fun vs Q hS => ?_⟩
  obtain ⟨wa, ds, w1, ra, ⟨_, rfl, _, h⟩⟩ := hS
  have h : ∀ d, (∃ cs : List Curve, (∀ c ∈ cs, CB0 c) ∧ cs ≠ [] ∧ cs.length ≤ 2 ∧ d = .list (cs.map encC)) → Af K wa H Q d := h
  have s0 : RpS K wa H (L2.start N_l_bows vs) [some dWell, some (.int 2), none, none, none, none, none, none] := start_rp ra
  refine ⟨wa, _, (fun en' => ∃ a b : Int, Aim a b ∧ en' = [some dWell, some (.int 2), some (.int a), some (.int b), none, none, none, none]), (fun _ => False), w1, s0, sem_bows1 (fun a b h => ⟨a, b, h, rfl⟩), ?_, fun d v H1 hf => hf.elim⟩
  rintro _ σ1 H1 ⟨a, b, hab, rfl⟩ g1 w1' s1
  refine ⟨wa, _, (fun d => ∃ x y, (B 18 3 x ∧ B 18 3 y) ∧ d = encP x y), w1', s1, sem_bows2 rfl, ?_⟩
  rintro _ v H2 ⟨x, y, ⟨hx, hy⟩, rfl⟩ g2 w2 r2
  have s2 := s1.mono w1' g2
  refine ⟨Nat.zero_le _, fun D nD => ⟨_, _, rfl, ?_⟩⟩
  have hd : HidAt K wa D H 5 ((σ1.set 4 (some v)).set 5 (some (.ref D))) [some dWell, some (.int 2), some (.int a), some (.int b), some (encP x y), none, none, none] [] (upd H2 D (.lst [])) :=
    hid_new (en := [some dWell, some (.int 2), some (.int a), some (.int b), some (encP x y), none, none, none]) (g1.trans g2) w2 (s2.set 4 r2) nD rfl (by rw [List.length_set, s2.len]; exact (Nat.le_of_ble_eq_true rfl : 5 + 1 ≤ 8))
  obtain ⟨v1, e1, r1⟩ := hd.s.at_ 1 (.int 2) rfl
  cases r1.inv_int
  refine ⟨_, e1, 2, rfl, by decide, by decide, for_range (lo := 0) (n := 2) (BowAt K wa D H a b x y) ?_ ?_ ?_⟩
  · exact ⟨none, none, [], hd, Nat.le_refl _, fun z => absurd rfl z, fun _ c hc => absurd hc List.not_mem_nil, fun c hc => absurd hc List.not_mem_nil⟩
  · rintro j σ H3 hj ⟨e6, e7, cs, hh, hlen, hne, h1, h0⟩
    have hh := hh.put (j := 6) (by decide) (.int (0 + j))
    refine hh.runF (P := fun d => ∃ c, CB0 c ∧ (cs = [] → CB1 c) ∧ d = encC c) (sem_bows3 hab hx hy (h1 (by omega))) ?_
    rintro _ v H4 ⟨c, c0, c1, rfl⟩ h4 r4
    have h5 := h4.put (j := 7) (by decide) r4
    obtain ⟨us, hD, ru⟩ := h5.ls
    obtain ⟨v', ev, rv⟩ := h5.s.at_ 7 (encC c) rfl
    have hul : us.length = cs.length := by rw [ru.len, List.length_map]
    refine ⟨v', ev, .ref D, h5.sl, encC c, cs.map encC, rv.dp (noW_encC c), .lst (.inl (.inl hD)) (ru.dp (noW_map cs)), sh_lay (lay_encC c), shL (map_lay encC lay_encC cs), _, rfl, ?_⟩
    cases hk : !(cs.map encC).any fun z => PyData.eqv z (encC c) with
    | true =>
      rw [if_pos rfl]
      refine ⟨.ref D, h5.sl, .inl ⟨rfl, _, .inl (.inl hD)⟩, v', ev, D, us, v', rfl, rfl, hD, by rw [size_line]; omega, ?_⟩
      have h6 := h5.grow (ru.append (.cons rv .nil))
      refine ⟨_, _, cs ++ [c], by rw [List.map_append]; exact h6, by rw [List.length_append]; exact Nat.succ_le_succ hlen, fun _ z => ?_, fun hj1 e he => ?_, fun e he => ?_⟩
      · cases cs <;> cases z
      · have z : cs = [] := List.eq_nil_of_length_eq_zero (by omega)
        subst z
        rw [List.nil_append, List.mem_singleton] at he
        rw [he]
        exact c1 rfl
      · rcases List.mem_append.mp he with z | z
        · exact h0 e z
        · rw [List.mem_singleton.mp z]
          exact c0
    | false =>
      rw [if_neg Bool.false_ne_true]
      refine ⟨_, _, cs, h5, by omega, fun _ z => any_ne hk (by rw [z]; rfl), fun hj1 => h1 (by omega), h0⟩
  · rintro σ H3 ⟨e6, e7, cs, hh, hlen, hne, h1, h0⟩
    obtain ⟨us, hD, ru⟩ := hh.ls
    exact ⟨.ref D, hh.sl, h _ ⟨cs, h0, hne (by decide), hlen, rfl⟩ _ _ hh.g hh.wW (.lst hh.no hD ru.unhide)⟩
end
end GD
end

section
set_option Elab.async false
set_option linter.all false
set_option maxRecDepth 100000
set_option maxHeartbeats 4000000
/-! HC: the corners of some curves, by hand: a list that is inserted into, loops within loops. -/
namespace GD
open PySem PySem.Spec PyProof.Rows L2 GQ
abbrev s_l_marks : Stmt := topS 98
abbrev N_l_marks : List Str := ["_law_flats", "_law_found", "_law_at_here", "_law_to", "_law_spot_here", "_law_sides", "_law_each"]
theorem sc_l_marks : FnScope N_l_marks ["_law_flats"] (defScope s_l_marks) := ⟨rfl, rfl, rfl, by decide +kernel, rfl, by decide +kernel, by decide +kernel⟩
def m_marks1 : ME := (dCall S_l_meet (dCons (dBin kIx (dVar 0) (dVar 3)) (dCons (dBin kIx (dVar 0) (dVar 2)) dNil)))
def m_marks2 : ME := (dCall S_l_after (dCons (dVar 6) (dCons (dVar 4) dNil)))
theorem mono_marks2 : ∀ en P P', (∀ d, P d → P' d) → m_marks2 en P → m_marks2 en P' := fun en P P' k => vget_mono fun d => vget_mono fun d2 => spN_mono _ _ _ k
theorem mono_yes : ∀ en P P', (∀ d, P d → P' d) → dtYes en P → dtYes en P' := fun en P P' k => k true
theorem map_get {α : Type} (f : α → PyData) {xs : List α} {i : Nat} (h : i < xs.length) : (xs.map f)[i]? = some (f xs[i]) := by
  rw [List.getElem?_map, List.getElem?_eq_getElem h]
  rfl
theorem sem_marks1 {fs : List Flat} {i t : Nat} {e1 e4 e5 e6 : Option PyData} (hf : ∀ f ∈ fs, FlatOk f) (hi : i < fs.length) (ht : t < fs.length) :
    m_marks1 [some (.list (fs.map encF)), e1, some (.int (Int.ofNat i)), some (.int (Int.ofNat t)), e4, e5, e6] Spots :=
  lget_of (map_get encF ht) (lget_of (map_get encF hi) ⟨(fs[t], fs[i]), rfl, ⟨hf _ (List.getElem_mem ht), hf _ (List.getElem_mem hi)⟩, fun d h => h⟩)
theorem sem_marks2 {e0 e1 e2 e3 e5 : Option PyData} {sp : Spot} (hsp : SB0 sp) : ∀ (ss : List Spot) (P : List PyData → Prop), (∀ s ∈ ss, SB0 s) → (∀ ns : List Int, ns.length = ss.length → P (ns.map .int)) → mapD 6 dtYes m_marks2 (ss.map encS) [e0, e1, e2, e3, some (encS sp), e5, none] P
  | [], P, _, h => h [] rfl
  | s :: ss, P, hs, h => by
    refine ⟨(s, sp), rfl, ⟨hs s List.mem_cons_self, hsp⟩, ?_⟩
    rintro _ ⟨i, rfl⟩
    exact sem_marks2 hsp ss _ (fun x hx => hs x (List.mem_cons_of_mem _ hx)) fun ns hn => h (i :: ns) (congrArg Nat.succ hn)
theorem RpA.ints {K : PySem.W.Frag} {wa : Wl} {H : Hp} : ∀ {vs : List V} {ns : List Int}, RpA K wa H vs (ns.map .int) → vs = ns.map V.int
  | _, [], .nil => rfl
  | _, n :: ns, .cons h t => by rw [h.inv_int, RpA.ints t]; rfl
theorem flat_ints (ns : List Int) : (ns.map V.int).all flatV = true := by
  induction ns with
  | nil => rfl
  | cons n ns ih => exact ih
/-- a comprehension over the list that is set apart -/
theorem lcH_run {K : PySem.W.Frag} {wa : Wl} {D : Addr} {H0 H : Hp} {i j : Nat} {σ : L2.St} {en : En} {ds : List PyData} {te : ME} {Q : VK} (hem : ∀ en P P', (∀ d, P d → P' d) → te en P → te en P') (h : HidAt K wa D H0 j σ en ds H) (hl : ds.length ≤ 1000)
    (m : mapD i dtYes te ds (en.set i none) fun ys => ds.length ≤ 1000 ∧ Af K (wa.hid D) H Q (.list ys)) : tLc (iList K (tVar j)) (gName i) (tDT K dtYes) (tD K te) [i] σ H Q := by
  obtain ⟨us, hD, ru⟩ := h.ls
  have le := ru.len
  refine ⟨.ref D, h.sl, D, rfl, ⟨us, .inl (.inl hD)⟩, fun D2 nD2 => lc_list (K := K) (a := D) (xs := us) (fun t H' => LcAt K (wa.hid D) H D2 (wipe σ [i]) (en.set i none) i dtYes te ds Q t H') (lc_start nD2 h.w (h.s.clear i) m) (fun t H2 _ hL => .inl (.inl (hL.g _ _ h.no.1 hD))) (fun t y H2 hy hL => ?_) fun H2 hL => ?_⟩
  · have hlt : t < ds.length := by
      have := (List.getElem?_eq_some_iff.mp hy).1
      rw [le] at this
      exact this
    obtain ⟨y', hy', ry⟩ := ru.get (List.getElem?_eq_getElem hlt)
    rw [hy] at hy'
    cases hy'
    exact ⟨wipe_set σ i y, lc_turn h.w nD2 mono_yes hem (List.getElem?_eq_getElem hlt) (Rp.mono0 (wa := (wa.hid D).hid D2) h.w.1 hL.g (ry.hide nD2)) (by omega) hL⟩
  · rw [le] at hL
    exact lc_done h.w nD2 hL
/-- what stands at a loop's turn -/
structure MarkAt (K : PySem.W.Frag) (wa : Wl) (D : Addr) (H0 : Hp) (fs : List Flat) (e2 : Option PyData) (b : Nat) (σ : L2.St) (H : Hp) : Prop where
  ex : ∃ (e3 e4 e5 e6 : Option PyData) (ss : List Spot), HidAt K wa D H0 1 σ [some (.list (fs.map encF)), none, e2, e3, e4, e5, e6] (ss.map encS) H ∧ ss.length ≤ b ∧ ∀ s ∈ ss, SB0 s
theorem MarkAt.mono {K : PySem.W.Frag} {wa : Wl} {D : Addr} {H0 : Hp} {fs : List Flat} {e2 : Option PyData} {b b' : Nat} {σ : L2.St} {H : Hp} (h : MarkAt K wa D H0 fs e2 b σ H) (k : b ≤ b') : MarkAt K wa D H0 fs e2 b' σ H := by
  obtain ⟨e3, e4, e5, e6, ss, hh, hl, hs⟩ := h
  exact ⟨e3, e4, e5, e6, ss, hh, Nat.le_trans hl k, hs⟩
theorem len_marks (ds : List PyData) (P : PyData → Prop) : S_l_marks ds P → ds.length = 1 := fun ⟨a, e, _⟩ => by
  rw [e]
  rfl
theorem ite_mk {c : Prop} [Decidable c] {A B : Prop} (h1 : A) (h2 : B) : if c then A else B := by
  by_cases h : c
  · rw [if_pos h]
    exact h1
  · rw [if_neg h]
    exact h2
theorem nat0 (j : Nat) : (0 : Int) + (j : Int) = Int.ofNat j := by simp
section
variable {P : Program} {w : World} {K : PySem.W.Frag} {mg : Str → Option Value} {base : Heap} {f : Addr} {fd : FuncData}
theorem ok_l_marks (F : FunD K "_law_marks" "_law_marks" (defArgs s_l_marks) (defBody s_l_marks) (defScope s_l_marks) [] [] f fd) (Bf : BF mg) (k_l_meet : Kn P w K mg base "_law_meet" 2 2 S_l_meet) (k_l_after : Kn P w K mg base "_law_after" 2 5 S_l_after) :
    FnG P w K mg base 6 f fd ["_law_flats"] S_l_marks := by
  refine FnH.g (fn_okH (k := 5) F sc_l_marks (fun vs H Q ⟨wa, ds, w1, ra, h⟩ => ra.len.trans (len_marks ds _ h)) fun cdv A outer s H hr hgd => ?_) len_marks spN_mono
  refine ⟨_, PSs.nox (pss_cons (ps_set (i := 1) sc_l_marks.nd rfl (.inl rfl) (pe_lst pa_nil))
    (pss_cons (ps_for PassesOwn.never rfl (pi_range1 rfl Bf.range (da_cons (de_callB cd_len Bf.len PySem.boot_len (da_cons (de_var (pv 0)) da_nil)) da_nil).pk) (pg_name (i := 2) sc_l_marks.nd rfl (.inl rfl))
      (pss_one (ps_for PassesOwn.never rfl (pi_range1 rfl Bf.range (pa_cons (pv 2) pa_nil)) (pg_name (i := 3) sc_l_marks.nd rfl (.inl rfl))
        (pss_one (ps_for PassesOwn.never rfl (pi_list (de_call (k_l_meet.up (by decide)) hr hgd (da_cons (de_ix (de_var (pv 0)) (de_var (pv 3))) (da_cons (de_ix (de_var (pv 0)) (de_var (pv 2))) da_nil))).pk) (pg_name (i := 4) sc_l_marks.nd rfl (.inr rfl))
          (pss_cons (ps_setLc (i := 5) (own := [("_law_each", 6)]) (g := gName 6) (tt := tDT K dtYes) (te := tD K m_marks2) rfl sc_l_marks.nd rfl rfl (sw_true rfl rfl rfl (by decide +kernel)) (pi_list (pv 1)) (blkOk_by (own := [("_law_each", 6)]) (N := N_l_marks) (sc := defScope s_l_marks) (by decide +kernel)) (fun _ _ _ _ _ => pg_name (i := 6) sc_l_marks.nd rfl (Or.inl rfl)) (fun _ _ _ _ _ => dts_nil.pts) (fun _ _ _ _ _ => DE.pe (m := m_marks2) (de_call (k_l_after.up (by decide)) hr hgd (da_cons (de_var (pv 6)) (da_cons (de_var (pv 4)) da_nil)))))
          (pss_one (ps_if (pt_cmpR op_notIn_seq pe_int (pv 5) rfl) (pss_one (ps_expr (pe_bm PySem.F.plainAttrs_list PySem.F.slot_list_insert PySem.F.type_list_insert mt_insert (pv 1) (pa_cons (pe_bm PySem.F.plainAttrs_list PySem.F.slot_list_count PySem.F.type_list_count mt_lcount (pv 5) (pa_cons (pe_un un_neg pe_int) pa_nil)) (pa_cons (pv 4) pa_nil))))) pss_nil))))))))
    (pss_one (ps_ret (pv 1))))), fun vs Q hS => ?_⟩
  obtain ⟨wa, ds, w1, ra, ⟨fs, rfl, ⟨hf, hfl⟩, h⟩⟩ := hS
  have hf : ∀ f ∈ fs, FlatOk f := hf
  have hfl : fs.length ≤ 2 := hfl
  have h : ∀ d, Spots d → Af K wa H Q d := h
  have s0 : RpS K wa H (L2.start N_l_marks vs) [some (.list (fs.map encF)), none, none, none, none, none, none] := start_rp ra
  refine ⟨Nat.zero_le _, fun D nD => ?_⟩
  have hd : HidAt K wa D H 1 ((L2.start N_l_marks vs).set 1 (some (.ref D))) [some (.list (fs.map encF)), none, none, none, none, none, none] [] (upd H D (.lst [])) :=
    hid_new Gr.refl w1 s0 nD rfl (by rw [s0.len]; exact (Nat.le_of_ble_eq_true rfl : 1 + 1 ≤ 7))
  refine ⟨wa.hid D, _, (fun ds => ds = [.int ((fs.length : Nat) : Int)]), hd.w, hd.s, congrArg (fun n : Nat => [PyData.int (n : Int)]) (List.length_map ..), ?_⟩
  rintro _ us H1 rfl g1 w1' r1
  obtain ⟨u, rfl, ru⟩ := r1.one
  cases ru.inv_int
  have hd1 := hd.step g1 w1'.unhide
  refine ⟨(fs.length : Nat), rfl, by omega, by omega, for_range (lo := 0) (n := fs.length) (fun j σ H' => ∃ e2, MarkAt K wa D H fs e2 (2 * (j - 1)) σ H') ?_ ?_ ?_⟩
  · exact ⟨none, none, none, none, none, [], hd1, Nat.zero_le _, fun s hs => absurd hs List.not_mem_nil⟩
  · rintro i σ2 H2 hi ⟨e2, e3, e4, e5, e6, ss, hh, hb, hs⟩
    rw [nat0 i]
    have hh := hh.put (j := 2) (by decide) (.int (Int.ofNat i))
    obtain ⟨v2, ev2, r2⟩ := hh.s.at_ 2 (.int (Int.ofNat i)) rfl
    cases r2.inv_int
    refine ⟨_, ev2, Int.ofNat i, rfl, (show -(2 ^ 62) ≤ (i : Int) by omega), (show (i : Int) < 2 ^ 62 by omega), for_range (lo := 0) (n := i) (MarkAt K wa D H fs (some (.int (Int.ofNat i))) <| 2 * ·) ?_ ?_ ?_⟩
    · exact ⟨_, _, _, _, ss, hh, by omega, hs⟩
    · rintro t σ3 H3 ht ⟨e3, e4, e5, e6, ss, hh, hb, hs⟩
      rw [nat0 t]
      have hh := hh.put (j := 3) (by decide) (.int (Int.ofNat t))
      refine hh.run (P := Spots) (sem_marks1 hf hi (by omega)) ?_
      rintro _ v H4 ⟨xs, hxs, hxl, rfl⟩ h4 r4
      obtain ⟨a, us, rfl, no, hL, rl⟩ := r4.inv_lst
      have lus : us.length = xs.length := by rw [rl.len, List.length_map]
      have neD : a ≠ D := fun z => no.2 (by rw [z]; exact List.mem_cons_self)
      refine ⟨a, rfl, ⟨us, .inl (.inl hL)⟩, for_list (K := K) (a := a) (xs := us) (fun s σ H' => MarkAt K wa D H fs (some (.int (Int.ofNat i))) (2 * t + s) σ H' ∧ H' a = some (.lst us) ∧ RpA K (wa.hid D) H' us (xs.map encS)) ?_ ?_ ?_ ?_⟩
      · exact ⟨⟨_, _, _, _, ss, h4, hb, hs⟩, hL, rl⟩
      · exact fun _ _ _ _ q => .inl (.inl q.2.1)
      · rintro s x σ5 H5 hx ⟨⟨e3, e4, e5, e6, ss, hh, hb, hs⟩, hL, rl⟩
        have hsl : s < xs.length := by
          have := (List.getElem?_eq_some_iff.mp hx).1
          omega
        obtain ⟨x', hx', rx⟩ := rl.get (map_get encS hsl)
        rw [hx] at hx'
        cases hx'
        have sp0 := hxs _ (List.getElem_mem hsl)
        generalize xs[s] = sp at rx sp0
        have hh := hh.put (j := 4) (by decide) rx
        have hsm : (ss.map encS).length ≤ 1000 := by
          rw [List.length_map]
          omega
        dsimp only [gName, tSeq, tAsg]
        refine lcH_run (i := 6) mono_marks2 hh hsm (sem_marks2 sp0 ss _ hs fun ns hn => ⟨hsm, ?_⟩)
        intro v H6 g6 w6 r6
        have h6 := (hh.step g6 w6.unhide).put (j := 5) (by decide) r6
        have hL6 : H6 a = some (.lst us) := g6 _ _ no.1 hL
        have rl6 := rl.mono hh.w g6
        obtain ⟨v5, ev5, r5⟩ := h6.s.at_ 5 (.list (ns.map .int)) rfl
        obtain ⟨A5, us5, rfl, no5, hA5, rA5⟩ := r5.inv_lst
        cases rA5.ints
        refine ⟨.ref A5, ev5, A5, ns.map V.int, rfl, .inl (.inl (.inl hA5)), rfl, flat_ints ns, _, rfl, ?_⟩
        refine ite_mk ?_ ?_
        · obtain ⟨ws, hD, rws⟩ := h6.ls
          obtain ⟨v4, ev4, r4⟩ := h6.s.at_ 4 (encS sp) rfl
          have lws : ws.length = ss.length := by rw [rws.len, List.length_map]
          have lc : ns.count (-1) ≤ ns.length := List.count_le_length
          refine ⟨.ref D, h6.sl, .inl ⟨rfl, _, .inl (.inl hD)⟩, .ref A5, ev5, .inl ⟨rfl, _, .inl (.inl hA5)⟩, 1, rfl, A5, ns, -1, rfl, rfl, .inl (.inl hA5), v4, ev4, D, ws, ((ns.count (-1) : Nat) : Int), v4, rfl, rfl, hD, by rw [size_line]; omega, Int.natCast_nonneg _, by omega, ?_⟩
          rw [Int.toNat_natCast]
          generalize ns.count (-1) = c at lc ⊢
          have h7 := h6.grow (((rws.take c).append (.cons r4 .nil)).append (rws.drop c))
          rw [← List.map_take, ← List.map_drop, ← List.map_singleton (f := encS), ← List.map_append, ← List.map_append] at h7
          refine ⟨⟨_, _, _, _, ss.take c ++ [sp] ++ ss.drop c, h7, ?_, ?_⟩, by rw [upd_ne neD]; exact hL6, rl6.set hD⟩
          · simp only [List.length_append, List.length_take, List.length_drop, List.length_singleton]
            omega
          · intro e he
            rcases List.mem_append.mp he with z | z
            · rcases List.mem_append.mp z with z | z
              · exact hs e (List.mem_of_mem_take z)
              · rw [List.mem_singleton.mp z]
                exact sp0
            · exact hs e (List.mem_of_mem_drop z)
        · exact ⟨⟨_, _, _, _, ss, h6, by omega, hs⟩, hL6, rl6⟩
      · rintro σ5 H5 ⟨q, _, _⟩
        exact q.mono (by omega)
    · rintro σ3 H3 q
      exact ⟨_, q⟩
  · rintro σ2 H2 ⟨e2, e3, e4, e5, e6, ss, hh, hb, hs⟩
    obtain ⟨us, hD, ru⟩ := hh.ls
    exact ⟨.ref D, hh.sl, h _ ⟨ss, hs, by omega, rfl⟩ _ _ hh.g hh.wW (.lst hh.no hD ru.unhide)⟩
end
end GD
end

section
set_option Elab.async false
set_option linter.all false
set_option maxRecDepth 100000
set_option maxHeartbeats 4000000
/-! HD: the well and the law itself, by hand. -/
namespace GD
open PySem PySem.Spec PyProof.Rows L2 GQ
abbrev s_l_well : Stmt := topS 79
abbrev N_l_well : List Str := ["_law_script", "_law_lap", "_law_mixed", "_law_cell", "_law_own"]
theorem sc_l_well : FnScope N_l_well ["_law_script", "_law_lap"] (defScope s_l_well) := ⟨rfl, rfl, rfl, by decide +kernel, rfl, by decide +kernel, by decide +kernel⟩
/-- a well is made of a script and a lap -/
def spWell (K : PySem.W.Frag) : List V → Hp → VK → Prop := fun vs H Q => ∃ (a : Addr) (ns : List Int) (lap : Int), vs = [.ref a, .int lap] ∧ SqL K H a (ns.map V.int) ∧ (0 ≤ lap ∧ lap ≤ 3) ∧
  ∀ p H', (∀ b o, H b = some o → H' b = some o) → H p = none → Well0 p H' → Q (.ref p) H'
abbrev Kept (H H' : Hp) : Prop := ∀ b o, H b = some o → H' b = some o
theorem Kept.sqL {K : PySem.W.Frag} {H H' : Hp} {a : Addr} {xs : List V} (k : Kept H H') (h : SqL K H a xs) : SqL K H' a xs := by
  rcases h with (h | ⟨o, h⟩) | h
  · exact .inl (.inl (k _ _ h))
  · exact .inl (.inr ⟨o, k _ _ h⟩)
  · exact .inr h
theorem kept_new {H : Hp} {p : Addr} {o : HO} (n : H p = none) : Kept H (upd H p o) := fun b u e => by
  rw [upd_ne (ne_of_none e n)]
  exact e
theorem cut_ints {ns : List Int} {lo hi : Option Int} {j : Nat} {x : V} (h : (cutV (ns.map V.int) lo hi)[j]? = some x) : ∃ i, x = .int i := by
  have m := List.mem_of_getElem? h
  unfold cutV at m
  obtain ⟨i, _, rfl⟩ := List.mem_map.mp (List.mem_of_mem_drop (List.mem_of_mem_take m))
  exact ⟨i, rfl⟩
/-- a mixed number -/
def Mix (m : Int) : Prop := -(2 ^ 64) < m ∧ m < 2 ^ 64
theorem Mix.of (x : Int) : Mix (x.fmod 2147483579) := by
  obtain ⟨a, b⟩ := fm_nn x (n := 2147483579) (by decide)
  exact ⟨by omega, by omega⟩
theorem mix2 (x : Int) : CMul (x.fmod 2147483549) 30013 := by
  obtain ⟨a, b⟩ := fm_nn x (n := 2147483549) (by decide)
  exact .inl ⟨by omega, by omega⟩
theorem at_int {ns : List Int} {lap : Int} (h0 : 0 ≤ lap) (h : lap < (ns.map V.int).length) : ∃ n, atI (ns.map V.int) lap = some (.int n) := by
  obtain ⟨k, rfl⟩ := Int.eq_ofNat_of_zero_le h0
  rw [List.length_map] at h
  have hk : k < ns.length := by omega
  exact ⟨ns[k], atI_nat (by rw [List.getElem?_map, List.getElem?_eq_getElem hk]; rfl)⟩
theorem ite_mk2 {c : Bool} {A B : Prop} (h1 : c = true → A) (h2 : c = false → B) : if c = true then A else B := by
  cases c with
  | true => rw [if_pos rfl]; exact h1 rfl
  | false => rw [if_neg Bool.false_ne_true]; exact h2 rfl
section
variable {P : Program} {w : World} {K : PySem.W.Frag} {mg : Str → Option Value} {base : Heap} {f : Addr} {fd : FuncData}
theorem ok_l_well (F : FunD K "_law_well" "_law_well" (defArgs s_l_well) (defBody s_l_well) (defScope s_l_well) [] [] f fd) (B : BF mg) : FnH P w K mg base 1 f fd ["_law_script", "_law_lap"] (spWell K) := by
  refine fn_okH (k := 0) F sc_l_well (fun vs H Q ⟨a, ns, lap, e, _⟩ => by rw [e]; rfl) fun cdv A outer s H hr hgd => ?_
  refine ⟨_, PSs.nox (pss_cons (ps_set (i := 2) sc_l_well.nd rfl (.inl rfl) (pe_op op_add pe_int (pe_op op_mul pe_int (pv 1))))
    (pss_cons (ps_for PassesOwn.never rfl (pi_list (pe_slice sl_list (pv 0) po_none (po_some pe_int))) (pg_name (i := 3) sc_l_well.nd rfl (.inl rfl))
      (pss_one (ps_set (i := 2) sc_l_well.nd rfl (.inl rfl) (pe_op op_modN (pe_callTy call_int1 (by rfl) B.int_ PyProof.Rows.boot_int (pa_cons (pe_op op_add (pe_op op_add (pe_op op_mul (pv 2) pe_int) (pe_op op_modN (pe_callTy call_int1 (by rfl) B.int_ PyProof.Rows.boot_int (pa_cons (pv 3) pa_nil)) pe_int)) pe_int) pa_nil)) pe_int))))
    (pss_cons (ps_set (i := 4) sc_l_well.nd rfl (.inl rfl) (pe_ifExp (pt_cmpR op_lt (pv 1) (pe_callB call_len_seq (by rfl) B.len PySem.boot_len (pa_cons (pv 0) pa_nil)) (nomark _)) (pe_callTy call_int1 (by rfl) B.int_ PyProof.Rows.boot_int (pa_cons (pe_ix ix_list (pv 0) (pv 1) (fun _ _ => rfl)) pa_nil)) pe_int))
    (pss_cons (ps_set (i := 2) sc_l_well.nd rfl (.inl rfl) (pe_op op_modN (pe_callTy call_int1 (by rfl) B.int_ PyProof.Rows.boot_int (pa_cons (pe_op op_add (pe_op op_add (pe_op op_mul (pv 2) pe_int) (pe_op op_mul (pe_op op_modN (pe_callTy call_int1 (by rfl) B.int_ PyProof.Rows.boot_int (pa_cons (pv 4) pa_nil)) pe_int) pe_int)) pe_int) pa_nil)) pe_int))
    (pss_one (ps_ret (pe_lst (pa_cons (pe_ifExp (PW.pt (pw_or (pt_cmpR op_lt (pv 4) pe_int (nomark _)) (pw_or1 (pt_cmpR op_ge (pv 4) (pe_op op_pow pe_int pe_int) (nomark _))))) (pe_callB call_abs (by rfl) B.abs PyProof.Rows.boot_abs (pa_cons (pv 4) pa_nil)) pe_int) (pa_cons (pv 2) (pa_cons pe_int (pa_cons pe_int pa_nil))))))))))), fun vs Q hS => ?_⟩
  obtain ⟨a, ns, lap, rfl, hL, ⟨h0, h3⟩, h⟩ := hS
  have m0 : Mix (5207113 + 9343 * lap) := ⟨by omega, by omega⟩
  refine ⟨.int lap, rfl, 9343, lap, rfl, rfl, .inl ⟨by decide, by decide⟩, 5207113, 9343 * lap, rfl, rfl, ?_⟩
  have n1 : (2147483549 : Int) ≠ 0 := by decide
  have n2 : (2147483579 : Int) ≠ 0 := by decide
  refine ⟨.ref a, rfl, 9, rfl, a, _, rfl, hL, fun L nL => ⟨L, rfl, ⟨_, .inl (.inl upd_same)⟩, for_list (K := K) (a := L) (xs := cutV (ns.map V.int) none (some 9)) (fun j σ H' => ∃ m c3, σ = [some (.ref a), some (.int lap), some (.int m), c3, none] ∧ Mix m ∧ Kept H H' ∧ H' L = some (.lst (cutV (ns.map V.int) none (some 9)))) ?_ ?_ ?_ ?_⟩⟩
  · exact ⟨5207113 + 9343 * lap, none, rfl, m0, kept_new nL, upd_same⟩
  · rintro j σ H' _ ⟨_, _, _, _, _, q⟩
    exact .inl (.inl q)
  · rintro j x σ H' hx ⟨m, c3, rfl, hm, hk, hL'⟩
    obtain ⟨c, rfl⟩ := cut_ints hx
    refine ⟨_, rfl, m, 50311, rfl, rfl, .inl hm, _, rfl, .inl ⟨_, rfl, _, 2147483549, rfl, rfl, n1, _, _, rfl, rfl, _, 11, rfl, rfl, .inl ⟨_, rfl, _, 2147483579, rfl, rfl, n2, ?_⟩⟩⟩
    exact ⟨_, some (.int c), rfl, Mix.of _, hk, hL'⟩
  · rintro σ H' ⟨m, c3, rfl, hm, hk, hL'⟩
    have hL2 := hk.sqL hL
    have fin : ∀ (x1 : Int) (m : Int) (p : Addr), H' p = none → Q (.ref p) (upd H' p (.lst [.int x1, .int m, .int 0, .int 1])) := fun x1 m p np => by
      refine h p _ (fun b o e => kept_new np b o (hk b o e)) ?_ ⟨x1, m, 0, 1, upd_same⟩
      cases e : H p with
      | none => rfl
      | some o =>
        have := hk _ _ e
        rw [np] at this
        cases this
    have sz : ∀ a b c d : V, [a, b, c, d].length ≤ sizeLine := fun a b c d => by
      rw [size_line]
      exact (Nat.le_of_ble_eq_true rfl : 4 ≤ 16777216)
    refine ⟨.int lap, rfl, .ref a, rfl, a, _, rfl, .inl hL2, lap, _, rfl, rfl, _, rfl, ite_mk2 (fun hlt => ?_) (fun _ => ?_)⟩
    · obtain ⟨n, hn⟩ := at_int h0 (of_decide_eq_true hlt)
      refine ⟨.ref a, rfl, .int lap, rfl, a, _, lap, .int n, rfl, rfl, hL2, hn, .inl ⟨n, rfl, ?_⟩⟩
      refine ⟨_, rfl, m, 61, rfl, rfl, .inl hm, _, rfl, .inl ⟨_, rfl, n, 2147483549, rfl, rfl, n1, _, 30013, rfl, rfl, mix2 n, _, _, rfl, rfl, _, 3, rfl, rfl, .inl ⟨_, rfl, _, 2147483579, rfl, rfl, n2, ?_⟩⟩⟩
      refine ⟨_, rfl, n, 0, rfl, rfl, _, rfl, ite_mk (ite_mk ?_ ?_) ⟨_, rfl, 10, 14, rfl, rfl, ⟨by decide, by decide, by decide⟩, n, _, rfl, rfl, _, rfl, ite_mk ?_ ?_⟩⟩
      · exact ⟨_, rfl, n, rfl, _, rfl, sz _ _ _ _, fun p np => fin _ _ p np⟩
      · exact ⟨_, rfl, sz _ _ _ _, fun p np => fin _ _ p np⟩
      · exact ⟨_, rfl, n, rfl, _, rfl, sz _ _ _ _, fun p np => fin _ _ p np⟩
      · exact ⟨_, rfl, sz _ _ _ _, fun p np => fin _ _ p np⟩
    · refine ⟨_, rfl, m, 61, rfl, rfl, .inl hm, _, rfl, .inl ⟨_, rfl, 0, 2147483549, rfl, rfl, n1, _, 30013, rfl, rfl, mix2 0, _, _, rfl, rfl, _, 3, rfl, rfl, .inl ⟨_, rfl, _, 2147483579, rfl, rfl, n2, ?_⟩⟩⟩
      refine ⟨_, rfl, 0, 0, rfl, rfl, _, rfl, ite_mk (ite_mk ?_ ?_) ⟨_, rfl, 10, 14, rfl, rfl, ⟨by decide, by decide, by decide⟩, 0, _, rfl, rfl, _, rfl, ite_mk ?_ ?_⟩⟩
      · exact ⟨_, rfl, 0, rfl, _, rfl, sz _ _ _ _, fun p np => fin _ _ p np⟩
      · exact ⟨_, rfl, sz _ _ _ _, fun p np => fin _ _ p np⟩
      · exact ⟨_, rfl, 0, rfl, _, rfl, sz _ _ _ _, fun p np => fin _ _ p np⟩
      · exact ⟨_, rfl, sz _ _ _ _, fun p np => fin _ _ p np⟩
end
end GD
end

section
set_option Elab.async false
set_option linter.all false
set_option maxRecDepth 100000
set_option maxHeartbeats 4000000
/-! HE: the law itself, by hand. -/
namespace GD
open PySem PySem.Spec PyProof.Rows L2 GQ
abbrev s_law : Stmt := topS 118
abbrev N_law : List Str := ["_law_script", "_law_lap"]
theorem sc_law : FnScope N_law ["_law_script"] (defScope s_law) := ⟨rfl, rfl, rfl, by decide +kernel, rfl, by decide +kernel, by decide +kernel⟩
def spLaw (K : PySem.W.Frag) : List V → Hp → VK → Prop := fun vs H Q => ∃ (a : Addr) (ns : List Int), vs = [.ref a] ∧ SqL K H a (ns.map V.int) ∧ ns.length ≤ 63 ∧ ∀ H', Q (.bl true) H'
abbrev spG (K : PySem.W.Frag) (S : List PyData → MD) : List V → Hp → VK → Prop := fun vs H Q => ∃ wa ds, WellAt wa H ∧ RpA K wa H vs ds ∧ S ds (Af K wa H Q)
theorem gr_sqL {K : PySem.W.Frag} {wa : Wl} {H H' : Hp} {a : Addr} {xs : List V} (g : Gr wa H H') (n : a ≠ wa.a) (h : SqL K H a xs) : SqL K H' a xs := by
  rcases h with (h | ⟨o, h⟩) | h
  · exact .inl (.inl (g _ _ n h))
  · exact .inl (.inr ⟨o, g _ _ n h⟩)
  · exact .inr h
/-- the script stays: it was there ahead of the well, or it is the module's own -/
theorem sq_stay {K : PySem.W.Frag} {H H1 H2 : Hp} {a p : Addr} {xs : List V} (h : SqL K H a xs) (k : Kept H H1) (n : H p = none) (g : Gr ⟨p, []⟩ H1 H2) : SqL K H2 a xs := by
  rcases h with (h | ⟨o, h⟩) | h
  · exact .inl (.inl (g _ _ (ne_of_none h n) (k _ _ h)))
  · exact .inl (.inr ⟨o, g _ _ (ne_of_none h n) (k _ _ h)⟩)
  · exact .inr h
theorem if_false_of {A B : Prop} (h : B) : if (!true) = true then A else B := h
section
variable {P : Program} {w : World} {K : PySem.W.Frag} {mg : Str → Option Value} {base : Heap} {f : Addr} {fd : FuncData}
theorem ok_law (F : FunD K "law" "law" (defArgs s_law) (defBody s_law) (defScope s_law) [] [] f fd) (B : BF mg) (kR : Kn P w K mg base "_law_right" 1 9 S_l_right) (kW : KnH P w K mg base "_law_well" 2 1 (spWell K)) : FnH P w K mg base 10 f fd ["_law_script"] (spLaw K) := by
  refine fn_okH (k := 9) F sc_law (fun vs H Q ⟨a, ns, e, _⟩ => by rw [e]; rfl) fun cdv A outer s H hr hgd => ?_
  refine ⟨_, PSs.nox (pss_cons (ps_for PassesOwn.never rfl (pi_range1 rfl B.range (pa_cons (pe_callB (call_max2 rfl) (by rfl) B.max PyProof.Rows.boot_max (pa_cons pe_int (pa_cons (pe_callB (call_min2 rfl) (by rfl) B.min PyProof.Rows.boot_min (pa_cons (pe_callB call_len_seq (by rfl) B.len PySem.boot_len (pa_cons (pv 0) pa_nil)) (pa_cons pe_int pa_nil))) pa_nil))) pa_nil)) (pg_name (i := 1) sc_law.nd rfl (.inl rfl))
      (pss_one (ps_if (pt_not (pt_val (pe_callH kR.h hr hgd (pa_cons (pe_callH (kW.up (by decide)) hr hgd (pa_cons (pv 0) (pa_cons (pv 1) pa_nil))) pa_nil)))) (pss_one (ps_ret pe_bl)) pss_nil)))
    (pss_one (ps_ret pe_bl))), fun vs Q hS => ?_⟩
  obtain ⟨a, ns, rfl, hL, hn, h⟩ := hS
  refine ⟨_, rfl, a, _, rfl, .inl hL, _, 3, rfl, 2, _, rfl, _, rfl, ?_, ?_, for_range (lo := 0) (fun j σ H' => (∃ x, σ = [some (.ref a), x]) ∧ SqL K H' a (ns.map V.int)) ⟨⟨none, rfl⟩, hL⟩ ?_ ?_⟩
  · split <;> split <;> omega
  · split <;> split <;> omega
  · rintro j σ H' hj ⟨⟨x, rfl⟩, hL'⟩
    rw [nat0 j]
    have hj3 : (j : Int) ≤ 3 := by
      have : j < 4 := by
        refine Nat.lt_of_lt_of_le hj ?_
        split <;> split <;> omega
      omega
    refine ⟨.ref a, rfl, .int (Int.ofNat j), rfl, rfl, a, ns, Int.ofNat j, rfl, hL', ⟨Int.natCast_nonneg j, hj3⟩, fun p H1 k np wp => ?_⟩
    refine ⟨rfl, ⟨p, []⟩, [dWell], ⟨wp, fun e he => absurd he List.not_mem_nil⟩, .cons .well .nil, (), rfl, trivial, ?_⟩
    intro v H2 g w2 r
    cases r.inv_bl
    refine ⟨true, rfl, ?_⟩
    refine if_false_of ?_
    exact ⟨⟨_, rfl⟩, sq_stay hL' k np g⟩
  · rintro σ H' _
    exact h H'
end
end GD
end

section
set_option Elab.async false
set_option linter.all false
set_option maxRecDepth 100000
set_option maxHeartbeats 4000000
/-! HF: the law's end, where no repr is under way ahead of the call. -/
namespace GD
open PySem PySem.Spec PyProof.Rows L2
abbrev scrO (vs : List Value) : Obj := { cls := .type "list", data := .seq vs.toArray }
/-- the script alone is told, if it is none of the module's own objects -/
def scr (K : PySem.W.Frag) (a : Addr) (vs : List Value) (ns : List Int) : Hp := fun b => if b = a ∧ K.lookup a = none then some (.frz (scrO vs) (.lst (ns.map V.int))) else none
section
variable {P : Program} {w : World} {K : PySem.W.Frag} {mg mb : Str → Option Value} {fa a b : Addr} {fd : FuncData} {x : Str} {sp : List V → Hp → VK → Prop} {s1 : Shared} {vs : List Value} {ns : List Int} {k : Nat}
theorem scr_none (h : b ≠ a ∨ K.lookup a ≠ none) : scr K a vs ns b = none := by
  unfold scr
  rw [if_neg]
  rintro ⟨h1, h2⟩
  exact h.elim (· h1) (· h2)
theorem scr_some {u : HO} (h : scr K a vs ns b = some u) : (b = a ∧ K.lookup a = none) ∧ u = .frz (scrO vs) (.lst (ns.map V.int)) := by
  unfold scr at h
  by_cases c : b = a ∧ K.lookup a = none
  · rw [if_pos c] at h
    exact ⟨c, (Option.some.inj h).symm⟩
  · rw [if_neg c] at h
    cases h
theorem scr_sq (KX : K.In s1.heap) (ha : s1.heap.get? a = some (scrO vs)) (hi : IntsAre vs ns) (hl : ns.length ≤ sizeLine) : SqL K (scr K a vs ns) a (ns.map V.int) := by
  have rv := vals_ints hi
  have len := hi.length
  cases e : K.lookup a with
  | none =>
    refine .inl (.inr ⟨scrO vs, ?_⟩)
    unfold scr
    exact if_pos ⟨rfl, e⟩
  | some o =>
    have eo : o = scrO vs := Option.some.inj ((KX a o e).symm.trans ha)
    subst eo
    exact .inr ⟨scrO vs, vs.toArray, _, e, rfl, rfl, rfl, by rw [List.size_toArray, len]; exact hl, by simpa using rv⟩
theorem scr_ok (ha : s1.heap.get? a = some (scrO vs)) (hi : IntsAre vs ns) (hl : ns.length ≤ sizeLine) : HOk P w (scr K a vs ns) s1.heap := fun b u h => by
  obtain ⟨⟨rfl, _⟩, rfl⟩ := scr_some h
  exact ⟨ha, by rw [List.length_map]; exact hl, vs, _, vals_ints hi, ha⟩
theorem scr_env (KX : K.In s1.heap) (hns : s1.heap.Ns mainGlobals mg) (hb : s1.heap.Ns builtinsNs mb) (hbb : ∀ x : Str, x ≠ "__name__" → mb x = bootBuiltins x) (hlim : s1.heap.NoLimit) (hg : s1.gens = #[])
    (ha : s1.heap.get? a = some (scrO vs)) (hi : IntsAre vs ns) (hl : ns.length ≤ sizeLine) : Env0 P w K mg (hidT s1.heap (scr K a vs ns)) callerA [] s1 (scr K a vs ns) := by
  have nsK : ∀ (b : Addr) (m : Str → Option Value), s1.heap.Ns b m → (hidT s1.heap (scr K a vs ns)).Ns b m := by
    rintro b m ⟨o, es, ep, e, d, r⟩
    refine ⟨o, es, ep, hidT_get e (scr_none (.inl ?_)), d, r⟩
    rintro rfl
    rw [ha] at e
    cases e
    exact nomatch (show Data.seq vs.toArray _ = Data.dict es ep from d)
  have kK : K.In (hidT s1.heap (scr K a vs ns)) := fun b o e => hidT_get (KX b o e) (scr_none (by
    by_cases z : b = a
    · refine .inr fun q => ?_
      rw [← z, e] at q
      cases q
    · exact .inl z))
  obtain ⟨mc, l1, l2⟩ := hlim
  refine ⟨rfl, ⟨kK, nsK _ _ hns, ⟨mb, nsK _ _ hb, hbb⟩, ⟨mc, nsK _ _ l1, l2⟩⟩, fun b o e => of_hidT e, Nat.le_of_eq (hidT_size _ _), trivial, fun b hb => absurd (show b ∈ ([] : List Addr) from hb) List.not_mem_nil, scr_ok ha hi hl, .of_eq hg⟩
theorem law_hand (KX : K.In s1.heap) (hns : s1.heap.Ns mainGlobals mg) (hb : s1.heap.Ns builtinsNs mb) (hbb : ∀ x : Str, x ≠ "__name__" → mb x = bootBuiltins x) (hlim : s1.heap.NoLimit) (hg : s1.gens = #[])
    (ha : s1.heap.get? a = some (scrO vs)) (hi : IntsAre vs ns) (hl : ns.length ≤ sizeLine) (hr : Room k callerA) (F : ∀ base : Heap, K.In base → base.Ns mainGlobals mg → FnH P w K mg base k fa fd [x] sp)
    (hbind : ∀ (s : Shared) (u : Value), BindsTo s fd ⟨[u], []⟩ [(x, u)]) (hsp : ∀ H : Hp, SqL K H a (ns.map V.int) → sp [.ref a] H fun v _ => v = .bl true) :
    codeAny (model P w) callerA (.call (.ref fa) ⟨[.ref a], []⟩) (fun r s' => r = .ok (.ret (.bool true)) ∧ OldK s1.heap s'.heap ∧ s'.os = s1.os ∧ AllBare s'.gens) s1 := by
  have e0 := scr_env (P := P) (w := w) (ns := ns) KX hns hb hbb hlim hg ha hi hl
  have sq := scr_sq KX ha hi hl
  refine codeAny_mono ((F _ e0.mod.kin e0.mod.glob).run callerA [] s1 _ ⟨[.ref a], []⟩ [.ref a] [.ref a] _ hr rfl e0 (hbind s1 (.ref a)) (.cons rfl .nil) (hsp _ sq)) fun r s' h => ?_
  match r, h with
  | .ok (.ret u), ⟨v, H', os, bare, un, hok', rv, (q : v = .bl true)⟩ =>
    subst q
    have eu : u = Value.bool true := rv
    subst eu
    refine ⟨rfl, OldK.of_keep fun b o e => ?_, os, bare⟩
    cases q : scr K a vs ns b with
    | none => exact un.keep b o e q (fun z => absurd (show b ∈ ([] : List Addr) from z) List.not_mem_nil) (by simp)
    | some u =>
      obtain ⟨_, rfl⟩ := scr_some q
      obtain ⟨e1, _⟩ := scr_ok (P := P) (w := w) (K := K) ha hi hl b _ q
      obtain ⟨e2, _⟩ := hok' b _ (un.frzs b _ _ q)
      exact e2.trans (e1.symm.trans e)
end
/-- a law whose promise stands where no repr is under way -/
theorem walk_hand {l : PySem.W.OpenLaw} {n k : Nat} {q : Program} {loose : List Str} {XP : (Str → Option Value) → Heap → Prop} {YP : World → Heap → Prop} {d : DefRec} {x : Str}
    (hn : l.most = some n) (hn2 : n ≤ sizeLine) (hdf : d.params.defaults = []) (hr : Room k callerA)
    (F : ∀ (w : World) (mg : Str → Option Value) (fa : Addr) (h : Heap), YP w h → h.Ns mainGlobals mg → mg d.name = some (.ref fa) →
      ∃ (K : PySem.W.Frag) (fd : FuncData) (sp : List V → Hp → VK → Prop), K.In h ∧ (∀ (s : Shared) (u : Value), BindsTo s fd ⟨[u], []⟩ [(x, u)]) ∧
        (∀ (H : Hp) (a : Addr) (ns : List Int), ns.length ≤ n → SqL K H a (ns.map V.int) → sp [.ref a] H fun v _ => v = .bl true) ∧
        ∀ base : Heap, K.In base → base.Ns mainGlobals mg → FnH l.prog w K mg base k fa fd [x] sp) :
    PySem.W.WalkO q loose XP YP l.row.toRowW d [] (fun f vs => PySem.call f vs) := by
  refine Att.attach_call hn hdf fun w s₀ s₁ mg mb fa o pm cd doc a vs ns G Y ho hd hcd hmg hobj hints hlen hg => ?_
  obtain ⟨K, fd, sp, KX, hb, hsp, hF⟩ := F w mg fa _ Y G.T.g hmg
  exact law_hand KX G.T.g G.T.b G.T.builtins G.T.nolimit hg hobj hints (Nat.le_trans hlen hn2) hr hF hb fun H hS => hsp H a ns hlen hS
end GD
end

section
set_option Elab.async false
set_option linter.all false
set_option maxRecDepth 100000
set_option maxHeartbeats 4000000
/-! HG: every def known by its name and its promise (printed by mkkn.py). -/
namespace GD
open PySem PySem.Spec PyProof.Rows L2
section
variable {P : Program} {w : World} {K : PySem.W.Frag} {mg : Str → Option Value} {base : Heap} {x : Str} {params : Arguments} {body : List Stmt} {scope : Scope} {f : Addr} {fd : FuncData} {N ps ks : List Str} {n k : Nat} {S : List PyData → MD} {m : MS}
theorem mkKn (hg : mg x = some (.ref f)) (F : FunD K x x params body scope [] [] f fd) (sc : FnScope N ps scope) (hn : ps.length = n)
    (hb : ∀ (kV doc pm : Value) (an : Option Addr) (cdv ct : Value) (us : List Value), us.length = ps.length → bindArgs (PySem.W.fnOf x x params body scope .none kV doc pm an cdv ct) ⟨us, []⟩ = pure (ps.zip us))
    (len : ∀ ds P, S ds P → ds.length = ps.length) (mono : ∀ ds P P', (∀ d, P d → P' d) → S ds P → S ds P')
    (b : ∀ (cdv : Value) (A : Around) (outer : List Env) (s : Shared) (H : Hp), Room k (A.deeper (envOfC x scope s.heap.objs.size f cdv)) → (A.deeper (envOfC x scope s.heap.objs.size f cdv)).guards = some [] → DSs (cxOf CX0 P w K mg base N x scope f cdv A outer s H E0).nox body m)
    (sem : ∀ ds P, S ds P → m (startD N ds) (fun _ => P .none) P) : Kn P w K mg base x n (k + 1) S := ⟨f, fd, ps, hg, F.kp, F.bindsN hb, hn, fn_okG F sc len mono b sem⟩
theorem mkKK (hg : mg x = some (.ref f)) (F : FunD K x x params body scope [] [] f fd) (sc : FnScope N ps scope)
    (hb : ∀ (kV doc pm : Value) (an : Option Addr) (cdv ct : Value) (ws : List Value), ws.length = ks.length → bindArgs (PySem.W.fnOf x x params body scope .none kV doc pm an cdv ct) ⟨[], ks.zip ws⟩ = pure (ps.zip ws.reverse))
    (len : ∀ ds P, S ds P → ds.length = ps.length) (mono : ∀ ds P P', (∀ d, P d → P' d) → S ds P → S ds P')
    (b : ∀ (cdv : Value) (A : Around) (outer : List Env) (s : Shared) (H : Hp), Room k (A.deeper (envOfC x scope s.heap.objs.size f cdv)) → (A.deeper (envOfC x scope s.heap.objs.size f cdv)).guards = some [] → DSs (cxOf CX0 P w K mg base N x scope f cdv A outer s H E0).nox body m)
    (sem : ∀ ds P, S ds P → m (startD N ds) (fun _ => P .none) P) : KnK P w K mg base x ks (k + 1) S := by
  refine ⟨f, fd, ps, hg, F.kp, fun s ws hl => ?_, fn_okG F sc len mono b sem⟩
  obtain ⟨oc, od, dV, kV, doc, pm, an, cdv, ct, osl, rfl, lk, hcd, hD, hK⟩ := F.ex
  rcases hD with ⟨_, rfl⟩ | ⟨e, _⟩
  · exact .of_eq (hb kV doc pm an cdv ct ws hl)
  · exact absurd rfl e
theorem kn_p_is_whole (B : BF mg) (hg : mg "is_whole" = some (.ref f)) (F : FunD K "is_whole" "is_whole" (defArgs s_p_is_whole) (defBody s_p_is_whole) (defScope s_p_is_whole) [] [] f fd)  : Kn P w K mg base "is_whole" 1 1 S_p_is_whole :=
  mkKn hg F sc_p_is_whole rfl (fun _ _ _ _ _ _ us hl => match us, hl with | [_], _ => rfl) (fun ds P ⟨a, e, _⟩ => by rw [e]; first | rfl | (cases a <;> rfl)) (by first | exact sp1_mono | exact spN_mono) (b_p_is_whole B ) (fun ds P => sem_p_is_whole)
theorem kn_p_is_truth (B : BF mg) (hg : mg "is_truth" = some (.ref f)) (F : FunD K "is_truth" "is_truth" (defArgs s_p_is_truth) (defBody s_p_is_truth) (defScope s_p_is_truth) [] [] f fd)  : Kn P w K mg base "is_truth" 1 1 S_p_is_truth :=
  mkKn hg F sc_p_is_truth rfl (fun _ _ _ _ _ _ us hl => match us, hl with | [_], _ => rfl) (fun ds P ⟨a, e, _⟩ => by rw [e]; first | rfl | (cases a <;> rfl)) (by first | exact sp1_mono | exact spN_mono) (b_p_is_truth B ) (fun ds P => sem_p_is_truth)
theorem kn_p_are_wholes (B : BF mg) (hg : mg "are_wholes" = some (.ref f)) (F : FunD K "are_wholes" "are_wholes" (defArgs s_p_are_wholes) (defBody s_p_are_wholes) (defScope s_p_are_wholes) [] [] f fd) (k_p_is_whole : Kn P w K mg base "is_whole" 1 1 S_p_is_whole) : Kn P w K mg base "are_wholes" 2 2 S_p_are_wholes :=
  mkKn hg F sc_p_are_wholes rfl (fun _ _ _ _ _ _ us hl => match us, hl with | [_, _], _ => rfl) (fun ds P ⟨a, e, _⟩ => by rw [e]; first | rfl | (cases a <;> rfl)) (by first | exact sp1_mono | exact spN_mono) (b_p_are_wholes B k_p_is_whole) (fun ds P => sem_p_are_wholes)
theorem kn_p_is_ratio (B : BF mg) (hg : mg "is_ratio" = some (.ref f)) (F : FunD K "is_ratio" "is_ratio" (defArgs s_p_is_ratio) (defBody s_p_is_ratio) (defScope s_p_is_ratio) [] [] f fd) (k_p_are_wholes : Kn P w K mg base "are_wholes" 2 2 S_p_are_wholes) : Kn P w K mg base "is_ratio" 1 3 S_p_is_ratio :=
  mkKn hg F sc_p_is_ratio rfl (fun _ _ _ _ _ _ us hl => match us, hl with | [_], _ => rfl) (fun ds P ⟨a, e, _⟩ => by rw [e]; first | rfl | (cases a <;> rfl)) (by first | exact sp1_mono | exact spN_mono) (b_p_is_ratio B k_p_are_wholes) (fun ds P => sem_p_is_ratio)
theorem kn_p_ratio (B : BF mg) (hg : mg "ratio" = some (.ref f)) (F : FunD K "ratio" "ratio" (defArgs s_p_ratio) (defBody s_p_ratio) (defScope s_p_ratio) [] [] f fd)  : Kn P w K mg base "ratio" 2 1 S_p_ratio :=
  mkKn hg F sc_p_ratio rfl (fun _ _ _ _ _ _ us hl => match us, hl with | [_, _], _ => rfl) (fun ds P ⟨a, e, _⟩ => by rw [e]; first | rfl | (cases a <;> rfl)) (by first | exact sp1_mono | exact spN_mono) (b_p_ratio B ) (fun ds P => sem_p_ratio)
theorem kn_p_plus (B : BF mg) (hg : mg "plus" = some (.ref f)) (F : FunD K "plus" "plus" (defArgs s_p_plus) (defBody s_p_plus) (defScope s_p_plus) [] [] f fd) (k_p_ratio : Kn P w K mg base "ratio" 2 1 S_p_ratio) : Kn P w K mg base "plus" 2 2 S_p_plus :=
  mkKn hg F sc_p_plus rfl (fun _ _ _ _ _ _ us hl => match us, hl with | [_, _], _ => rfl) (fun ds P ⟨a, e, _⟩ => by rw [e]; first | rfl | (cases a <;> rfl)) (by first | exact sp1_mono | exact spN_mono) (b_p_plus B k_p_ratio) (fun ds P => sem_p_plus)
theorem kn_p_minus (B : BF mg) (hg : mg "minus" = some (.ref f)) (F : FunD K "minus" "minus" (defArgs s_p_minus) (defBody s_p_minus) (defScope s_p_minus) [] [] f fd) (k_p_ratio : Kn P w K mg base "ratio" 2 1 S_p_ratio) : Kn P w K mg base "minus" 2 2 S_p_minus :=
  mkKn hg F sc_p_minus rfl (fun _ _ _ _ _ _ us hl => match us, hl with | [_, _], _ => rfl) (fun ds P ⟨a, e, _⟩ => by rw [e]; first | rfl | (cases a <;> rfl)) (by first | exact sp1_mono | exact spN_mono) (b_p_minus B k_p_ratio) (fun ds P => sem_p_minus)
theorem kn_p_times (B : BF mg) (hg : mg "times" = some (.ref f)) (F : FunD K "times" "times" (defArgs s_p_times) (defBody s_p_times) (defScope s_p_times) [] [] f fd) (k_p_ratio : Kn P w K mg base "ratio" 2 1 S_p_ratio) : Kn P w K mg base "times" 2 2 S_p_times :=
  mkKn hg F sc_p_times rfl (fun _ _ _ _ _ _ us hl => match us, hl with | [_, _], _ => rfl) (fun ds P ⟨a, e, _⟩ => by rw [e]; first | rfl | (cases a <;> rfl)) (by first | exact sp1_mono | exact spN_mono) (b_p_times B k_p_ratio) (fun ds P => sem_p_times)
theorem kn_p_over (B : BF mg) (hg : mg "over" = some (.ref f)) (F : FunD K "over" "over" (defArgs s_p_over) (defBody s_p_over) (defScope s_p_over) [] [] f fd) (k_p_ratio : Kn P w K mg base "ratio" 2 1 S_p_ratio) : Kn P w K mg base "over" 2 2 S_p_over :=
  mkKn hg F sc_p_over rfl (fun _ _ _ _ _ _ us hl => match us, hl with | [_, _], _ => rfl) (fun ds P ⟨a, e, _⟩ => by rw [e]; first | rfl | (cases a <;> rfl)) (by first | exact sp1_mono | exact spN_mono) (b_p_over B k_p_ratio) (fun ds P => sem_p_over)
theorem kn_p_opposite (B : BF mg) (hg : mg "opposite" = some (.ref f)) (F : FunD K "opposite" "opposite" (defArgs s_p_opposite) (defBody s_p_opposite) (defScope s_p_opposite) [] [] f fd)  : Kn P w K mg base "opposite" 1 1 S_p_opposite :=
  mkKn hg F sc_p_opposite rfl (fun _ _ _ _ _ _ us hl => match us, hl with | [_], _ => rfl) (fun ds P ⟨a, e, _⟩ => by rw [e]; first | rfl | (cases a <;> rfl)) (by first | exact sp1_mono | exact spN_mono) (b_p_opposite B ) (fun ds P => sem_p_opposite)
theorem kn_p_sign_of (B : BF mg) (hg : mg "sign_of" = some (.ref f)) (F : FunD K "sign_of" "sign_of" (defArgs s_p_sign_of) (defBody s_p_sign_of) (defScope s_p_sign_of) [] [] f fd)  : Kn P w K mg base "sign_of" 1 1 S_p_sign_of :=
  mkKn hg F sc_p_sign_of rfl (fun _ _ _ _ _ _ us hl => match us, hl with | [_], _ => rfl) (fun ds P ⟨a, e, _⟩ => by rw [e]; first | rfl | (cases a <;> rfl)) (by first | exact sp1_mono | exact spN_mono) (b_p_sign_of B ) (fun ds P => sem_p_sign_of)
theorem kn_p_shared_under (B : BF mg) (hg : mg "shared_under" = some (.ref f)) (F : FunD K "shared_under" "shared_under" (defArgs s_p_shared_under) (defBody s_p_shared_under) (defScope s_p_shared_under) [] [] f fd)  : Kn P w K mg base "shared_under" 1 1 S_p_shared_under :=
  mkKn hg F sc_p_shared_under rfl (fun _ _ _ _ _ _ us hl => match us, hl with | [_], _ => rfl) (fun ds P ⟨a, e, _⟩ => by rw [e]; first | rfl | (cases a <;> rfl)) (by first | exact sp1_mono | exact spN_mono) (b_p_shared_under B ) (fun ds P => sem_p_shared_under)
theorem kn_p_is_square (B : BF mg) (hg : mg "is_square" = some (.ref f)) (F : FunD K "is_square" "is_square" (defArgs s_p_is_square) (defBody s_p_is_square) (defScope s_p_is_square) [] [] f fd)  : Kn P w K mg base "is_square" 1 1 S_p_is_square :=
  mkKn hg F sc_p_is_square rfl (fun _ _ _ _ _ _ us hl => match us, hl with | [_], _ => rfl) (fun ds P ⟨a, e, _⟩ => by rw [e]; first | rfl | (cases a <;> rfl)) (by first | exact sp1_mono | exact spN_mono) (b_p_is_square B ) (fun ds P => sem_p_is_square)
theorem kn_p_is_rooted (B : BF mg) (hg : mg "is_rooted" = some (.ref f)) (F : FunD K "is_rooted" "is_rooted" (defArgs s_p_is_rooted) (defBody s_p_is_rooted) (defScope s_p_is_rooted) [] [] f fd) (k_p_are_wholes : Kn P w K mg base "are_wholes" 2 2 S_p_are_wholes) (k_p_is_square : Kn P w K mg base "is_square" 1 1 S_p_is_square) (k_p_is_truth : Kn P w K mg base "is_truth" 1 1 S_p_is_truth) : Kn P w K mg base "is_rooted" 1 3 S_p_is_rooted :=
  mkKn hg F sc_p_is_rooted rfl (fun _ _ _ _ _ _ us hl => match us, hl with | [_], _ => rfl) (fun ds P ⟨a, e, _⟩ => by rw [e]; first | rfl | (cases a <;> rfl)) (by first | exact sp1_mono | exact spN_mono) (b_p_is_rooted B k_p_are_wholes k_p_is_square k_p_is_truth) (fun ds P => sem_p_is_rooted)
theorem kn_p_is_numbered (B : BF mg) (hg : mg "is_numbered" = some (.ref f)) (F : FunD K "is_numbered" "is_numbered" (defArgs s_p_is_numbered) (defBody s_p_is_numbered) (defScope s_p_is_numbered) [] [] f fd) (k_p_is_ratio : Kn P w K mg base "is_ratio" 1 3 S_p_is_ratio) (k_p_is_rooted : Kn P w K mg base "is_rooted" 1 3 S_p_is_rooted) : Kn P w K mg base "is_numbered" 1 4 S_p_is_numbered :=
  mkKn hg F sc_p_is_numbered rfl (fun _ _ _ _ _ _ us hl => match us, hl with | [_], _ => rfl) (fun ds P ⟨a, e, _⟩ => by rw [e]; first | rfl | (cases a <;> rfl)) (by first | exact sp1_mono | exact spN_mono) (b_p_is_numbered B k_p_is_ratio k_p_is_rooted) (fun ds P => sem_p_is_numbered)
theorem kn_p_parts_of (B : BF mg) (hg : mg "parts_of" = some (.ref f)) (F : FunD K "parts_of" "parts_of" (defArgs s_p_parts_of) (defBody s_p_parts_of) (defScope s_p_parts_of) [] [] f fd) (g_ZERO : GVal K mg "ZERO" dZero) (k_p_ratio : Kn P w K mg base "ratio" 2 1 S_p_ratio) : Kn P w K mg base "parts_of" 1 2 S_p_parts_of :=
  mkKn hg F sc_p_parts_of rfl (fun _ _ _ _ _ _ us hl => match us, hl with | [_], _ => rfl) (fun ds P ⟨a, e, _⟩ => by rw [e]; first | rfl | (cases a <;> rfl)) (by first | exact sp1_mono | exact spN_mono) (b_p_parts_of B g_ZERO k_p_ratio) (fun ds P => sem_p_parts_of)
theorem kn_p_number_from (B : BF mg) (hg : mg "number_from" = some (.ref f)) (F : FunD K "number_from" "number_from" (defArgs s_p_number_from) (defBody s_p_number_from) (defScope s_p_number_from) [] [] f fd) (g_TWO : GVal K mg "TWO" dTwo) (g_ZERO : GVal K mg "ZERO" dZero) (k_p_is_square : Kn P w K mg base "is_square" 1 1 S_p_is_square) (k_p_minus : Kn P w K mg base "minus" 2 2 S_p_minus) (k_p_opposite : Kn P w K mg base "opposite" 1 1 S_p_opposite) (k_p_plus : Kn P w K mg base "plus" 2 2 S_p_plus) (k_p_shared_under : Kn P w K mg base "shared_under" 1 1 S_p_shared_under) (k_p_times : Kn P w K mg base "times" 2 2 S_p_times) : Kn P w K mg base "number_from" 3 3 S_p_number_from :=
  mkKn hg F sc_p_number_from rfl (fun _ _ _ _ _ _ us hl => match us, hl with | [_, _, _], _ => rfl) (fun ds P ⟨a, e, _⟩ => by rw [e]; first | rfl | (cases a <;> rfl)) (by first | exact sp1_mono | exact spN_mono) (b_p_number_from B g_TWO g_ZERO k_p_is_square k_p_minus k_p_opposite k_p_plus k_p_shared_under k_p_times) (fun ds P => sem_p_number_from)
theorem kn_p_sign_one (B : BF mg) (hg : mg "sign_one" = some (.ref f)) (F : FunD K "sign_one" "sign_one" (defArgs s_p_sign_one) (defBody s_p_sign_one) (defScope s_p_sign_one) [] [] f fd) (k_p_minus : Kn P w K mg base "minus" 2 2 S_p_minus) (k_p_sign_of : Kn P w K mg base "sign_of" 1 1 S_p_sign_of) (k_p_times : Kn P w K mg base "times" 2 2 S_p_times) : Kn P w K mg base "sign_one" 3 3 S_p_sign_one :=
  mkKn hg F sc_p_sign_one rfl (fun _ _ _ _ _ _ us hl => match us, hl with | [_, _, _], _ => rfl) (fun ds P ⟨a, e, _⟩ => by rw [e]; first | rfl | (cases a <;> rfl)) (by first | exact sp1_mono | exact spN_mono) (b_p_sign_one B k_p_minus k_p_sign_of k_p_times) (fun ds P => sem_p_sign_one)
theorem kn_p_do_lie_in_one (B : BF mg) (hg : mg "do_lie_in_one" = some (.ref f)) (F : FunD K "do_lie_in_one" "do_lie_in_one" (defArgs s_p_do_lie_in_one) (defBody s_p_do_lie_in_one) (defScope s_p_do_lie_in_one) [] [] f fd) (k_p_is_square : Kn P w K mg base "is_square" 1 1 S_p_is_square) (k_p_parts_of : Kn P w K mg base "parts_of" 1 2 S_p_parts_of) : Kn P w K mg base "do_lie_in_one" 2 3 S_p_do_lie_in_one :=
  mkKn hg F sc_p_do_lie_in_one rfl (fun _ _ _ _ _ _ us hl => match us, hl with | [_, _], _ => rfl) (fun ds P ⟨a, e, _⟩ => by rw [e]; first | rfl | (cases a <;> rfl)) (by first | exact sp1_mono | exact spN_mono) (b_p_do_lie_in_one B k_p_is_square k_p_parts_of) (fun ds P => sem_p_do_lie_in_one)
theorem kn_p_in_one (B : BF mg) (hg : mg "in_one" = some (.ref f)) (F : FunD K "in_one" "in_one" (defArgs s_p_in_one) (defBody s_p_in_one) (defScope s_p_in_one) [] [] f fd) (g_ONE : GVal K mg "ONE" dOne) (g_ZERO : GVal K mg "ZERO" dZero) (k_p_parts_of : Kn P w K mg base "parts_of" 1 2 S_p_parts_of) (k_p_ratio : Kn P w K mg base "ratio" 2 1 S_p_ratio) (k_p_times : Kn P w K mg base "times" 2 2 S_p_times) : Kn P w K mg base "in_one" 2 3 S_p_in_one :=
  mkKn hg F sc_p_in_one rfl (fun _ _ _ _ _ _ us hl => match us, hl with | [_, _], _ => rfl) (fun ds P ⟨a, e, _⟩ => by rw [e]; first | rfl | (cases a <;> rfl)) (by first | exact sp1_mono | exact spN_mono) (b_p_in_one B g_ONE g_ZERO k_p_parts_of k_p_ratio k_p_times) (fun ds P => sem_p_in_one)
theorem kn_p_is_pointed (B : BF mg) (hg : mg "is_pointed" = some (.ref f)) (F : FunD K "is_pointed" "is_pointed" (defArgs s_p_is_pointed) (defBody s_p_is_pointed) (defScope s_p_is_pointed) [] [] f fd) (k_p_is_ratio : Kn P w K mg base "is_ratio" 1 3 S_p_is_ratio) : Kn P w K mg base "is_pointed" 1 4 S_p_is_pointed :=
  mkKn hg F sc_p_is_pointed rfl (fun _ _ _ _ _ _ us hl => match us, hl with | [_], _ => rfl) (fun ds P ⟨a, e, _⟩ => by rw [e]; first | rfl | (cases a <;> rfl)) (by first | exact sp1_mono | exact spN_mono) (b_p_is_pointed B k_p_is_ratio) (fun ds P => sem_p_is_pointed)
theorem kn_p_is_placed (B : BF mg) (hg : mg "is_placed" = some (.ref f)) (F : FunD K "is_placed" "is_placed" (defArgs s_p_is_placed) (defBody s_p_is_placed) (defScope s_p_is_placed) [] [] f fd) (k_p_do_lie_in_one : Kn P w K mg base "do_lie_in_one" 2 3 S_p_do_lie_in_one) (k_p_is_numbered : Kn P w K mg base "is_numbered" 1 4 S_p_is_numbered) : Kn P w K mg base "is_placed" 1 5 S_p_is_placed :=
  mkKn hg F sc_p_is_placed rfl (fun _ _ _ _ _ _ us hl => match us, hl with | [_], _ => rfl) (fun ds P ⟨a, e, _⟩ => by rw [e]; first | rfl | (cases a <;> rfl)) (by first | exact sp1_mono | exact spN_mono) (b_p_is_placed B k_p_do_lie_in_one k_p_is_numbered) (fun ds P => sem_p_is_placed)
theorem kn_p_is_curved (B : BF mg) (hg : mg "is_curved" = some (.ref f)) (F : FunD K "is_curved" "is_curved" (defArgs s_p_is_curved) (defBody s_p_is_curved) (defScope s_p_is_curved) [] [] f fd) (g_ZERO : GVal K mg "ZERO" dZero) (k_p_is_ratio : Kn P w K mg base "is_ratio" 1 3 S_p_is_ratio) : Kn P w K mg base "is_curved" 1 4 S_p_is_curved :=
  mkKn hg F sc_p_is_curved rfl (fun _ _ _ _ _ _ us hl => match us, hl with | [_], _ => rfl) (fun ds P ⟨a, e, _⟩ => by rw [e]; first | rfl | (cases a <;> rfl)) (by first | exact sp1_mono | exact spN_mono) (b_p_is_curved B g_ZERO k_p_is_ratio) (fun ds P => sem_p_is_curved)
theorem kn_p_is_line (B : BF mg) (hg : mg "is_line" = some (.ref f)) (F : FunD K "is_line" "is_line" (defArgs s_p_is_line) (defBody s_p_is_line) (defScope s_p_is_line) [] [] f fd)  : Kn P w K mg base "is_line" 1 1 S_p_is_line :=
  mkKn hg F sc_p_is_line rfl (fun _ _ _ _ _ _ us hl => match us, hl with | [_], _ => rfl) (fun ds P ⟨a, e, _⟩ => by rw [e]; first | rfl | (cases a <;> rfl)) (by first | exact sp1_mono | exact spN_mono) (b_p_is_line B ) (fun ds P => sem_p_is_line)
theorem kn_p_sign_by (B : BF mg) (hg : mg "sign_by" = some (.ref f)) (F : FunD K "sign_by" "sign_by" (defArgs s_p_sign_by) (defBody s_p_sign_by) (defScope s_p_sign_by) [] [] f fd) (g_TWO : GVal K mg "TWO" dTwo) (k_p_in_one : Kn P w K mg base "in_one" 2 3 S_p_in_one) (k_p_is_line : Kn P w K mg base "is_line" 1 1 S_p_is_line) (k_p_minus : Kn P w K mg base "minus" 2 2 S_p_minus) (k_p_plus : Kn P w K mg base "plus" 2 2 S_p_plus) (k_p_sign_one : Kn P w K mg base "sign_one" 3 3 S_p_sign_one) (k_p_times : Kn P w K mg base "times" 2 2 S_p_times) : Kn P w K mg base "sign_by" 2 4 S_p_sign_by :=
  mkKn hg F sc_p_sign_by rfl (fun _ _ _ _ _ _ us hl => match us, hl with | [_, _], _ => rfl) (fun ds P ⟨a, e, _⟩ => by rw [e]; first | rfl | (cases a <;> rfl)) (by first | exact sp1_mono | exact spN_mono) (b_p_sign_by B g_TWO k_p_in_one k_p_is_line k_p_minus k_p_plus k_p_sign_one k_p_times) (fun ds P => sem_p_sign_by)
theorem kn_p_is_led (B : BF mg) (hg : mg "is_led" = some (.ref f)) (F : FunD K "is_led" "is_led" (defArgs s_p_is_led) (defBody s_p_is_led) (defScope s_p_is_led) [] [] f fd) (g_START : GVal K mg "START" dStart) (k_p_is_pointed : Kn P w K mg base "is_pointed" 1 4 S_p_is_pointed) (k_p_is_truth : Kn P w K mg base "is_truth" 1 1 S_p_is_truth) : Kn P w K mg base "is_led" 1 5 S_p_is_led :=
  mkKn hg F sc_p_is_led rfl (fun _ _ _ _ _ _ us hl => match us, hl with | [_], _ => rfl) (fun ds P ⟨a, e, _⟩ => by rw [e]; first | rfl | (cases a <;> rfl)) (by first | exact sp1_mono | exact spN_mono) (b_p_is_led B g_START k_p_is_pointed k_p_is_truth) (fun ds P => sem_p_is_led)
theorem kn_p_is_wayed (B : BF mg) (hg : mg "is_wayed" = some (.ref f)) (F : FunD K "is_wayed" "is_wayed" (defArgs s_p_is_wayed) (defBody s_p_is_wayed) (defScope s_p_is_wayed) [] [] f fd) (g_START : GVal K mg "START" dStart) (k_p_is_pointed : Kn P w K mg base "is_pointed" 1 4 S_p_is_pointed) : Kn P w K mg base "is_wayed" 1 5 S_p_is_wayed :=
  mkKn hg F sc_p_is_wayed rfl (fun _ _ _ _ _ _ us hl => match us, hl with | [_], _ => rfl) (fun ds P ⟨a, e, _⟩ => by rw [e]; first | rfl | (cases a <;> rfl)) (by first | exact sp1_mono | exact spN_mono) (b_p_is_wayed B g_START k_p_is_pointed) (fun ds P => sem_p_is_wayed)
theorem kn_p_sum_of (B : BF mg) (hg : mg "sum_of" = some (.ref f)) (F : FunD K "sum_of" "sum_of" (defArgs s_p_sum_of) (defBody s_p_sum_of) (defScope s_p_sum_of) [] [] f fd) (k_p_plus : Kn P w K mg base "plus" 2 2 S_p_plus) : Kn P w K mg base "sum_of" 2 3 S_p_sum_of :=
  mkKn hg F sc_p_sum_of rfl (fun _ _ _ _ _ _ us hl => match us, hl with | [_, _], _ => rfl) (fun ds P ⟨a, e, _⟩ => by rw [e]; first | rfl | (cases a <;> rfl)) (by first | exact sp1_mono | exact spN_mono) (b_p_sum_of B k_p_plus) (fun ds P => sem_p_sum_of)
theorem kn_p_scaled_by (B : BF mg) (hg : mg "scaled_by" = some (.ref f)) (F : FunD K "scaled_by" "scaled_by" (defArgs s_p_scaled_by) (defBody s_p_scaled_by) (defScope s_p_scaled_by) [] [] f fd) (k_p_times : Kn P w K mg base "times" 2 2 S_p_times) : Kn P w K mg base "scaled_by" 2 3 S_p_scaled_by :=
  mkKn hg F sc_p_scaled_by rfl (fun _ _ _ _ _ _ us hl => match us, hl with | [_, _], _ => rfl) (fun ds P ⟨a, e, _⟩ => by rw [e]; first | rfl | (cases a <;> rfl)) (by first | exact sp1_mono | exact spN_mono) (b_p_scaled_by B k_p_times) (fun ds P => sem_p_scaled_by)
theorem kn_p_dot_of (B : BF mg) (hg : mg "dot_of" = some (.ref f)) (F : FunD K "dot_of" "dot_of" (defArgs s_p_dot_of) (defBody s_p_dot_of) (defScope s_p_dot_of) [] [] f fd) (k_p_plus : Kn P w K mg base "plus" 2 2 S_p_plus) (k_p_times : Kn P w K mg base "times" 2 2 S_p_times) : Kn P w K mg base "dot_of" 2 3 S_p_dot_of :=
  mkKn hg F sc_p_dot_of rfl (fun _ _ _ _ _ _ us hl => match us, hl with | [_, _], _ => rfl) (fun ds P ⟨a, e, _⟩ => by rw [e]; first | rfl | (cases a <;> rfl)) (by first | exact sp1_mono | exact spN_mono) (b_p_dot_of B k_p_plus k_p_times) (fun ds P => sem_p_dot_of)
theorem kn_p_product_of (B : BF mg) (hg : mg "product_of" = some (.ref f)) (F : FunD K "product_of" "product_of" (defArgs s_p_product_of) (defBody s_p_product_of) (defScope s_p_product_of) [] [] f fd) (k_p_minus : Kn P w K mg base "minus" 2 2 S_p_minus) (k_p_plus : Kn P w K mg base "plus" 2 2 S_p_plus) (k_p_times : Kn P w K mg base "times" 2 2 S_p_times) : Kn P w K mg base "product_of" 2 3 S_p_product_of :=
  mkKn hg F sc_p_product_of rfl (fun _ _ _ _ _ _ us hl => match us, hl with | [_, _], _ => rfl) (fun ds P ⟨a, e, _⟩ => by rw [e]; first | rfl | (cases a <;> rfl)) (by first | exact sp1_mono | exact spN_mono) (b_p_product_of B k_p_minus k_p_plus k_p_times) (fun ds P => sem_p_product_of)
theorem kn_p_flipped_if (B : BF mg) (hg : mg "flipped_if" = some (.ref f)) (F : FunD K "flipped_if" "flipped_if" (defArgs s_p_flipped_if) (defBody s_p_flipped_if) (defScope s_p_flipped_if) [] [] f fd) (k_p_opposite : Kn P w K mg base "opposite" 1 1 S_p_opposite) : Kn P w K mg base "flipped_if" 2 2 S_p_flipped_if :=
  mkKn hg F sc_p_flipped_if rfl (fun _ _ _ _ _ _ us hl => match us, hl with | [_, _], _ => rfl) (fun ds P ⟨a, e, _⟩ => by rw [e]; first | rfl | (cases a <;> rfl)) (by first | exact sp1_mono | exact spN_mono) (b_p_flipped_if B k_p_opposite) (fun ds P => sem_p_flipped_if)
theorem kn_p_under_one (B : BF mg) (hg : mg "under_one" = some (.ref f)) (F : FunD K "under_one" "under_one" (defArgs s_p_under_one) (defBody s_p_under_one) (defScope s_p_under_one) [] [] f fd) (g_ONE : GVal K mg "ONE" dOne) (k_p_dot_of : Kn P w K mg base "dot_of" 2 3 S_p_dot_of) (k_p_opposite : Kn P w K mg base "opposite" 1 1 S_p_opposite) (k_p_over : Kn P w K mg base "over" 2 2 S_p_over) (k_p_scaled_by : Kn P w K mg base "scaled_by" 2 3 S_p_scaled_by) : Kn P w K mg base "under_one" 1 4 S_p_under_one :=
  mkKn hg F sc_p_under_one rfl (fun _ _ _ _ _ _ us hl => match us, hl with | [_], _ => rfl) (fun ds P ⟨a, e, _⟩ => by rw [e]; first | rfl | (cases a <;> rfl)) (by first | exact sp1_mono | exact spN_mono) (b_p_under_one B g_ONE k_p_dot_of k_p_opposite k_p_over k_p_scaled_by) (fun ds P => sem_p_under_one)
theorem kn_p_is_rigid_by (B : BF mg) (hg : mg "is_rigid_by" = some (.ref f)) (F : FunD K "is_rigid_by" "is_rigid_by" (defArgs s_p_is_rigid_by) (defBody s_p_is_rigid_by) (defScope s_p_is_rigid_by) [] [] f fd) (g_ONE : GVal K mg "ONE" dOne) (k_p_dot_of : Kn P w K mg base "dot_of" 2 3 S_p_dot_of) : Kn P w K mg base "is_rigid_by" 1 4 S_p_is_rigid_by :=
  mkKn hg F sc_p_is_rigid_by rfl (fun _ _ _ _ _ _ us hl => match us, hl with | [_], _ => rfl) (fun ds P ⟨a, e, _⟩ => by rw [e]; first | rfl | (cases a <;> rfl)) (by first | exact sp1_mono | exact spN_mono) (b_p_is_rigid_by B g_ONE k_p_dot_of) (fun ds P => sem_p_is_rigid_by)
theorem kn_p_led_way (B : BF mg) (hg : mg "led_way" = some (.ref f)) (F : FunD K "led_way" "led_way" (defArgs s_p_led_way) (defBody s_p_led_way) (defScope s_p_led_way) [] [] f fd) (k_p_flipped_if : Kn P w K mg base "flipped_if" 2 2 S_p_flipped_if) (k_p_product_of : Kn P w K mg base "product_of" 2 3 S_p_product_of) : Kn P w K mg base "led_way" 2 4 S_p_led_way :=
  mkKn hg F sc_p_led_way rfl (fun _ _ _ _ _ _ us hl => match us, hl with | [_, _], _ => rfl) (fun ds P ⟨a, e, _⟩ => by rw [e]; first | rfl | (cases a <;> rfl)) (by first | exact sp1_mono | exact spN_mono) (b_p_led_way B k_p_flipped_if k_p_product_of) (fun ds P => sem_p_led_way)
theorem kn_p_lead_point (B : BF mg) (hg : mg "lead_point" = some (.ref f)) (F : FunD K "lead_point" "lead_point" (defArgs s_p_lead_point) (defBody s_p_lead_point) (defScope s_p_lead_point) [] [] f fd) (k_p_led_way : Kn P w K mg base "led_way" 2 4 S_p_led_way) (k_p_sum_of : Kn P w K mg base "sum_of" 2 3 S_p_sum_of) : Kn P w K mg base "lead_point" 2 5 S_p_lead_point :=
  mkKn hg F sc_p_lead_point rfl (fun _ _ _ _ _ _ us hl => match us, hl with | [_, _], _ => rfl) (fun ds P ⟨a, e, _⟩ => by rw [e]; first | rfl | (cases a <;> rfl)) (by first | exact sp1_mono | exact spN_mono) (b_p_lead_point B k_p_led_way k_p_sum_of) (fun ds P => sem_p_lead_point)
theorem kn_p_lead_place (B : BF mg) (hg : mg "lead_place" = some (.ref f)) (F : FunD K "lead_place" "lead_place" (defArgs s_p_lead_place) (defBody s_p_lead_place) (defScope s_p_lead_place) [] [] f fd) (k_p_in_one : Kn P w K mg base "in_one" 2 3 S_p_in_one) (k_p_lead_point : Kn P w K mg base "lead_point" 2 5 S_p_lead_point) (k_p_led_way : Kn P w K mg base "led_way" 2 4 S_p_led_way) (k_p_number_from : Kn P w K mg base "number_from" 3 3 S_p_number_from) : Kn P w K mg base "lead_place" 2 6 S_p_lead_place :=
  mkKn hg F sc_p_lead_place rfl (fun _ _ _ _ _ _ us hl => match us, hl with | [_, _], _ => rfl) (fun ds P ⟨a, e, _⟩ => by rw [e]; first | rfl | (cases a <;> rfl)) (by first | exact sp1_mono | exact spN_mono) (b_p_lead_place B k_p_in_one k_p_lead_point k_p_led_way k_p_number_from) (fun ds P => sem_p_lead_place)
theorem kn_p_lead_curve (B : BF mg) (hg : mg "lead_curve" = some (.ref f)) (F : FunD K "lead_curve" "lead_curve" (defArgs s_p_lead_curve) (defBody s_p_lead_curve) (defScope s_p_lead_curve) [] [] f fd) (k_p_dot_of : Kn P w K mg base "dot_of" 2 3 S_p_dot_of) (k_p_is_line : Kn P w K mg base "is_line" 1 1 S_p_is_line) (k_p_lead_point : Kn P w K mg base "lead_point" 2 5 S_p_lead_point) (k_p_led_way : Kn P w K mg base "led_way" 2 4 S_p_led_way) (k_p_plus : Kn P w K mg base "plus" 2 2 S_p_plus) (k_p_times : Kn P w K mg base "times" 2 2 S_p_times) : Kn P w K mg base "lead_curve" 2 6 S_p_lead_curve :=
  mkKn hg F sc_p_lead_curve rfl (fun _ _ _ _ _ _ us hl => match us, hl with | [_, _], _ => rfl) (fun ds P ⟨a, e, _⟩ => by rw [e]; first | rfl | (cases a <;> rfl)) (by first | exact sp1_mono | exact spN_mono) (b_p_lead_curve B k_p_dot_of k_p_is_line k_p_lead_point k_p_led_way k_p_plus k_p_times) (fun ds P => sem_p_lead_curve)
theorem kn_p_lead_behind (B : BF mg) (hg : mg "lead_behind" = some (.ref f)) (F : FunD K "lead_behind" "lead_behind" (defArgs s_p_lead_behind) (defBody s_p_lead_behind) (defScope s_p_lead_behind) [] [] f fd) (k_p_flipped_if : Kn P w K mg base "flipped_if" 2 2 S_p_flipped_if) (k_p_lead_point : Kn P w K mg base "lead_point" 2 5 S_p_lead_point) (k_p_product_of : Kn P w K mg base "product_of" 2 3 S_p_product_of) : Kn P w K mg base "lead_behind" 2 6 S_p_lead_behind :=
  mkKn hg F sc_p_lead_behind rfl (fun _ _ _ _ _ _ us hl => match us, hl with | [_, _], _ => rfl) (fun ds P ⟨a, e, _⟩ => by rw [e]; first | rfl | (cases a <;> rfl)) (by first | exact sp1_mono | exact spN_mono) (b_p_lead_behind B k_p_flipped_if k_p_lead_point k_p_product_of) (fun ds P => sem_p_lead_behind)
theorem kn_p_back_by (B : BF mg) (hg : mg "back_by" = some (.ref f)) (F : FunD K "back_by" "back_by" (defArgs s_p_back_by) (defBody s_p_back_by) (defScope s_p_back_by) [] [] f fd) (k_p_flipped_if : Kn P w K mg base "flipped_if" 2 2 S_p_flipped_if) (k_p_product_of : Kn P w K mg base "product_of" 2 3 S_p_product_of) (k_p_scaled_by : Kn P w K mg base "scaled_by" 2 3 S_p_scaled_by) (k_p_under_one : Kn P w K mg base "under_one" 1 4 S_p_under_one) : Kn P w K mg base "back_by" 1 5 S_p_back_by :=
  mkKn hg F sc_p_back_by rfl (fun _ _ _ _ _ _ us hl => match us, hl with | [_], _ => rfl) (fun ds P ⟨a, e, _⟩ => by rw [e]; first | rfl | (cases a <;> rfl)) (by first | exact sp1_mono | exact spN_mono) (b_p_back_by B k_p_flipped_if k_p_product_of k_p_scaled_by k_p_under_one) (fun ds P => sem_p_back_by)
theorem kn_p_move_by (B : BF mg) (hg : mg "move_by" = some (.ref f)) (F : FunD K "move_by" "move_by" (defArgs s_p_move_by) (defBody s_p_move_by) (defScope s_p_move_by) [] [] f fd) (g_ONE : GVal K mg "ONE" dOne) (g_ZERO : GVal K mg "ZERO" dZero) : Kn P w K mg base "move_by" 1 1 S_p_move_by :=
  mkKn hg F sc_p_move_by rfl (fun _ _ _ _ _ _ us hl => match us, hl with | [_], _ => rfl) (fun ds P ⟨a, e, _⟩ => by rw [e]; first | rfl | (cases a <;> rfl)) (by first | exact sp1_mono | exact spN_mono) (b_p_move_by B g_ONE g_ZERO) (fun ds P => sem_p_move_by)
theorem kn_p_turn_by (B : BF mg) (hg : mg "turn_by" = some (.ref f)) (F : FunD K "turn_by" "turn_by" (defArgs s_p_turn_by) (defBody s_p_turn_by) (defScope s_p_turn_by) [] [] f fd) (g_ONE : GVal K mg "ONE" dOne) (g_START : GVal K mg "START" dStart) (k_p_dot_of : Kn P w K mg base "dot_of" 2 3 S_p_dot_of) (k_p_over : Kn P w K mg base "over" 2 2 S_p_over) (k_p_product_of : Kn P w K mg base "product_of" 2 3 S_p_product_of) (k_p_scaled_by : Kn P w K mg base "scaled_by" 2 3 S_p_scaled_by) : Kn P w K mg base "turn_by" 1 4 S_p_turn_by :=
  mkKn hg F sc_p_turn_by rfl (fun _ _ _ _ _ _ us hl => match us, hl with | [_], _ => rfl) (fun ds P ⟨a, e, _⟩ => by rw [e]; first | rfl | (cases a <;> rfl)) (by first | exact sp1_mono | exact spN_mono) (b_p_turn_by B g_ONE g_START k_p_dot_of k_p_over k_p_product_of k_p_scaled_by) (fun ds P => sem_p_turn_by)
theorem kn_p_mirror_by (B : BF mg) (hg : mg "mirror_by" = some (.ref f)) (F : FunD K "mirror_by" "mirror_by" (defArgs s_p_mirror_by) (defBody s_p_mirror_by) (defScope s_p_mirror_by) [] [] f fd) (g_TWO : GVal K mg "TWO" dTwo) (k_p_dot_of : Kn P w K mg base "dot_of" 2 3 S_p_dot_of) (k_p_over : Kn P w K mg base "over" 2 2 S_p_over) (k_p_product_of : Kn P w K mg base "product_of" 2 3 S_p_product_of) (k_p_scaled_by : Kn P w K mg base "scaled_by" 2 3 S_p_scaled_by) (k_p_times : Kn P w K mg base "times" 2 2 S_p_times) : Kn P w K mg base "mirror_by" 1 4 S_p_mirror_by :=
  mkKn hg F sc_p_mirror_by rfl (fun _ _ _ _ _ _ us hl => match us, hl with | [_], _ => rfl) (fun ds P ⟨a, e, _⟩ => by rw [e]; first | rfl | (cases a <;> rfl)) (by first | exact sp1_mono | exact spN_mono) (b_p_mirror_by B g_TWO k_p_dot_of k_p_over k_p_product_of k_p_scaled_by k_p_times) (fun ds P => sem_p_mirror_by)
theorem kn_p_check_point (B : BF mg) (hg : mg "check_point" = some (.ref f)) (F : FunD K "check_point" "check_point" (defArgs s_p_check_point) (defBody s_p_check_point) (defScope s_p_check_point) [] [] f fd) (k_p_is_pointed : Kn P w K mg base "is_pointed" 1 4 S_p_is_pointed) : Kn P w K mg base "check_point" 1 5 S_p_check_point :=
  mkKn hg F sc_p_check_point rfl (fun _ _ _ _ _ _ us hl => match us, hl with | [_], _ => rfl) (fun ds P ⟨a, e, _⟩ => by rw [e]; first | rfl | (cases a <;> rfl)) (by first | exact sp1_mono | exact spN_mono) (b_p_check_point B k_p_is_pointed) (fun ds P => sem_p_check_point)
theorem kn_p_check_place (B : BF mg) (hg : mg "check_place" = some (.ref f)) (F : FunD K "check_place" "check_place" (defArgs s_p_check_place) (defBody s_p_check_place) (defScope s_p_check_place) [] [] f fd) (k_p_is_placed : Kn P w K mg base "is_placed" 1 5 S_p_is_placed) : Kn P w K mg base "check_place" 1 6 S_p_check_place :=
  mkKn hg F sc_p_check_place rfl (fun _ _ _ _ _ _ us hl => match us, hl with | [_], _ => rfl) (fun ds P ⟨a, e, _⟩ => by rw [e]; first | rfl | (cases a <;> rfl)) (by first | exact sp1_mono | exact spN_mono) (b_p_check_place B k_p_is_placed) (fun ds P => sem_p_check_place)
theorem kn_p_check_curve (B : BF mg) (hg : mg "check_curve" = some (.ref f)) (F : FunD K "check_curve" "check_curve" (defArgs s_p_check_curve) (defBody s_p_check_curve) (defScope s_p_check_curve) [] [] f fd) (k_p_is_curved : Kn P w K mg base "is_curved" 1 4 S_p_is_curved) : Kn P w K mg base "check_curve" 1 5 S_p_check_curve :=
  mkKn hg F sc_p_check_curve rfl (fun _ _ _ _ _ _ us hl => match us, hl with | [_], _ => rfl) (fun ds P ⟨a, e, _⟩ => by rw [e]; first | rfl | (cases a <;> rfl)) (by first | exact sp1_mono | exact spN_mono) (b_p_check_curve B k_p_is_curved) (fun ds P => sem_p_check_curve)
theorem kn_p_check_lead (B : BF mg) (hg : mg "check_lead" = some (.ref f)) (F : FunD K "check_lead" "check_lead" (defArgs s_p_check_lead) (defBody s_p_check_lead) (defScope s_p_check_lead) [] [] f fd) (k_p_is_led : Kn P w K mg base "is_led" 1 5 S_p_is_led) : Kn P w K mg base "check_lead" 1 6 S_p_check_lead :=
  mkKn hg F sc_p_check_lead rfl (fun _ _ _ _ _ _ us hl => match us, hl with | [_], _ => rfl) (fun ds P ⟨a, e, _⟩ => by rw [e]; first | rfl | (cases a <;> rfl)) (by first | exact sp1_mono | exact spN_mono) (b_p_check_lead B k_p_is_led) (fun ds P => sem_p_check_lead)
theorem kn_p_is_lead (B : BF mg) (hg : mg "is_lead" = some (.ref f)) (F : FunD K "is_lead" "is_lead" (defArgs s_p_is_lead) (defBody s_p_is_lead) (defScope s_p_is_lead) [] [] f fd) (k_p_is_led : Kn P w K mg base "is_led" 1 5 S_p_is_led) : Kn P w K mg base "is_lead" 1 6 S_p_is_lead :=
  mkKn hg F sc_p_is_lead rfl (fun _ _ _ _ _ _ us hl => match us, hl with | [_], _ => rfl) (fun ds P ⟨a, e, _⟩ => by rw [e]; first | rfl | (cases a <;> rfl)) (by first | exact sp1_mono | exact spN_mono) (b_p_is_lead B k_p_is_led) (fun ds P => sem_p_is_lead)
theorem kn_p_led_place (B : BF mg) (hg : mg "led_place" = some (.ref f)) (F : FunD K "led_place" "led_place" (defArgs s_p_led_place) (defBody s_p_led_place) (defScope s_p_led_place) [] [] f fd) (k_p_check_lead : Kn P w K mg base "check_lead" 1 6 S_p_check_lead) (k_p_check_place : Kn P w K mg base "check_place" 1 6 S_p_check_place) (k_p_lead_place : Kn P w K mg base "lead_place" 2 6 S_p_lead_place) : Kn P w K mg base "led_place" 2 7 S_p_led_place :=
  mkKn hg F sc_p_led_place rfl (fun _ _ _ _ _ _ us hl => match us, hl with | [_, _], _ => rfl) (fun ds P ⟨a, e, _⟩ => by rw [e]; first | rfl | (cases a <;> rfl)) (by first | exact sp1_mono | exact spN_mono) (b_p_led_place B k_p_check_lead k_p_check_place k_p_lead_place) (fun ds P => sem_p_led_place)
theorem kn_p_led_curve (B : BF mg) (hg : mg "led_curve" = some (.ref f)) (F : FunD K "led_curve" "led_curve" (defArgs s_p_led_curve) (defBody s_p_led_curve) (defScope s_p_led_curve) [] [] f fd) (k_p_check_curve : Kn P w K mg base "check_curve" 1 5 S_p_check_curve) (k_p_check_lead : Kn P w K mg base "check_lead" 1 6 S_p_check_lead) (k_p_lead_curve : Kn P w K mg base "lead_curve" 2 6 S_p_lead_curve) : Kn P w K mg base "led_curve" 2 7 S_p_led_curve :=
  mkKn hg F sc_p_led_curve rfl (fun _ _ _ _ _ _ us hl => match us, hl with | [_, _], _ => rfl) (fun ds P ⟨a, e, _⟩ => by rw [e]; first | rfl | (cases a <;> rfl)) (by first | exact sp1_mono | exact spN_mono) (b_p_led_curve B k_p_check_curve k_p_check_lead k_p_lead_curve) (fun ds P => sem_p_led_curve)
theorem kn_p_behind (B : BF mg) (hg : mg "behind" = some (.ref f)) (F : FunD K "behind" "behind" (defArgs s_p_behind) (defBody s_p_behind) (defScope s_p_behind) [] [] f fd) (k_p_check_lead : Kn P w K mg base "check_lead" 1 6 S_p_check_lead) (k_p_lead_behind : Kn P w K mg base "lead_behind" 2 6 S_p_lead_behind) : Kn P w K mg base "behind" 2 7 S_p_behind :=
  mkKn hg F sc_p_behind rfl (fun _ _ _ _ _ _ us hl => match us, hl with | [_, _], _ => rfl) (fun ds P ⟨a, e, _⟩ => by rw [e]; first | rfl | (cases a <;> rfl)) (by first | exact sp1_mono | exact spN_mono) (b_p_behind B k_p_check_lead k_p_lead_behind) (fun ds P => sem_p_behind)
theorem kn_p_back (B : BF mg) (hg : mg "back" = some (.ref f)) (F : FunD K "back" "back" (defArgs s_p_back) (defBody s_p_back) (defScope s_p_back) [] [] f fd) (k_p_back_by : Kn P w K mg base "back_by" 1 5 S_p_back_by) (k_p_check_lead : Kn P w K mg base "check_lead" 1 6 S_p_check_lead) : Kn P w K mg base "back" 1 7 S_p_back :=
  mkKn hg F sc_p_back rfl (fun _ _ _ _ _ _ us hl => match us, hl with | [_], _ => rfl) (fun ds P ⟨a, e, _⟩ => by rw [e]; first | rfl | (cases a <;> rfl)) (by first | exact sp1_mono | exact spN_mono) (b_p_back B k_p_back_by k_p_check_lead) (fun ds P => sem_p_back)
theorem kn_p_is_rigid (B : BF mg) (hg : mg "is_rigid" = some (.ref f)) (F : FunD K "is_rigid" "is_rigid" (defArgs s_p_is_rigid) (defBody s_p_is_rigid) (defScope s_p_is_rigid) [] [] f fd) (k_p_check_lead : Kn P w K mg base "check_lead" 1 6 S_p_check_lead) (k_p_is_rigid_by : Kn P w K mg base "is_rigid_by" 1 4 S_p_is_rigid_by) : Kn P w K mg base "is_rigid" 1 7 S_p_is_rigid :=
  mkKn hg F sc_p_is_rigid rfl (fun _ _ _ _ _ _ us hl => match us, hl with | [_], _ => rfl) (fun ds P ⟨a, e, _⟩ => by rw [e]; first | rfl | (cases a <;> rfl)) (by first | exact sp1_mono | exact spN_mono) (b_p_is_rigid B k_p_check_lead k_p_is_rigid_by) (fun ds P => sem_p_is_rigid)
theorem kn_p_move (B : BF mg) (hg : mg "move" = some (.ref f)) (F : FunD K "move" "move" (defArgs s_p_move) (defBody s_p_move) (defScope s_p_move) [] [] f fd) (k_p_check_point : Kn P w K mg base "check_point" 1 5 S_p_check_point) (k_p_move_by : Kn P w K mg base "move_by" 1 1 S_p_move_by) : Kn P w K mg base "move" 1 6 S_p_move :=
  mkKn hg F sc_p_move rfl (fun _ _ _ _ _ _ us hl => match us, hl with | [_], _ => rfl) (fun ds P ⟨a, e, _⟩ => by rw [e]; first | rfl | (cases a <;> rfl)) (by first | exact sp1_mono | exact spN_mono) (b_p_move B k_p_check_point k_p_move_by) (fun ds P => sem_p_move)
theorem kn_p_turn (B : BF mg) (hg : mg "turn" = some (.ref f)) (F : FunD K "turn" "turn" (defArgs s_p_turn) (defBody s_p_turn) (defScope s_p_turn) [] [] f fd) (k_p_is_wayed : Kn P w K mg base "is_wayed" 1 5 S_p_is_wayed) (k_p_turn_by : Kn P w K mg base "turn_by" 1 4 S_p_turn_by) : Kn P w K mg base "turn" 1 6 S_p_turn :=
  mkKn hg F sc_p_turn rfl (fun _ _ _ _ _ _ us hl => match us, hl with | [_], _ => rfl) (fun ds P ⟨a, e, _⟩ => by rw [e]; first | rfl | (cases a <;> rfl)) (by first | exact sp1_mono | exact spN_mono) (b_p_turn B k_p_is_wayed k_p_turn_by) (fun ds P => sem_p_turn)
theorem kn_p_mirror (B : BF mg) (hg : mg "mirror" = some (.ref f)) (F : FunD K "mirror" "mirror" (defArgs s_p_mirror) (defBody s_p_mirror) (defScope s_p_mirror) [] [] f fd) (k_p_check_curve : Kn P w K mg base "check_curve" 1 5 S_p_check_curve) (k_p_is_line : Kn P w K mg base "is_line" 1 1 S_p_is_line) (k_p_mirror_by : Kn P w K mg base "mirror_by" 1 4 S_p_mirror_by) : Kn P w K mg base "mirror" 1 6 S_p_mirror :=
  mkKn hg F sc_p_mirror rfl (fun _ _ _ _ _ _ us hl => match us, hl with | [_], _ => rfl) (fun ds P ⟨a, e, _⟩ => by rw [e]; first | rfl | (cases a <;> rfl)) (by first | exact sp1_mono | exact spN_mono) (b_p_mirror B k_p_check_curve k_p_is_line k_p_mirror_by) (fun ds P => sem_p_mirror)
theorem kn_p_sign_at (B : BF mg) (hg : mg "sign_at" = some (.ref f)) (F : FunD K "sign_at" "sign_at" (defArgs s_p_sign_at) (defBody s_p_sign_at) (defScope s_p_sign_at) [] [] f fd) (k_p_check_curve : Kn P w K mg base "check_curve" 1 5 S_p_check_curve) (k_p_check_place : Kn P w K mg base "check_place" 1 6 S_p_check_place) (k_p_sign_by : Kn P w K mg base "sign_by" 2 4 S_p_sign_by) : Kn P w K mg base "sign_at" 2 7 S_p_sign_at :=
  mkKn hg F sc_p_sign_at rfl (fun _ _ _ _ _ _ us hl => match us, hl with | [_, _], _ => rfl) (fun ds P ⟨a, e, _⟩ => by rw [e]; first | rfl | (cases a <;> rfl)) (by first | exact sp1_mono | exact spN_mono) (b_p_sign_at B k_p_check_curve k_p_check_place k_p_sign_by) (fun ds P => sem_p_sign_at)
theorem kn_l_draw (B : BF mg) (hg : mg "_law_draw" = some (.ref f)) (F : FunD K "_law_draw" "_law_draw" (defArgs s_l_draw) (defBody s_l_draw) (defScope s_l_draw) [] [] f fd)  : Kn P w K mg base "_law_draw" 2 1 S_l_draw :=
  mkKn hg F sc_l_draw rfl (fun _ _ _ _ _ _ us hl => match us, hl with | [_, _], _ => rfl) (fun ds P ⟨a, e, _⟩ => by rw [e]; first | rfl | (cases a <;> rfl)) (by first | exact sp1_mono | exact spN_mono) (b_l_draw B ) (fun ds P => sem_l_draw)
theorem kn_l_pick (B : BF mg) (hg : mg "_law_pick" = some (.ref f)) (F : FunD K "_law_pick" "_law_pick" (defArgs s_l_pick) (defBody s_l_pick) (defScope s_l_pick) [] [] f fd) (k_l_draw : Kn P w K mg base "_law_draw" 2 1 S_l_draw) : Kn P w K mg base "_law_pick" 2 2 S_l_pick :=
  mkKn hg F sc_l_pick rfl (fun _ _ _ _ _ _ us hl => match us, hl with | [_, _], _ => rfl) (fun ds P ⟨a, e, _⟩ => by rw [e]; first | rfl | (cases a <;> rfl)) (by first | exact sp1_mono | exact spN_mono) (b_l_pick B k_l_draw) (fun ds P => sem_l_pick)
theorem kn_l_divisor (B : BF mg) (hg : mg "_law_divisor" = some (.ref f)) (F : FunD K "_law_divisor" "_law_divisor" (defArgs s_l_divisor) (defBody s_l_divisor) (defScope s_l_divisor) [] [] f fd)  : Kn P w K mg base "_law_divisor" 2 1 S_l_divisor :=
  mkKn hg F sc_l_divisor rfl (fun _ _ _ _ _ _ us hl => match us, hl with | [_, _], _ => rfl) (fun ds P ⟨a, e, _⟩ => by rw [e]; first | rfl | (cases a <;> rfl)) (by first | exact sp1_mono | exact spN_mono) (b_l_divisor B ) (fun ds P => sem_l_divisor)
theorem kn_l_lean (B : BF mg) (hg : mg "_law_lean" = some (.ref f)) (F : FunD K "_law_lean" "_law_lean" (defArgs s_l_lean) (defBody s_l_lean) (defScope s_l_lean) [] [] f fd) (k_l_divisor : Kn P w K mg base "_law_divisor" 2 1 S_l_divisor) : Kn P w K mg base "_law_lean" 2 2 S_l_lean :=
  mkKn hg F sc_l_lean rfl (fun _ _ _ _ _ _ us hl => match us, hl with | [_, _], _ => rfl) (fun ds P ⟨a, e, _⟩ => by rw [e]; first | rfl | (cases a <;> rfl)) (by first | exact sp1_mono | exact spN_mono) (b_l_lean B k_l_divisor) (fun ds P => sem_l_lean)
theorem kn_l_sum (B : BF mg) (hg : mg "_law_sum" = some (.ref f)) (F : FunD K "_law_sum" "_law_sum" (defArgs s_l_sum) (defBody s_l_sum) (defScope s_l_sum) [] [] f fd) (k_l_lean : Kn P w K mg base "_law_lean" 2 2 S_l_lean) : Kn P w K mg base "_law_sum" 2 3 S_l_sum :=
  mkKn hg F sc_l_sum rfl (fun _ _ _ _ _ _ us hl => match us, hl with | [_, _], _ => rfl) (fun ds P ⟨a, e, _⟩ => by rw [e]; first | rfl | (cases a <;> rfl)) (by first | exact sp1_mono | exact spN_mono) (b_l_sum B k_l_lean) (fun ds P => sem_l_sum)
theorem kn_l_product (B : BF mg) (hg : mg "_law_product" = some (.ref f)) (F : FunD K "_law_product" "_law_product" (defArgs s_l_product) (defBody s_l_product) (defScope s_l_product) [] [] f fd) (k_l_lean : Kn P w K mg base "_law_lean" 2 2 S_l_lean) : Kn P w K mg base "_law_product" 2 3 S_l_product :=
  mkKn hg F sc_l_product rfl (fun _ _ _ _ _ _ us hl => match us, hl with | [_, _], _ => rfl) (fun ds P ⟨a, e, _⟩ => by rw [e]; first | rfl | (cases a <;> rfl)) (by first | exact sp1_mono | exact spN_mono) (b_l_product B k_l_lean) (fun ds P => sem_l_product)
theorem kn_l_side (B : BF mg) (hg : mg "_law_side" = some (.ref f)) (F : FunD K "_law_side" "_law_side" (defArgs s_l_side) (defBody s_l_side) (defScope s_l_side) [] [] f fd)  : Kn P w K mg base "_law_side" 1 1 S_l_side :=
  mkKn hg F sc_l_side rfl (fun _ _ _ _ _ _ us hl => match us, hl with | [_], _ => rfl) (fun ds P ⟨a, e, _⟩ => by rw [e]; first | rfl | (cases a <;> rfl)) (by first | exact sp1_mono | exact spN_mono) (b_l_side B ) (fun ds P => sem_l_side)
theorem kn_l_sign (B : BF mg) (hg : mg "_law_sign" = some (.ref f)) (F : FunD K "_law_sign" "_law_sign" (defArgs s_l_sign) (defBody s_l_sign) (defScope s_l_sign) [] [] f fd) (k_l_side : Kn P w K mg base "_law_side" 1 1 S_l_side) : Kn P w K mg base "_law_sign" 3 2 S_l_sign :=
  mkKn hg F sc_l_sign rfl (fun _ _ _ _ _ _ us hl => match us, hl with | [_, _, _], _ => rfl) (fun ds P ⟨a, e, _⟩ => by rw [e]; first | rfl | (cases a <;> rfl)) (by first | exact sp1_mono | exact spN_mono) (b_l_sign B k_l_side) (fun ds P => sem_l_sign)
theorem kn_l_sign_two (B : BF mg) (hg : mg "_law_sign_two" = some (.ref f)) (F : FunD K "_law_sign_two" "_law_sign_two" (defArgs s_l_sign_two) (defBody s_l_sign_two) (defScope s_l_sign_two) [] [] f fd) (k_l_side : Kn P w K mg base "_law_side" 1 1 S_l_side) (k_l_sign : Kn P w K mg base "_law_sign" 3 2 S_l_sign) : Kn P w K mg base "_law_sign_two" 5 3 S_l_sign_two :=
  mkKn hg F sc_l_sign_two rfl (fun _ _ _ _ _ _ us hl => match us, hl with | [_, _, _, _, _], _ => rfl) (fun ds P ⟨a, e, _⟩ => by rw [e]; first | rfl | (cases a <;> rfl)) (by first | exact sp1_mono | exact spN_mono) (b_l_sign_two B k_l_side k_l_sign) (fun ds P => sem_l_sign_two)
theorem kn_l_order (B : BF mg) (hg : mg "_law_order" = some (.ref f)) (F : FunD K "_law_order" "_law_order" (defArgs s_l_order) (defBody s_l_order) (defScope s_l_order) [] [] f fd) (k_l_sign_two : Kn P w K mg base "_law_sign_two" 5 3 S_l_sign_two) : Kn P w K mg base "_law_order" 2 4 S_l_order :=
  mkKn hg F sc_l_order rfl (fun _ _ _ _ _ _ us hl => match us, hl with | [_, _], _ => rfl) (fun ds P ⟨a, e, _⟩ => by rw [e]; first | rfl | (cases a <;> rfl)) (by first | exact sp1_mono | exact spN_mono) (b_l_order B k_l_sign_two) (fun ds P => sem_l_order)
theorem kn_l_floor (B : BF mg) (hg : mg "_law_floor" = some (.ref f)) (F : FunD K "_law_floor" "_law_floor" (defArgs s_l_floor) (defBody s_l_floor) (defScope s_l_floor) [] [] f fd)  : Kn P w K mg base "_law_floor" 1 1 S_l_floor :=
  mkKn hg F sc_l_floor rfl (fun _ _ _ _ _ _ us hl => match us, hl with | [_], _ => rfl) (fun ds P ⟨a, e, _⟩ => by rw [e]; first | rfl | (cases a <;> rfl)) (by first | exact sp1_mono | exact spN_mono) (b_l_floor B ) (fun ds P => sem_l_floor)
theorem kn_l_number (B : BF mg) (hg : mg "_law_number" = some (.ref f)) (F : FunD K "_law_number" "_law_number" (defArgs s_l_number) (defBody s_l_number) (defScope s_l_number) [] [] f fd) (k_l_divisor : Kn P w K mg base "_law_divisor" 2 1 S_l_divisor) (k_l_floor : Kn P w K mg base "_law_floor" 1 1 S_l_floor) (k_l_lean : Kn P w K mg base "_law_lean" 2 2 S_l_lean) : Kn P w K mg base "_law_number" 4 3 S_l_number :=
  mkKn hg F sc_l_number rfl (fun _ _ _ _ _ _ us hl => match us, hl with | [_, _, _, _], _ => rfl) (fun ds P ⟨a, e, _⟩ => by rw [e]; first | rfl | (cases a <;> rfl)) (by first | exact sp1_mono | exact spN_mono) (b_l_number B k_l_divisor k_l_floor k_l_lean) (fun ds P => sem_l_number)
theorem kn_l_told (B : BF mg) (hg : mg "_law_told" = some (.ref f)) (F : FunD K "_law_told" "_law_told" (defArgs s_l_told) (defBody s_l_told) (defScope s_l_told) [] [] f fd) (k_l_number : Kn P w K mg base "_law_number" 4 3 S_l_number) : Kn P w K mg base "_law_told" 1 4 S_l_told :=
  mkKn hg F sc_l_told rfl (fun _ _ _ _ _ _ us hl => match us, hl with | [_], _ => rfl) (fun ds P ⟨a, e, _⟩ => by rw [e]; first | rfl | (cases a <;> rfl)) (by first | exact sp1_mono | exact spN_mono) (b_l_told B k_l_number) (fun ds P => sem_l_told)
theorem kn_l_flat (B : BF mg) (hg : mg "_law_flat" = some (.ref f)) (F : FunD K "_law_flat" "_law_flat" (defArgs s_l_flat) (defBody s_l_flat) (defScope s_l_flat) [] [] f fd)  : Kn P w K mg base "_law_flat" 1 1 S_l_flat :=
  mkKn hg F sc_l_flat rfl (fun _ _ _ _ _ _ us hl => match us, hl with | [_], _ => rfl) (fun ds P ⟨a, e, _⟩ => by rw [e]; first | rfl | (cases a <;> rfl)) (by first | exact sp1_mono | exact spN_mono) (b_l_flat B ) (fun ds P => sem_l_flat)
theorem kn_l_at (B : BF mg) (hg : mg "_law_at" = some (.ref f)) (F : FunD K "_law_at" "_law_at" (defArgs s_l_at) (defBody s_l_at) (defScope s_l_at) [] [] f fd) (k_l_sign : Kn P w K mg base "_law_sign" 3 2 S_l_sign) : Kn P w K mg base "_law_at" 2 3 S_l_at :=
  mkKn hg F sc_l_at rfl (fun _ _ _ _ _ _ us hl => match us, hl with | [_, _], _ => rfl) (fun ds P ⟨a, e, _⟩ => by rw [e]; first | rfl | (cases a <;> rfl)) (by first | exact sp1_mono | exact spN_mono) (b_l_at B k_l_sign) (fun ds P => sem_l_at)
theorem kn_l_on_line (B : BF mg) (hg : mg "_law_on_line" = some (.ref f)) (F : FunD K "_law_on_line" "_law_on_line" (defArgs s_l_on_line) (defBody s_l_on_line) (defScope s_l_on_line) [] [] f fd)  : Kn P w K mg base "_law_on_line" 2 1 S_l_on_line :=
  mkKn hg F sc_l_on_line rfl (fun _ _ _ _ _ _ us hl => match us, hl with | [_, _], _ => rfl) (fun ds P ⟨a, e, _⟩ => by rw [e]; first | rfl | (cases a <;> rfl)) (by first | exact sp1_mono | exact spN_mono) (b_l_on_line B ) (fun ds P => sem_l_on_line)
theorem kn_l_meet (B : BF mg) (hg : mg "_law_meet" = some (.ref f)) (F : FunD K "_law_meet" "_law_meet" (defArgs s_l_meet) (defBody s_l_meet) (defScope s_l_meet) [] [] f fd) (k_l_on_line : Kn P w K mg base "_law_on_line" 2 1 S_l_on_line) (k_l_side : Kn P w K mg base "_law_side" 1 1 S_l_side) : Kn P w K mg base "_law_meet" 2 2 S_l_meet :=
  mkKn hg F sc_l_meet rfl (fun _ _ _ _ _ _ us hl => match us, hl with | [_, _], _ => rfl) (fun ds P ⟨a, e, _⟩ => by rw [e]; first | rfl | (cases a <;> rfl)) (by first | exact sp1_mono | exact spN_mono) (b_l_meet B k_l_on_line k_l_side) (fun ds P => sem_l_meet)
theorem kn_l_after (B : BF mg) (hg : mg "_law_after" = some (.ref f)) (F : FunD K "_law_after" "_law_after" (defArgs s_l_after) (defBody s_l_after) (defScope s_l_after) [] [] f fd) (k_l_order : Kn P w K mg base "_law_order" 2 4 S_l_order) : Kn P w K mg base "_law_after" 2 5 S_l_after :=
  mkKn hg F sc_l_after rfl (fun _ _ _ _ _ _ us hl => match us, hl with | [_, _], _ => rfl) (fun ds P ⟨a, e, _⟩ => by rw [e]; first | rfl | (cases a <;> rfl)) (by first | exact sp1_mono | exact spN_mono) (b_l_after B k_l_order) (fun ds P => sem_l_after)
theorem kn_l_small (B : BF mg) (hg : mg "_law_small" = some (.ref f)) (F : FunD K "_law_small" "_law_small" (defArgs s_l_small) (defBody s_l_small) (defScope s_l_small) [] [] f fd) (k_l_draw : Kn P w K mg base "_law_draw" 2 1 S_l_draw) (k_l_lean : Kn P w K mg base "_law_lean" 2 2 S_l_lean) : Kn P w K mg base "_law_small" 1 3 S_l_small :=
  mkKn hg F sc_l_small rfl (fun _ _ _ _ _ _ us hl => match us, hl with | [_], _ => rfl) (fun ds P ⟨a, e, _⟩ => by rw [e]; first | rfl | (cases a <;> rfl)) (by first | exact sp1_mono | exact spN_mono) (b_l_small B k_l_draw k_l_lean) (fun ds P => sem_l_small)
theorem kn_l_form (B : BF mg) (hg : mg "_law_form" = some (.ref f)) (F : FunD K "_law_form" "_law_form" (defArgs s_l_form) (defBody s_l_form) (defScope s_l_form) [] [] f fd) (k_l_divisor : Kn P w K mg base "_law_divisor" 2 1 S_l_divisor) : Kn P w K mg base "_law_form" 3 2 S_l_form :=
  mkKn hg F sc_l_form rfl (fun _ _ _ _ _ _ us hl => match us, hl with | [_, _, _], _ => rfl) (fun ds P ⟨a, e, _⟩ => by rw [e]; first | rfl | (cases a <;> rfl)) (by first | exact sp1_mono | exact spN_mono) (b_l_form B k_l_divisor) (fun ds P => sem_l_form)
theorem kn_l_norm (B : BF mg) (hg : mg "_law_norm" = some (.ref f)) (F : FunD K "_law_norm" "_law_norm" (defArgs s_l_norm) (defBody s_l_norm) (defScope s_l_norm) [] [] f fd) (k_l_product : Kn P w K mg base "_law_product" 2 3 S_l_product) (k_l_sum : Kn P w K mg base "_law_sum" 2 3 S_l_sum) : Kn P w K mg base "_law_norm" 2 4 S_l_norm :=
  mkKn hg F sc_l_norm rfl (fun _ _ _ _ _ _ us hl => match us, hl with | [_, _], _ => rfl) (fun ds P ⟨a, e, _⟩ => by rw [e]; first | rfl | (cases a <;> rfl)) (by first | exact sp1_mono | exact spN_mono) (b_l_norm B k_l_product k_l_sum) (fun ds P => sem_l_norm)
theorem kn_l_line (B : BF mg) (hg : mg "_law_line" = some (.ref f)) (F : FunD K "_law_line" "_law_line" (defArgs s_l_line) (defBody s_l_line) (defScope s_l_line) [] [] f fd) (k_l_draw : Kn P w K mg base "_law_draw" 2 1 S_l_draw) (k_l_form : Kn P w K mg base "_law_form" 3 2 S_l_form) (k_l_pick : Kn P w K mg base "_law_pick" 2 2 S_l_pick) (k_l_product : Kn P w K mg base "_law_product" 2 3 S_l_product) (k_l_small : Kn P w K mg base "_law_small" 1 3 S_l_small) (k_l_sum : Kn P w K mg base "_law_sum" 2 3 S_l_sum) : Kn P w K mg base "_law_line" 3 4 S_l_line :=
  mkKn hg F sc_l_line rfl (fun _ _ _ _ _ _ us hl => match us, hl with | [_, _, _], _ => rfl) (fun ds P ⟨a, e, _⟩ => by rw [e]; first | rfl | (cases a <;> rfl)) (by first | exact sp1_mono | exact spN_mono) (b_l_line B k_l_draw k_l_form k_l_pick k_l_product k_l_small k_l_sum) (fun ds P => sem_l_line)
theorem kn_l_ring (B : BF mg) (hg : mg "_law_ring" = some (.ref f)) (F : FunD K "_law_ring" "_law_ring" (defArgs s_l_ring) (defBody s_l_ring) (defScope s_l_ring) [] [] f fd) (k_l_draw : Kn P w K mg base "_law_draw" 2 1 S_l_draw) (k_l_norm : Kn P w K mg base "_law_norm" 2 4 S_l_norm) (k_l_pick : Kn P w K mg base "_law_pick" 2 2 S_l_pick) (k_l_product : Kn P w K mg base "_law_product" 2 3 S_l_product) (k_l_small : Kn P w K mg base "_law_small" 1 3 S_l_small) (k_l_sum : Kn P w K mg base "_law_sum" 2 3 S_l_sum) : Kn P w K mg base "_law_ring" 3 5 S_l_ring :=
  mkKn hg F sc_l_ring rfl (fun _ _ _ _ _ _ us hl => match us, hl with | [_, _, _], _ => rfl) (fun ds P ⟨a, e, _⟩ => by rw [e]; first | rfl | (cases a <;> rfl)) (by first | exact sp1_mono | exact spN_mono) (b_l_ring B k_l_draw k_l_norm k_l_pick k_l_product k_l_small k_l_sum) (fun ds P => sem_l_ring)
theorem kn_l_bow (B : BF mg) (hg : mg "_law_bow" = some (.ref f)) (F : FunD K "_law_bow" "_law_bow" (defArgs s_l_bow) (defBody s_l_bow) (defScope s_l_bow) [] [] f fd) (k_l_draw : Kn P w K mg base "_law_draw" 2 1 S_l_draw) (k_l_form : Kn P w K mg base "_law_form" 3 2 S_l_form) (k_l_line : Kn P w K mg base "_law_line" 3 4 S_l_line) (k_l_pick : Kn P w K mg base "_law_pick" 2 2 S_l_pick) (k_l_product : Kn P w K mg base "_law_product" 2 3 S_l_product) (k_l_ring : Kn P w K mg base "_law_ring" 3 5 S_l_ring) (k_l_sum : Kn P w K mg base "_law_sum" 2 3 S_l_sum) : Kn P w K mg base "_law_bow" 4 6 S_l_bow :=
  mkKn hg F sc_l_bow rfl (fun _ _ _ _ _ _ us hl => match us, hl with | [_, _, _, _], _ => rfl) (fun ds P ⟨a, e, _⟩ => by rw [e]; first | rfl | (cases a <;> rfl)) (by first | exact sp1_mono | exact spN_mono) (b_l_bow B k_l_draw k_l_form k_l_line k_l_pick k_l_product k_l_ring k_l_sum) (fun ds P => sem_l_bow)
theorem kn_l_turned (B : BF mg) (hg : mg "_law_turned" = some (.ref f)) (F : FunD K "_law_turned" "_law_turned" (defArgs s_l_turned) (defBody s_l_turned) (defScope s_l_turned) [] [] f fd) (k_l_product : Kn P w K mg base "_law_product" 2 3 S_l_product) (k_l_sum : Kn P w K mg base "_law_sum" 2 3 S_l_sum) : Kn P w K mg base "_law_turned" 2 4 S_l_turned :=
  mkKn hg F sc_l_turned rfl (fun _ _ _ _ _ _ us hl => match us, hl with | [_, _], _ => rfl) (fun ds P ⟨a, e, _⟩ => by rw [e]; first | rfl | (cases a <;> rfl)) (by first | exact sp1_mono | exact spN_mono) (b_l_turned B k_l_product k_l_sum) (fun ds P => sem_l_turned)
theorem kn_l_led (B : BF mg) (hg : mg "_law_led" = some (.ref f)) (F : FunD K "_law_led" "_law_led" (defArgs s_l_led) (defBody s_l_led) (defScope s_l_led) [] [] f fd) (k_l_norm : Kn P w K mg base "_law_norm" 2 4 S_l_norm) (k_l_product : Kn P w K mg base "_law_product" 2 3 S_l_product) (k_l_sum : Kn P w K mg base "_law_sum" 2 3 S_l_sum) (k_l_turned : Kn P w K mg base "_law_turned" 2 4 S_l_turned) : Kn P w K mg base "_law_led" 2 5 S_l_led :=
  mkKn hg F sc_l_led rfl (fun _ _ _ _ _ _ us hl => match us, hl with | [_, _], _ => rfl) (fun ds P ⟨a, e, _⟩ => by rw [e]; first | rfl | (cases a <;> rfl)) (by first | exact sp1_mono | exact spN_mono) (b_l_led B k_l_norm k_l_product k_l_sum k_l_turned) (fun ds P => sem_l_led)
theorem kn_l_undone (B : BF mg) (hg : mg "_law_undone" = some (.ref f)) (F : FunD K "_law_undone" "_law_undone" (defArgs s_l_undone) (defBody s_l_undone) (defScope s_l_undone) [] [] f fd) (k_l_norm : Kn P w K mg base "_law_norm" 2 4 S_l_norm) (k_l_product : Kn P w K mg base "_law_product" 2 3 S_l_product) (k_l_turned : Kn P w K mg base "_law_turned" 2 4 S_l_turned) : Kn P w K mg base "_law_undone" 1 5 S_l_undone :=
  mkKn hg F sc_l_undone rfl (fun _ _ _ _ _ _ us hl => match us, hl with | [_], _ => rfl) (fun ds P ⟨a, e, _⟩ => by rw [e]; first | rfl | (cases a <;> rfl)) (by first | exact sp1_mono | exact spN_mono) (b_l_undone B k_l_norm k_l_product k_l_turned) (fun ds P => sem_l_undone)
theorem kn_l_rule (B : BF mg) (hg : mg "_law_rule" = some (.ref f)) (F : FunD K "_law_rule" "_law_rule" (defArgs s_l_rule) (defBody s_l_rule) (defScope s_l_rule) [] [] f fd) (k_l_draw : Kn P w K mg base "_law_draw" 2 1 S_l_draw) (k_l_lean : Kn P w K mg base "_law_lean" 2 2 S_l_lean) (k_l_pick : Kn P w K mg base "_law_pick" 2 2 S_l_pick) (k_l_small : Kn P w K mg base "_law_small" 1 3 S_l_small) : Kn P w K mg base "_law_rule" 1 4 S_l_rule :=
  mkKn hg F sc_l_rule rfl (fun _ _ _ _ _ _ us hl => match us, hl with | [_], _ => rfl) (fun ds P ⟨a, e, _⟩ => by rw [e]; first | rfl | (cases a <;> rfl)) (by first | exact sp1_mono | exact spN_mono) (b_l_rule B k_l_draw k_l_lean k_l_pick k_l_small) (fun ds P => sem_l_rule)
theorem kn_l_led_spot (B : BF mg) (hg : mg "_law_led_spot" = some (.ref f)) (F : FunD K "_law_led_spot" "_law_led_spot" (defArgs s_l_led_spot) (defBody s_l_led_spot) (defScope s_l_led_spot) [] [] f fd)  : Kn P w K mg base "_law_led_spot" 2 1 S_l_led_spot :=
  mkKn hg F sc_l_led_spot rfl (fun _ _ _ _ _ _ us hl => match us, hl with | [_, _], _ => rfl) (fun ds P ⟨a, e, _⟩ => by rw [e]; first | rfl | (cases a <;> rfl)) (by first | exact sp1_mono | exact spN_mono) (b_l_led_spot B ) (fun ds P => sem_l_led_spot)
theorem kn_l_raw (B : BF mg) (hg : mg "_law_raw" = some (.ref f)) (F : FunD K "_law_raw" "_law_raw" (defArgs s_l_raw) (defBody s_l_raw) (defScope s_l_raw) [] [] f fd)  : Kn P w K mg base "_law_raw" 2 1 S_l_raw :=
  mkKn hg F sc_l_raw rfl (fun _ _ _ _ _ _ us hl => match us, hl with | [_, _], _ => rfl) (fun ds P ⟨a, e, _⟩ => by rw [e]; first | rfl | (cases a <;> rfl)) (by first | exact sp1_mono | exact spN_mono) (b_l_raw B ) (fun ds P => sem_l_raw)
theorem kn_l_crossing (B : BF mg) (hg : mg "_law_crossing" = some (.ref f)) (F : FunD K "_law_crossing" "_law_crossing" (defArgs s_l_crossing) (defBody s_l_crossing) (defScope s_l_crossing) [] [] f fd) (k_l_meet : Kn P w K mg base "_law_meet" 2 2 S_l_meet) (k_l_pick : Kn P w K mg base "_law_pick" 2 2 S_l_pick) (k_l_raw : Kn P w K mg base "_law_raw" 2 1 S_l_raw) (k_l_small : Kn P w K mg base "_law_small" 1 3 S_l_small) : Kn P w K mg base "_law_crossing" 3 4 S_l_crossing :=
  mkKn hg F sc_l_crossing rfl (fun _ _ _ _ _ _ us hl => match us, hl with | [_, _, _], _ => rfl) (fun ds P ⟨a, e, _⟩ => by rw [e]; first | rfl | (cases a <;> rfl)) (by first | exact sp1_mono | exact spN_mono) (b_l_crossing B k_l_meet k_l_pick k_l_raw k_l_small) (fun ds P => sem_l_crossing)
theorem kn_l_spot (B : BF mg) (hg : mg "_law_spot" = some (.ref f)) (F : FunD K "_law_spot" "_law_spot" (defArgs s_l_spot) (defBody s_l_spot) (defScope s_l_spot) [] [] f fd) (k_l_crossing : Kn P w K mg base "_law_crossing" 3 4 S_l_crossing) (k_l_draw : Kn P w K mg base "_law_draw" 2 1 S_l_draw) (k_l_flat : Kn P w K mg base "_law_flat" 1 1 S_l_flat) (k_l_line : Kn P w K mg base "_law_line" 3 4 S_l_line) (k_l_pick : Kn P w K mg base "_law_pick" 2 2 S_l_pick) (k_l_raw : Kn P w K mg base "_law_raw" 2 1 S_l_raw) (k_l_ring : Kn P w K mg base "_law_ring" 3 5 S_l_ring) (k_l_small : Kn P w K mg base "_law_small" 1 3 S_l_small) : Kn P w K mg base "_law_spot" 3 6 S_l_spot :=
  mkKn hg F sc_l_spot rfl (fun _ _ _ _ _ _ us hl => match us, hl with | [_, _, _], _ => rfl) (fun ds P ⟨a, e, _⟩ => by rw [e]; first | rfl | (cases a <;> rfl)) (by first | exact sp1_mono | exact spN_mono) (b_l_spot B k_l_crossing k_l_draw k_l_flat k_l_line k_l_pick k_l_raw k_l_ring k_l_small) (fun ds P => sem_l_spot)
theorem kn_l_both (B : BF mg) (hg : mg "_law_both" = some (.ref f)) (F : FunD K "_law_both" "_law_both" (defArgs s_l_both) (defBody s_l_both) (defScope s_l_both) [] [] f fd) (k_l_sum : Kn P w K mg base "_law_sum" 2 3 S_l_sum) (k_l_turned : Kn P w K mg base "_law_turned" 2 4 S_l_turned) : Kn P w K mg base "_law_both" 2 5 S_l_both :=
  mkKn hg F sc_l_both rfl (fun _ _ _ _ _ _ us hl => match us, hl with | [_, _], _ => rfl) (fun ds P ⟨a, e, _⟩ => by rw [e]; first | rfl | (cases a <;> rfl)) (by first | exact sp1_mono | exact spN_mono) (b_l_both B k_l_sum k_l_turned) (fun ds P => sem_l_both)
theorem kn_l_moves (B : BF mg) (hg : mg "_law_moves" = some (.ref f)) (F : FunD K "_law_moves" "_law_moves" (defArgs s_l_moves) (defBody s_l_moves) (defScope s_l_moves) [] [] f fd) (kk_p_turn : KnK P w K mg base "turn" ["way"] 7 S_p_turn) (k_l_draw : Kn P w K mg base "_law_draw" 2 1 S_l_draw) (k_l_norm : Kn P w K mg base "_law_norm" 2 4 S_l_norm) (k_l_product : Kn P w K mg base "_law_product" 2 3 S_l_product) (k_l_small : Kn P w K mg base "_law_small" 1 3 S_l_small) (k_l_sum : Kn P w K mg base "_law_sum" 2 3 S_l_sum) (k_p_is_lead : Kn P w K mg base "is_lead" 1 6 S_p_is_lead) (k_p_is_rigid : Kn P w K mg base "is_rigid" 1 7 S_p_is_rigid) (k_p_led_place : Kn P w K mg base "led_place" 2 7 S_p_led_place) (k_p_move : Kn P w K mg base "move" 1 6 S_p_move) (k_p_turn : Kn P w K mg base "turn" 1 6 S_p_turn) : Kn P w K mg base "_law_moves" 1 8 S_l_moves :=
  mkKn hg F sc_l_moves rfl (fun _ _ _ _ _ _ us hl => match us, hl with | [_], _ => rfl) (fun ds P ⟨a, e, _⟩ => by rw [e]; first | rfl | (cases a <;> rfl)) (by first | exact sp1_mono | exact spN_mono) (b_l_moves B kk_p_turn k_l_draw k_l_norm k_l_product k_l_small k_l_sum k_p_is_lead k_p_is_rigid k_p_led_place k_p_move k_p_turn) (fun ds P => sem_l_moves)
theorem kn_l_mirrors (B : BF mg) (hg : mg "_law_mirrors" = some (.ref f)) (F : FunD K "_law_mirrors" "_law_mirrors" (defArgs s_l_mirrors) (defBody s_l_mirrors) (defScope s_l_mirrors) [] [] f fd) (kk_p_mirror : KnK P w K mg base "mirror" ["curve"] 7 S_p_mirror) (k_l_line : Kn P w K mg base "_law_line" 3 4 S_l_line) (k_l_norm : Kn P w K mg base "_law_norm" 2 4 S_l_norm) (k_l_pick : Kn P w K mg base "_law_pick" 2 2 S_l_pick) (k_l_product : Kn P w K mg base "_law_product" 2 3 S_l_product) (k_l_small : Kn P w K mg base "_law_small" 1 3 S_l_small) (k_l_sum : Kn P w K mg base "_law_sum" 2 3 S_l_sum) (k_p_is_rigid : Kn P w K mg base "is_rigid" 1 7 S_p_is_rigid) (k_p_led_place : Kn P w K mg base "led_place" 2 7 S_p_led_place) (k_p_mirror : Kn P w K mg base "mirror" 1 6 S_p_mirror) : Kn P w K mg base "_law_mirrors" 1 8 S_l_mirrors :=
  mkKn hg F sc_l_mirrors rfl (fun _ _ _ _ _ _ us hl => match us, hl with | [_], _ => rfl) (fun ds P ⟨a, e, _⟩ => by rw [e]; first | rfl | (cases a <;> rfl)) (by first | exact sp1_mono | exact spN_mono) (b_l_mirrors B kk_p_mirror k_l_line k_l_norm k_l_pick k_l_product k_l_small k_l_sum k_p_is_rigid k_p_led_place k_p_mirror) (fun ds P => sem_l_mirrors)
theorem kn_l_right (B : BF mg) (hg : mg "_law_right" = some (.ref f)) (F : FunD K "_law_right" "_law_right" (defArgs s_l_right) (defBody s_l_right) (defScope s_l_right) [] [] f fd) (kk_p_behind : KnK P w K mg base "behind" ["later", "lead"] 8 S_p_behind) (kk_p_led_place : KnK P w K mg base "led_place" ["place", "lead"] 8 S_p_led_place) (k_l_at : Kn P w K mg base "_law_at" 2 3 S_l_at) (k_l_both : Kn P w K mg base "_law_both" 2 5 S_l_both) (k_l_bows : Kn P w K mg base "_law_bows" 2 7 S_l_bows) (k_l_flat : Kn P w K mg base "_law_flat" 1 1 S_l_flat) (k_l_led : Kn P w K mg base "_law_led" 2 5 S_l_led) (k_l_led_spot : Kn P w K mg base "_law_led_spot" 2 1 S_l_led_spot) (k_l_marks : Kn P w K mg base "_law_marks" 1 6 S_l_marks) (k_l_mirrors : Kn P w K mg base "_law_mirrors" 1 8 S_l_mirrors) (k_l_moves : Kn P w K mg base "_law_moves" 1 8 S_l_moves) (k_l_norm : Kn P w K mg base "_law_norm" 2 4 S_l_norm) (k_l_pick : Kn P w K mg base "_law_pick" 2 2 S_l_pick) (k_l_product : Kn P w K mg base "_law_product" 2 3 S_l_product) (k_l_rule : Kn P w K mg base "_law_rule" 1 4 S_l_rule) (k_l_spot : Kn P w K mg base "_law_spot" 3 6 S_l_spot) (k_l_told : Kn P w K mg base "_law_told" 1 4 S_l_told) (k_l_undone : Kn P w K mg base "_law_undone" 1 5 S_l_undone) (k_p_back : Kn P w K mg base "back" 1 7 S_p_back) (k_p_behind : Kn P w K mg base "behind" 2 7 S_p_behind) (k_p_is_lead : Kn P w K mg base "is_lead" 1 6 S_p_is_lead) (k_p_is_rigid : Kn P w K mg base "is_rigid" 1 7 S_p_is_rigid) (k_p_led_curve : Kn P w K mg base "led_curve" 2 7 S_p_led_curve) (k_p_led_place : Kn P w K mg base "led_place" 2 7 S_p_led_place) (k_p_sign_at : Kn P w K mg base "sign_at" 2 7 S_p_sign_at) : Kn P w K mg base "_law_right" 1 9 S_l_right :=
  mkKn hg F sc_l_right rfl (fun _ _ _ _ _ _ us hl => match us, hl with | [_], _ => rfl) (fun ds P ⟨a, e, _⟩ => by rw [e]; first | rfl | (cases a <;> rfl)) (by first | exact sp1_mono | exact spN_mono) (b_l_right B kk_p_behind kk_p_led_place k_l_at k_l_both k_l_bows k_l_flat k_l_led k_l_led_spot k_l_marks k_l_mirrors k_l_moves k_l_norm k_l_pick k_l_product k_l_rule k_l_spot k_l_told k_l_undone k_p_back k_p_behind k_p_is_lead k_p_is_rigid k_p_led_curve k_p_led_place k_p_sign_at) (fun ds P => sem_l_right)
theorem kk_p_behind (B : BF mg) (hg : mg "behind" = some (.ref f)) (F : FunD K "behind" "behind" (defArgs s_p_behind) (defBody s_p_behind) (defScope s_p_behind) [] [] f fd) (k_p_check_lead : Kn P w K mg base "check_lead" 1 6 S_p_check_lead) (k_p_lead_behind : Kn P w K mg base "lead_behind" 2 6 S_p_lead_behind) : KnK P w K mg base "behind" ["later", "lead"] 7 S_p_behind :=
  mkKK hg F sc_p_behind (fun _ _ _ _ _ _ us hl => match us, hl with | [_, _], _ => rfl) (fun ds P ⟨a, e, _⟩ => by rw [e]; first | rfl | (cases a <;> rfl)) (by first | exact sp1_mono | exact spN_mono) (b_p_behind B k_p_check_lead k_p_lead_behind) (fun ds P => sem_p_behind)
theorem kk_p_led_place (B : BF mg) (hg : mg "led_place" = some (.ref f)) (F : FunD K "led_place" "led_place" (defArgs s_p_led_place) (defBody s_p_led_place) (defScope s_p_led_place) [] [] f fd) (k_p_check_lead : Kn P w K mg base "check_lead" 1 6 S_p_check_lead) (k_p_check_place : Kn P w K mg base "check_place" 1 6 S_p_check_place) (k_p_lead_place : Kn P w K mg base "lead_place" 2 6 S_p_lead_place) : KnK P w K mg base "led_place" ["place", "lead"] 7 S_p_led_place :=
  mkKK hg F sc_p_led_place (fun _ _ _ _ _ _ us hl => match us, hl with | [_, _], _ => rfl) (fun ds P ⟨a, e, _⟩ => by rw [e]; first | rfl | (cases a <;> rfl)) (by first | exact sp1_mono | exact spN_mono) (b_p_led_place B k_p_check_lead k_p_check_place k_p_lead_place) (fun ds P => sem_p_led_place)
theorem kk_p_mirror (B : BF mg) (hg : mg "mirror" = some (.ref f)) (F : FunD K "mirror" "mirror" (defArgs s_p_mirror) (defBody s_p_mirror) (defScope s_p_mirror) [] [] f fd) (k_p_check_curve : Kn P w K mg base "check_curve" 1 5 S_p_check_curve) (k_p_is_line : Kn P w K mg base "is_line" 1 1 S_p_is_line) (k_p_mirror_by : Kn P w K mg base "mirror_by" 1 4 S_p_mirror_by) : KnK P w K mg base "mirror" ["curve"] 6 S_p_mirror :=
  mkKK hg F sc_p_mirror (fun _ _ _ _ _ _ us hl => match us, hl with | [_], _ => rfl) (fun ds P ⟨a, e, _⟩ => by rw [e]; first | rfl | (cases a <;> rfl)) (by first | exact sp1_mono | exact spN_mono) (b_p_mirror B k_p_check_curve k_p_is_line k_p_mirror_by) (fun ds P => sem_p_mirror)
theorem kk_p_turn (B : BF mg) (hg : mg "turn" = some (.ref f)) (F : FunD K "turn" "turn" (defArgs s_p_turn) (defBody s_p_turn) (defScope s_p_turn) [] [] f fd) (k_p_is_wayed : Kn P w K mg base "is_wayed" 1 5 S_p_is_wayed) (k_p_turn_by : Kn P w K mg base "turn_by" 1 4 S_p_turn_by) : KnK P w K mg base "turn" ["way"] 6 S_p_turn :=
  mkKK hg F sc_p_turn (fun _ _ _ _ _ _ us hl => match us, hl with | [_], _ => rfl) (fun ds P ⟨a, e, _⟩ => by rw [e]; first | rfl | (cases a <;> rfl)) (by first | exact sp1_mono | exact spN_mono) (b_p_turn B k_p_is_wayed k_p_turn_by) (fun ds P => sem_p_turn)
end
end GD
end

section
set_option Elab.async false
set_option linter.all false
set_option maxRecDepth 100000
set_option maxHeartbeats 0
/-! HH: the law's end over the head H0 (printed by mkhead.py). -/
namespace GD
open PySem PySem.Spec PyProof.Rows L2
theorem KnK.up {P : Program} {w : World} {K : PySem.W.Frag} {mg : Str → Option Value} {base : Heap} {x : Str} {ks : List Str} {j k : Nat} {S : List PyData → MD} (h : KnK P w K mg base x ks j S) (hj : j ≤ k) : KnK P w K mg base x ks k S := by
  obtain ⟨f, fd, ps, a, b, c, F⟩ := h.ex
  exact ⟨f, fd, ps, a, b, c, F.up hj⟩

section
variable {P : Program} {w : World} {K : PySem.W.Frag} {h base : Heap} {mg : Str → Option Value}
theorem hd_tup (X : K.In h) (G : h.Ns mainGlobals mg) {x : Str} {vs : List He.Dv} (t : He.tupB K x vs = true) (g : (He.Fa.glo x).ok K = true) {ds : List PyData} (r : ∀ wa H, RpA K wa H (vs.map (He.Dv.v K)) ds) : GVal K mg x (.tuple ds) :=
  ⟨_, .ref (He.ga K x), He.glo_ok X G g, rfl, fun wa H => .tup (He.tupB_ok t H) (r wa H)⟩
theorem the_law (X : K.In h) (G : h.Ns mainGlobals mg) (c : He.SaysD hdFa hdFn K) (ex : hdEx K = true) :
    ∃ fd : FuncData, (∀ (s : Shared) (u : Value), BindsTo s fd ⟨[u], []⟩ [("_law_script", u)]) ∧ mg "law" = some (.ref (He.ga K "law")) ∧ ∀ base : Heap, FnH P w K mg base 10 (He.ga K "law") fd ["_law_script"] (spLaw K) := by
  obtain ⟨ex1, ex2⟩ := He.ba ex
  obtain ⟨ex3, ex4⟩ := He.ba ex1
  obtain ⟨tZ, ex5⟩ := He.ba ex3
  obtain ⟨tO, ex6⟩ := He.ba ex5
  obtain ⟨tT, tS⟩ := He.ba ex6
  obtain ⟨gZ, ex7⟩ := He.ba ex4
  obtain ⟨gO, ex8⟩ := He.ba ex7
  obtain ⟨gT, gS⟩ := He.ba ex8
  obtain ⟨eG, eI⟩ := He.ba ex2
  have g_ZERO : GVal K mg "ZERO" dZero := hd_tup X G tZ gZ fun wa H => .cons (.int 0) (.cons (.int 1) .nil)
  have g_ONE : GVal K mg "ONE" dOne := hd_tup X G tO gO fun wa H => .cons (.int 1) (.cons (.int 1) .nil)
  have g_TWO : GVal K mg "TWO" dTwo := hd_tup X G tT gT fun wa H => .cons (.int 2) (.cons (.int 1) .nil)
  have rz : ∀ wa H, Rp K wa H (.ref (He.ga K "ZERO")) dZero := fun wa H => .tup (He.tupB_ok tZ H) (.cons (.int 0) (.cons (.int 1) .nil))
  have g_START : GVal K mg "START" dStart := hd_tup X G tS gS fun wa H => .cons (rz wa H) (.cons (rz wa H) .nil)
  have B : BF mg := ⟨He.free_ok X G (c.fact 97 (f := .free "isinstance") rfl), He.free_ok X G (c.fact 98 (f := .free "int") rfl), He.free_ok X G (c.fact 99 (f := .free "bool") rfl), He.free_ok X G (c.fact 100 (f := .free "tuple") rfl), He.free_ok X G (c.fact 101 (f := .free "str") rfl), He.free_ok X G (c.fact 102 (f := .free "len") rfl), He.free_ok X G (c.fact 103 (f := .free "abs") rfl), He.free_ok X G (c.fact 104 (f := .free "all") rfl), He.free_ok X G (c.fact 105 (f := .free "repr") rfl), He.free_ok X G (c.fact 106 (f := .free "range") rfl), He.free_ok X G (c.fact 107 (f := .free "zip") rfl), He.free_ok X G (c.fact 108 (f := .free "divmod") rfl), He.free_ok X G (c.fact 109 (f := .free "max") rfl), He.free_ok X G (c.fact 110 (f := .free "min") rfl), PySem.W.mg_of X G (He.eqO_ok eG), PySem.W.mg_of X G (He.eqO_ok eI)⟩
  obtain ⟨fd_p_is_whole, F_p_is_whole⟩ := c.def_ 0 rfl
  have m_p_is_whole : mg "is_whole" = some (.ref (He.ga K "is_whole")) := He.glo_ok X G (c.fact 0 (f := .glo "is_whole") rfl)
  obtain ⟨fd_p_is_truth, F_p_is_truth⟩ := c.def_ 1 rfl
  have m_p_is_truth : mg "is_truth" = some (.ref (He.ga K "is_truth")) := He.glo_ok X G (c.fact 1 (f := .glo "is_truth") rfl)
  obtain ⟨fd_p_are_wholes, F_p_are_wholes⟩ := c.def_ 2 rfl
  have m_p_are_wholes : mg "are_wholes" = some (.ref (He.ga K "are_wholes")) := He.glo_ok X G (c.fact 2 (f := .glo "are_wholes") rfl)
  obtain ⟨fd_p_is_ratio, F_p_is_ratio⟩ := c.def_ 3 rfl
  have m_p_is_ratio : mg "is_ratio" = some (.ref (He.ga K "is_ratio")) := He.glo_ok X G (c.fact 3 (f := .glo "is_ratio") rfl)
  obtain ⟨fd_p_ratio, F_p_ratio⟩ := c.def_ 4 rfl
  have m_p_ratio : mg "ratio" = some (.ref (He.ga K "ratio")) := He.glo_ok X G (c.fact 4 (f := .glo "ratio") rfl)
  obtain ⟨fd_p_plus, F_p_plus⟩ := c.def_ 5 rfl
  have m_p_plus : mg "plus" = some (.ref (He.ga K "plus")) := He.glo_ok X G (c.fact 5 (f := .glo "plus") rfl)
  obtain ⟨fd_p_minus, F_p_minus⟩ := c.def_ 6 rfl
  have m_p_minus : mg "minus" = some (.ref (He.ga K "minus")) := He.glo_ok X G (c.fact 6 (f := .glo "minus") rfl)
  obtain ⟨fd_p_times, F_p_times⟩ := c.def_ 7 rfl
  have m_p_times : mg "times" = some (.ref (He.ga K "times")) := He.glo_ok X G (c.fact 7 (f := .glo "times") rfl)
  obtain ⟨fd_p_over, F_p_over⟩ := c.def_ 8 rfl
  have m_p_over : mg "over" = some (.ref (He.ga K "over")) := He.glo_ok X G (c.fact 8 (f := .glo "over") rfl)
  obtain ⟨fd_p_opposite, F_p_opposite⟩ := c.def_ 9 rfl
  have m_p_opposite : mg "opposite" = some (.ref (He.ga K "opposite")) := He.glo_ok X G (c.fact 9 (f := .glo "opposite") rfl)
  obtain ⟨fd_p_sign_of, F_p_sign_of⟩ := c.def_ 10 rfl
  have m_p_sign_of : mg "sign_of" = some (.ref (He.ga K "sign_of")) := He.glo_ok X G (c.fact 10 (f := .glo "sign_of") rfl)
  obtain ⟨fd_p_shared_under, F_p_shared_under⟩ := c.def_ 11 rfl
  have m_p_shared_under : mg "shared_under" = some (.ref (He.ga K "shared_under")) := He.glo_ok X G (c.fact 11 (f := .glo "shared_under") rfl)
  obtain ⟨fd_p_is_square, F_p_is_square⟩ := c.def_ 12 rfl
  have m_p_is_square : mg "is_square" = some (.ref (He.ga K "is_square")) := He.glo_ok X G (c.fact 12 (f := .glo "is_square") rfl)
  obtain ⟨fd_p_is_rooted, F_p_is_rooted⟩ := c.def_ 13 rfl
  have m_p_is_rooted : mg "is_rooted" = some (.ref (He.ga K "is_rooted")) := He.glo_ok X G (c.fact 13 (f := .glo "is_rooted") rfl)
  obtain ⟨fd_p_is_numbered, F_p_is_numbered⟩ := c.def_ 14 rfl
  have m_p_is_numbered : mg "is_numbered" = some (.ref (He.ga K "is_numbered")) := He.glo_ok X G (c.fact 14 (f := .glo "is_numbered") rfl)
  obtain ⟨fd_p_parts_of, F_p_parts_of⟩ := c.def_ 15 rfl
  have m_p_parts_of : mg "parts_of" = some (.ref (He.ga K "parts_of")) := He.glo_ok X G (c.fact 15 (f := .glo "parts_of") rfl)
  obtain ⟨fd_p_number_from, F_p_number_from⟩ := c.def_ 16 rfl
  have m_p_number_from : mg "number_from" = some (.ref (He.ga K "number_from")) := He.glo_ok X G (c.fact 16 (f := .glo "number_from") rfl)
  obtain ⟨fd_p_sign_one, F_p_sign_one⟩ := c.def_ 17 rfl
  have m_p_sign_one : mg "sign_one" = some (.ref (He.ga K "sign_one")) := He.glo_ok X G (c.fact 17 (f := .glo "sign_one") rfl)
  obtain ⟨fd_p_do_lie_in_one, F_p_do_lie_in_one⟩ := c.def_ 18 rfl
  have m_p_do_lie_in_one : mg "do_lie_in_one" = some (.ref (He.ga K "do_lie_in_one")) := He.glo_ok X G (c.fact 18 (f := .glo "do_lie_in_one") rfl)
  obtain ⟨fd_p_in_one, F_p_in_one⟩ := c.def_ 19 rfl
  have m_p_in_one : mg "in_one" = some (.ref (He.ga K "in_one")) := He.glo_ok X G (c.fact 19 (f := .glo "in_one") rfl)
  obtain ⟨fd_p_is_pointed, F_p_is_pointed⟩ := c.def_ 20 rfl
  have m_p_is_pointed : mg "is_pointed" = some (.ref (He.ga K "is_pointed")) := He.glo_ok X G (c.fact 20 (f := .glo "is_pointed") rfl)
  obtain ⟨fd_p_is_placed, F_p_is_placed⟩ := c.def_ 21 rfl
  have m_p_is_placed : mg "is_placed" = some (.ref (He.ga K "is_placed")) := He.glo_ok X G (c.fact 21 (f := .glo "is_placed") rfl)
  obtain ⟨fd_p_is_curved, F_p_is_curved⟩ := c.def_ 22 rfl
  have m_p_is_curved : mg "is_curved" = some (.ref (He.ga K "is_curved")) := He.glo_ok X G (c.fact 22 (f := .glo "is_curved") rfl)
  obtain ⟨fd_p_is_line, F_p_is_line⟩ := c.def_ 23 rfl
  have m_p_is_line : mg "is_line" = some (.ref (He.ga K "is_line")) := He.glo_ok X G (c.fact 23 (f := .glo "is_line") rfl)
  obtain ⟨fd_p_sign_by, F_p_sign_by⟩ := c.def_ 24 rfl
  have m_p_sign_by : mg "sign_by" = some (.ref (He.ga K "sign_by")) := He.glo_ok X G (c.fact 24 (f := .glo "sign_by") rfl)
  obtain ⟨fd_p_is_led, F_p_is_led⟩ := c.def_ 25 rfl
  have m_p_is_led : mg "is_led" = some (.ref (He.ga K "is_led")) := He.glo_ok X G (c.fact 25 (f := .glo "is_led") rfl)
  obtain ⟨fd_p_is_wayed, F_p_is_wayed⟩ := c.def_ 26 rfl
  have m_p_is_wayed : mg "is_wayed" = some (.ref (He.ga K "is_wayed")) := He.glo_ok X G (c.fact 26 (f := .glo "is_wayed") rfl)
  obtain ⟨fd_p_sum_of, F_p_sum_of⟩ := c.def_ 27 rfl
  have m_p_sum_of : mg "sum_of" = some (.ref (He.ga K "sum_of")) := He.glo_ok X G (c.fact 27 (f := .glo "sum_of") rfl)
  obtain ⟨fd_p_scaled_by, F_p_scaled_by⟩ := c.def_ 28 rfl
  have m_p_scaled_by : mg "scaled_by" = some (.ref (He.ga K "scaled_by")) := He.glo_ok X G (c.fact 28 (f := .glo "scaled_by") rfl)
  obtain ⟨fd_p_dot_of, F_p_dot_of⟩ := c.def_ 29 rfl
  have m_p_dot_of : mg "dot_of" = some (.ref (He.ga K "dot_of")) := He.glo_ok X G (c.fact 29 (f := .glo "dot_of") rfl)
  obtain ⟨fd_p_product_of, F_p_product_of⟩ := c.def_ 30 rfl
  have m_p_product_of : mg "product_of" = some (.ref (He.ga K "product_of")) := He.glo_ok X G (c.fact 30 (f := .glo "product_of") rfl)
  obtain ⟨fd_p_flipped_if, F_p_flipped_if⟩ := c.def_ 31 rfl
  have m_p_flipped_if : mg "flipped_if" = some (.ref (He.ga K "flipped_if")) := He.glo_ok X G (c.fact 31 (f := .glo "flipped_if") rfl)
  obtain ⟨fd_p_under_one, F_p_under_one⟩ := c.def_ 32 rfl
  have m_p_under_one : mg "under_one" = some (.ref (He.ga K "under_one")) := He.glo_ok X G (c.fact 32 (f := .glo "under_one") rfl)
  obtain ⟨fd_p_is_rigid_by, F_p_is_rigid_by⟩ := c.def_ 33 rfl
  have m_p_is_rigid_by : mg "is_rigid_by" = some (.ref (He.ga K "is_rigid_by")) := He.glo_ok X G (c.fact 33 (f := .glo "is_rigid_by") rfl)
  obtain ⟨fd_p_led_way, F_p_led_way⟩ := c.def_ 34 rfl
  have m_p_led_way : mg "led_way" = some (.ref (He.ga K "led_way")) := He.glo_ok X G (c.fact 34 (f := .glo "led_way") rfl)
  obtain ⟨fd_p_lead_point, F_p_lead_point⟩ := c.def_ 35 rfl
  have m_p_lead_point : mg "lead_point" = some (.ref (He.ga K "lead_point")) := He.glo_ok X G (c.fact 35 (f := .glo "lead_point") rfl)
  obtain ⟨fd_p_lead_place, F_p_lead_place⟩ := c.def_ 36 rfl
  have m_p_lead_place : mg "lead_place" = some (.ref (He.ga K "lead_place")) := He.glo_ok X G (c.fact 36 (f := .glo "lead_place") rfl)
  obtain ⟨fd_p_lead_curve, F_p_lead_curve⟩ := c.def_ 37 rfl
  have m_p_lead_curve : mg "lead_curve" = some (.ref (He.ga K "lead_curve")) := He.glo_ok X G (c.fact 37 (f := .glo "lead_curve") rfl)
  obtain ⟨fd_p_lead_behind, F_p_lead_behind⟩ := c.def_ 38 rfl
  have m_p_lead_behind : mg "lead_behind" = some (.ref (He.ga K "lead_behind")) := He.glo_ok X G (c.fact 38 (f := .glo "lead_behind") rfl)
  obtain ⟨fd_p_back_by, F_p_back_by⟩ := c.def_ 39 rfl
  have m_p_back_by : mg "back_by" = some (.ref (He.ga K "back_by")) := He.glo_ok X G (c.fact 39 (f := .glo "back_by") rfl)
  obtain ⟨fd_p_move_by, F_p_move_by⟩ := c.def_ 40 rfl
  have m_p_move_by : mg "move_by" = some (.ref (He.ga K "move_by")) := He.glo_ok X G (c.fact 40 (f := .glo "move_by") rfl)
  obtain ⟨fd_p_turn_by, F_p_turn_by⟩ := c.def_ 41 rfl
  have m_p_turn_by : mg "turn_by" = some (.ref (He.ga K "turn_by")) := He.glo_ok X G (c.fact 41 (f := .glo "turn_by") rfl)
  obtain ⟨fd_p_mirror_by, F_p_mirror_by⟩ := c.def_ 42 rfl
  have m_p_mirror_by : mg "mirror_by" = some (.ref (He.ga K "mirror_by")) := He.glo_ok X G (c.fact 42 (f := .glo "mirror_by") rfl)
  obtain ⟨fd_p_check_point, F_p_check_point⟩ := c.def_ 43 rfl
  have m_p_check_point : mg "check_point" = some (.ref (He.ga K "check_point")) := He.glo_ok X G (c.fact 43 (f := .glo "check_point") rfl)
  obtain ⟨fd_p_check_place, F_p_check_place⟩ := c.def_ 44 rfl
  have m_p_check_place : mg "check_place" = some (.ref (He.ga K "check_place")) := He.glo_ok X G (c.fact 44 (f := .glo "check_place") rfl)
  obtain ⟨fd_p_check_curve, F_p_check_curve⟩ := c.def_ 45 rfl
  have m_p_check_curve : mg "check_curve" = some (.ref (He.ga K "check_curve")) := He.glo_ok X G (c.fact 45 (f := .glo "check_curve") rfl)
  obtain ⟨fd_p_check_lead, F_p_check_lead⟩ := c.def_ 46 rfl
  have m_p_check_lead : mg "check_lead" = some (.ref (He.ga K "check_lead")) := He.glo_ok X G (c.fact 46 (f := .glo "check_lead") rfl)
  obtain ⟨fd_p_is_lead, F_p_is_lead⟩ := c.def_ 47 rfl
  have m_p_is_lead : mg "is_lead" = some (.ref (He.ga K "is_lead")) := He.glo_ok X G (c.fact 47 (f := .glo "is_lead") rfl)
  obtain ⟨fd_p_led_place, F_p_led_place⟩ := c.def_ 48 rfl
  have m_p_led_place : mg "led_place" = some (.ref (He.ga K "led_place")) := He.glo_ok X G (c.fact 48 (f := .glo "led_place") rfl)
  obtain ⟨fd_p_led_curve, F_p_led_curve⟩ := c.def_ 49 rfl
  have m_p_led_curve : mg "led_curve" = some (.ref (He.ga K "led_curve")) := He.glo_ok X G (c.fact 49 (f := .glo "led_curve") rfl)
  obtain ⟨fd_p_behind, F_p_behind⟩ := c.def_ 50 rfl
  have m_p_behind : mg "behind" = some (.ref (He.ga K "behind")) := He.glo_ok X G (c.fact 50 (f := .glo "behind") rfl)
  obtain ⟨fd_p_back, F_p_back⟩ := c.def_ 51 rfl
  have m_p_back : mg "back" = some (.ref (He.ga K "back")) := He.glo_ok X G (c.fact 51 (f := .glo "back") rfl)
  obtain ⟨fd_p_is_rigid, F_p_is_rigid⟩ := c.def_ 52 rfl
  have m_p_is_rigid : mg "is_rigid" = some (.ref (He.ga K "is_rigid")) := He.glo_ok X G (c.fact 52 (f := .glo "is_rigid") rfl)
  obtain ⟨fd_p_move, F_p_move⟩ := c.def_ 53 rfl
  have m_p_move : mg "move" = some (.ref (He.ga K "move")) := He.glo_ok X G (c.fact 53 (f := .glo "move") rfl)
  obtain ⟨fd_p_turn, F_p_turn⟩ := c.def_ 54 rfl
  have m_p_turn : mg "turn" = some (.ref (He.ga K "turn")) := He.glo_ok X G (c.fact 54 (f := .glo "turn") rfl)
  obtain ⟨fd_p_mirror, F_p_mirror⟩ := c.def_ 55 rfl
  have m_p_mirror : mg "mirror" = some (.ref (He.ga K "mirror")) := He.glo_ok X G (c.fact 55 (f := .glo "mirror") rfl)
  obtain ⟨fd_p_sign_at, F_p_sign_at⟩ := c.def_ 56 rfl
  have m_p_sign_at : mg "sign_at" = some (.ref (He.ga K "sign_at")) := He.glo_ok X G (c.fact 56 (f := .glo "sign_at") rfl)
  obtain ⟨fd_l_well, F_l_well⟩ := c.def_ 57 rfl
  have m_l_well : mg "_law_well" = some (.ref (He.ga K "_law_well")) := He.glo_ok X G (c.fact 57 (f := .glo "_law_well") rfl)
  obtain ⟨fd_l_draw, F_l_draw⟩ := c.def_ 58 rfl
  have m_l_draw : mg "_law_draw" = some (.ref (He.ga K "_law_draw")) := He.glo_ok X G (c.fact 58 (f := .glo "_law_draw") rfl)
  obtain ⟨fd_l_pick, F_l_pick⟩ := c.def_ 59 rfl
  have m_l_pick : mg "_law_pick" = some (.ref (He.ga K "_law_pick")) := He.glo_ok X G (c.fact 59 (f := .glo "_law_pick") rfl)
  obtain ⟨fd_l_divisor, F_l_divisor⟩ := c.def_ 60 rfl
  have m_l_divisor : mg "_law_divisor" = some (.ref (He.ga K "_law_divisor")) := He.glo_ok X G (c.fact 60 (f := .glo "_law_divisor") rfl)
  obtain ⟨fd_l_lean, F_l_lean⟩ := c.def_ 61 rfl
  have m_l_lean : mg "_law_lean" = some (.ref (He.ga K "_law_lean")) := He.glo_ok X G (c.fact 61 (f := .glo "_law_lean") rfl)
  obtain ⟨fd_l_sum, F_l_sum⟩ := c.def_ 62 rfl
  have m_l_sum : mg "_law_sum" = some (.ref (He.ga K "_law_sum")) := He.glo_ok X G (c.fact 62 (f := .glo "_law_sum") rfl)
  obtain ⟨fd_l_product, F_l_product⟩ := c.def_ 63 rfl
  have m_l_product : mg "_law_product" = some (.ref (He.ga K "_law_product")) := He.glo_ok X G (c.fact 63 (f := .glo "_law_product") rfl)
  obtain ⟨fd_l_side, F_l_side⟩ := c.def_ 64 rfl
  have m_l_side : mg "_law_side" = some (.ref (He.ga K "_law_side")) := He.glo_ok X G (c.fact 64 (f := .glo "_law_side") rfl)
  obtain ⟨fd_l_sign, F_l_sign⟩ := c.def_ 65 rfl
  have m_l_sign : mg "_law_sign" = some (.ref (He.ga K "_law_sign")) := He.glo_ok X G (c.fact 65 (f := .glo "_law_sign") rfl)
  obtain ⟨fd_l_sign_two, F_l_sign_two⟩ := c.def_ 66 rfl
  have m_l_sign_two : mg "_law_sign_two" = some (.ref (He.ga K "_law_sign_two")) := He.glo_ok X G (c.fact 66 (f := .glo "_law_sign_two") rfl)
  obtain ⟨fd_l_order, F_l_order⟩ := c.def_ 67 rfl
  have m_l_order : mg "_law_order" = some (.ref (He.ga K "_law_order")) := He.glo_ok X G (c.fact 67 (f := .glo "_law_order") rfl)
  obtain ⟨fd_l_floor, F_l_floor⟩ := c.def_ 68 rfl
  have m_l_floor : mg "_law_floor" = some (.ref (He.ga K "_law_floor")) := He.glo_ok X G (c.fact 68 (f := .glo "_law_floor") rfl)
  obtain ⟨fd_l_number, F_l_number⟩ := c.def_ 69 rfl
  have m_l_number : mg "_law_number" = some (.ref (He.ga K "_law_number")) := He.glo_ok X G (c.fact 69 (f := .glo "_law_number") rfl)
  obtain ⟨fd_l_told, F_l_told⟩ := c.def_ 70 rfl
  have m_l_told : mg "_law_told" = some (.ref (He.ga K "_law_told")) := He.glo_ok X G (c.fact 70 (f := .glo "_law_told") rfl)
  obtain ⟨fd_l_flat, F_l_flat⟩ := c.def_ 71 rfl
  have m_l_flat : mg "_law_flat" = some (.ref (He.ga K "_law_flat")) := He.glo_ok X G (c.fact 71 (f := .glo "_law_flat") rfl)
  obtain ⟨fd_l_at, F_l_at⟩ := c.def_ 72 rfl
  have m_l_at : mg "_law_at" = some (.ref (He.ga K "_law_at")) := He.glo_ok X G (c.fact 72 (f := .glo "_law_at") rfl)
  obtain ⟨fd_l_on_line, F_l_on_line⟩ := c.def_ 73 rfl
  have m_l_on_line : mg "_law_on_line" = some (.ref (He.ga K "_law_on_line")) := He.glo_ok X G (c.fact 73 (f := .glo "_law_on_line") rfl)
  obtain ⟨fd_l_meet, F_l_meet⟩ := c.def_ 74 rfl
  have m_l_meet : mg "_law_meet" = some (.ref (He.ga K "_law_meet")) := He.glo_ok X G (c.fact 74 (f := .glo "_law_meet") rfl)
  obtain ⟨fd_l_after, F_l_after⟩ := c.def_ 75 rfl
  have m_l_after : mg "_law_after" = some (.ref (He.ga K "_law_after")) := He.glo_ok X G (c.fact 75 (f := .glo "_law_after") rfl)
  obtain ⟨fd_l_marks, F_l_marks⟩ := c.def_ 76 rfl
  have m_l_marks : mg "_law_marks" = some (.ref (He.ga K "_law_marks")) := He.glo_ok X G (c.fact 76 (f := .glo "_law_marks") rfl)
  obtain ⟨fd_l_small, F_l_small⟩ := c.def_ 77 rfl
  have m_l_small : mg "_law_small" = some (.ref (He.ga K "_law_small")) := He.glo_ok X G (c.fact 77 (f := .glo "_law_small") rfl)
  obtain ⟨fd_l_form, F_l_form⟩ := c.def_ 78 rfl
  have m_l_form : mg "_law_form" = some (.ref (He.ga K "_law_form")) := He.glo_ok X G (c.fact 78 (f := .glo "_law_form") rfl)
  obtain ⟨fd_l_norm, F_l_norm⟩ := c.def_ 79 rfl
  have m_l_norm : mg "_law_norm" = some (.ref (He.ga K "_law_norm")) := He.glo_ok X G (c.fact 79 (f := .glo "_law_norm") rfl)
  obtain ⟨fd_l_line, F_l_line⟩ := c.def_ 80 rfl
  have m_l_line : mg "_law_line" = some (.ref (He.ga K "_law_line")) := He.glo_ok X G (c.fact 80 (f := .glo "_law_line") rfl)
  obtain ⟨fd_l_ring, F_l_ring⟩ := c.def_ 81 rfl
  have m_l_ring : mg "_law_ring" = some (.ref (He.ga K "_law_ring")) := He.glo_ok X G (c.fact 81 (f := .glo "_law_ring") rfl)
  obtain ⟨fd_l_bow, F_l_bow⟩ := c.def_ 82 rfl
  have m_l_bow : mg "_law_bow" = some (.ref (He.ga K "_law_bow")) := He.glo_ok X G (c.fact 82 (f := .glo "_law_bow") rfl)
  obtain ⟨fd_l_bows, F_l_bows⟩ := c.def_ 83 rfl
  have m_l_bows : mg "_law_bows" = some (.ref (He.ga K "_law_bows")) := He.glo_ok X G (c.fact 83 (f := .glo "_law_bows") rfl)
  obtain ⟨fd_l_turned, F_l_turned⟩ := c.def_ 84 rfl
  have m_l_turned : mg "_law_turned" = some (.ref (He.ga K "_law_turned")) := He.glo_ok X G (c.fact 84 (f := .glo "_law_turned") rfl)
  obtain ⟨fd_l_led, F_l_led⟩ := c.def_ 85 rfl
  have m_l_led : mg "_law_led" = some (.ref (He.ga K "_law_led")) := He.glo_ok X G (c.fact 85 (f := .glo "_law_led") rfl)
  obtain ⟨fd_l_undone, F_l_undone⟩ := c.def_ 86 rfl
  have m_l_undone : mg "_law_undone" = some (.ref (He.ga K "_law_undone")) := He.glo_ok X G (c.fact 86 (f := .glo "_law_undone") rfl)
  obtain ⟨fd_l_rule, F_l_rule⟩ := c.def_ 87 rfl
  have m_l_rule : mg "_law_rule" = some (.ref (He.ga K "_law_rule")) := He.glo_ok X G (c.fact 87 (f := .glo "_law_rule") rfl)
  obtain ⟨fd_l_led_spot, F_l_led_spot⟩ := c.def_ 88 rfl
  have m_l_led_spot : mg "_law_led_spot" = some (.ref (He.ga K "_law_led_spot")) := He.glo_ok X G (c.fact 88 (f := .glo "_law_led_spot") rfl)
  obtain ⟨fd_l_raw, F_l_raw⟩ := c.def_ 89 rfl
  have m_l_raw : mg "_law_raw" = some (.ref (He.ga K "_law_raw")) := He.glo_ok X G (c.fact 89 (f := .glo "_law_raw") rfl)
  obtain ⟨fd_l_crossing, F_l_crossing⟩ := c.def_ 90 rfl
  have m_l_crossing : mg "_law_crossing" = some (.ref (He.ga K "_law_crossing")) := He.glo_ok X G (c.fact 90 (f := .glo "_law_crossing") rfl)
  obtain ⟨fd_l_spot, F_l_spot⟩ := c.def_ 91 rfl
  have m_l_spot : mg "_law_spot" = some (.ref (He.ga K "_law_spot")) := He.glo_ok X G (c.fact 91 (f := .glo "_law_spot") rfl)
  obtain ⟨fd_l_both, F_l_both⟩ := c.def_ 92 rfl
  have m_l_both : mg "_law_both" = some (.ref (He.ga K "_law_both")) := He.glo_ok X G (c.fact 92 (f := .glo "_law_both") rfl)
  obtain ⟨fd_l_moves, F_l_moves⟩ := c.def_ 93 rfl
  have m_l_moves : mg "_law_moves" = some (.ref (He.ga K "_law_moves")) := He.glo_ok X G (c.fact 93 (f := .glo "_law_moves") rfl)
  obtain ⟨fd_l_mirrors, F_l_mirrors⟩ := c.def_ 94 rfl
  have m_l_mirrors : mg "_law_mirrors" = some (.ref (He.ga K "_law_mirrors")) := He.glo_ok X G (c.fact 94 (f := .glo "_law_mirrors") rfl)
  obtain ⟨fd_l_right, F_l_right⟩ := c.def_ 95 rfl
  have m_l_right : mg "_law_right" = some (.ref (He.ga K "_law_right")) := He.glo_ok X G (c.fact 95 (f := .glo "_law_right") rfl)
  obtain ⟨fd_law, F_law⟩ := c.def_ 96 rfl
  have m_law : mg "law" = some (.ref (He.ga K "law")) := He.glo_ok X G (c.fact 96 (f := .glo "law") rfl)
  refine ⟨fd_law, fun s u => F_law.bindsA (ps := ["_law_script"]) (fun _ _ _ _ _ _ us hl => match us, hl with | [_], _ => rfl) s [u] rfl, m_law, fun base => ?_⟩
  have k_p_is_whole := kn_p_is_whole (P := P) (w := w) (base := base) B m_p_is_whole F_p_is_whole 
  have k_p_is_truth := kn_p_is_truth (P := P) (w := w) (base := base) B m_p_is_truth F_p_is_truth 
  have k_p_are_wholes := kn_p_are_wholes (P := P) (w := w) (base := base) B m_p_are_wholes F_p_are_wholes k_p_is_whole
  have k_p_is_ratio := kn_p_is_ratio (P := P) (w := w) (base := base) B m_p_is_ratio F_p_is_ratio k_p_are_wholes
  have k_p_ratio := kn_p_ratio (P := P) (w := w) (base := base) B m_p_ratio F_p_ratio 
  have k_p_plus := kn_p_plus (P := P) (w := w) (base := base) B m_p_plus F_p_plus k_p_ratio
  have k_p_minus := kn_p_minus (P := P) (w := w) (base := base) B m_p_minus F_p_minus k_p_ratio
  have k_p_times := kn_p_times (P := P) (w := w) (base := base) B m_p_times F_p_times k_p_ratio
  have k_p_over := kn_p_over (P := P) (w := w) (base := base) B m_p_over F_p_over k_p_ratio
  have k_p_opposite := kn_p_opposite (P := P) (w := w) (base := base) B m_p_opposite F_p_opposite 
  have k_p_sign_of := kn_p_sign_of (P := P) (w := w) (base := base) B m_p_sign_of F_p_sign_of 
  have k_p_shared_under := kn_p_shared_under (P := P) (w := w) (base := base) B m_p_shared_under F_p_shared_under 
  have k_p_is_square := kn_p_is_square (P := P) (w := w) (base := base) B m_p_is_square F_p_is_square 
  have k_p_is_rooted := kn_p_is_rooted (P := P) (w := w) (base := base) B m_p_is_rooted F_p_is_rooted k_p_are_wholes k_p_is_square k_p_is_truth
  have k_p_is_numbered := kn_p_is_numbered (P := P) (w := w) (base := base) B m_p_is_numbered F_p_is_numbered k_p_is_ratio k_p_is_rooted
  have k_p_parts_of := kn_p_parts_of (P := P) (w := w) (base := base) B m_p_parts_of F_p_parts_of g_ZERO k_p_ratio
  have k_p_number_from := kn_p_number_from (P := P) (w := w) (base := base) B m_p_number_from F_p_number_from g_TWO g_ZERO k_p_is_square k_p_minus k_p_opposite k_p_plus k_p_shared_under k_p_times
  have k_p_sign_one := kn_p_sign_one (P := P) (w := w) (base := base) B m_p_sign_one F_p_sign_one k_p_minus k_p_sign_of k_p_times
  have k_p_do_lie_in_one := kn_p_do_lie_in_one (P := P) (w := w) (base := base) B m_p_do_lie_in_one F_p_do_lie_in_one k_p_is_square k_p_parts_of
  have k_p_in_one := kn_p_in_one (P := P) (w := w) (base := base) B m_p_in_one F_p_in_one g_ONE g_ZERO k_p_parts_of k_p_ratio k_p_times
  have k_p_is_pointed := kn_p_is_pointed (P := P) (w := w) (base := base) B m_p_is_pointed F_p_is_pointed k_p_is_ratio
  have k_p_is_placed := kn_p_is_placed (P := P) (w := w) (base := base) B m_p_is_placed F_p_is_placed k_p_do_lie_in_one k_p_is_numbered
  have k_p_is_curved := kn_p_is_curved (P := P) (w := w) (base := base) B m_p_is_curved F_p_is_curved g_ZERO k_p_is_ratio
  have k_p_is_line := kn_p_is_line (P := P) (w := w) (base := base) B m_p_is_line F_p_is_line 
  have k_p_sign_by := kn_p_sign_by (P := P) (w := w) (base := base) B m_p_sign_by F_p_sign_by g_TWO k_p_in_one k_p_is_line k_p_minus k_p_plus k_p_sign_one k_p_times
  have k_p_is_led := kn_p_is_led (P := P) (w := w) (base := base) B m_p_is_led F_p_is_led g_START k_p_is_pointed k_p_is_truth
  have k_p_is_wayed := kn_p_is_wayed (P := P) (w := w) (base := base) B m_p_is_wayed F_p_is_wayed g_START k_p_is_pointed
  have k_p_sum_of := kn_p_sum_of (P := P) (w := w) (base := base) B m_p_sum_of F_p_sum_of k_p_plus
  have k_p_scaled_by := kn_p_scaled_by (P := P) (w := w) (base := base) B m_p_scaled_by F_p_scaled_by k_p_times
  have k_p_dot_of := kn_p_dot_of (P := P) (w := w) (base := base) B m_p_dot_of F_p_dot_of k_p_plus k_p_times
  have k_p_product_of := kn_p_product_of (P := P) (w := w) (base := base) B m_p_product_of F_p_product_of k_p_minus k_p_plus k_p_times
  have k_p_flipped_if := kn_p_flipped_if (P := P) (w := w) (base := base) B m_p_flipped_if F_p_flipped_if k_p_opposite
  have k_p_under_one := kn_p_under_one (P := P) (w := w) (base := base) B m_p_under_one F_p_under_one g_ONE k_p_dot_of k_p_opposite k_p_over k_p_scaled_by
  have k_p_is_rigid_by := kn_p_is_rigid_by (P := P) (w := w) (base := base) B m_p_is_rigid_by F_p_is_rigid_by g_ONE k_p_dot_of
  have k_p_led_way := kn_p_led_way (P := P) (w := w) (base := base) B m_p_led_way F_p_led_way k_p_flipped_if k_p_product_of
  have k_p_lead_point := kn_p_lead_point (P := P) (w := w) (base := base) B m_p_lead_point F_p_lead_point k_p_led_way k_p_sum_of
  have k_p_lead_place := kn_p_lead_place (P := P) (w := w) (base := base) B m_p_lead_place F_p_lead_place k_p_in_one k_p_lead_point k_p_led_way k_p_number_from
  have k_p_lead_curve := kn_p_lead_curve (P := P) (w := w) (base := base) B m_p_lead_curve F_p_lead_curve k_p_dot_of k_p_is_line k_p_lead_point k_p_led_way k_p_plus k_p_times
  have k_p_lead_behind := kn_p_lead_behind (P := P) (w := w) (base := base) B m_p_lead_behind F_p_lead_behind k_p_flipped_if k_p_lead_point k_p_product_of
  have k_p_back_by := kn_p_back_by (P := P) (w := w) (base := base) B m_p_back_by F_p_back_by k_p_flipped_if k_p_product_of k_p_scaled_by k_p_under_one
  have k_p_move_by := kn_p_move_by (P := P) (w := w) (base := base) B m_p_move_by F_p_move_by g_ONE g_ZERO
  have k_p_turn_by := kn_p_turn_by (P := P) (w := w) (base := base) B m_p_turn_by F_p_turn_by g_ONE g_START k_p_dot_of k_p_over k_p_product_of k_p_scaled_by
  have k_p_mirror_by := kn_p_mirror_by (P := P) (w := w) (base := base) B m_p_mirror_by F_p_mirror_by g_TWO k_p_dot_of k_p_over k_p_product_of k_p_scaled_by k_p_times
  have k_p_check_point := kn_p_check_point (P := P) (w := w) (base := base) B m_p_check_point F_p_check_point k_p_is_pointed
  have k_p_check_place := kn_p_check_place (P := P) (w := w) (base := base) B m_p_check_place F_p_check_place k_p_is_placed
  have k_p_check_curve := kn_p_check_curve (P := P) (w := w) (base := base) B m_p_check_curve F_p_check_curve k_p_is_curved
  have k_p_check_lead := kn_p_check_lead (P := P) (w := w) (base := base) B m_p_check_lead F_p_check_lead k_p_is_led
  have k_p_is_lead := kn_p_is_lead (P := P) (w := w) (base := base) B m_p_is_lead F_p_is_lead k_p_is_led
  have k_p_led_place := kn_p_led_place (P := P) (w := w) (base := base) B m_p_led_place F_p_led_place k_p_check_lead k_p_check_place k_p_lead_place
  have kk_p_led_place := kk_p_led_place (P := P) (w := w) (base := base) B m_p_led_place F_p_led_place k_p_check_lead k_p_check_place k_p_lead_place
  have k_p_led_curve := kn_p_led_curve (P := P) (w := w) (base := base) B m_p_led_curve F_p_led_curve k_p_check_curve k_p_check_lead k_p_lead_curve
  have k_p_behind := kn_p_behind (P := P) (w := w) (base := base) B m_p_behind F_p_behind k_p_check_lead k_p_lead_behind
  have kk_p_behind := kk_p_behind (P := P) (w := w) (base := base) B m_p_behind F_p_behind k_p_check_lead k_p_lead_behind
  have k_p_back := kn_p_back (P := P) (w := w) (base := base) B m_p_back F_p_back k_p_back_by k_p_check_lead
  have k_p_is_rigid := kn_p_is_rigid (P := P) (w := w) (base := base) B m_p_is_rigid F_p_is_rigid k_p_check_lead k_p_is_rigid_by
  have k_p_move := kn_p_move (P := P) (w := w) (base := base) B m_p_move F_p_move k_p_check_point k_p_move_by
  have k_p_turn := kn_p_turn (P := P) (w := w) (base := base) B m_p_turn F_p_turn k_p_is_wayed k_p_turn_by
  have kk_p_turn := kk_p_turn (P := P) (w := w) (base := base) B m_p_turn F_p_turn k_p_is_wayed k_p_turn_by
  have k_p_mirror := kn_p_mirror (P := P) (w := w) (base := base) B m_p_mirror F_p_mirror k_p_check_curve k_p_is_line k_p_mirror_by
  have kk_p_mirror := kk_p_mirror (P := P) (w := w) (base := base) B m_p_mirror F_p_mirror k_p_check_curve k_p_is_line k_p_mirror_by
  have k_p_sign_at := kn_p_sign_at (P := P) (w := w) (base := base) B m_p_sign_at F_p_sign_at k_p_check_curve k_p_check_place k_p_sign_by
  have k_l_well : KnH P w K mg base "_law_well" 2 1 (spWell K) := ⟨_, _, ["_law_script", "_law_lap"], m_l_well, F_l_well.kp, F_l_well.bindsN (fun _ _ _ _ _ _ us hl => match us, hl with | [_, _], _ => rfl), rfl, ok_l_well F_l_well B⟩
  have k_l_draw := kn_l_draw (P := P) (w := w) (base := base) B m_l_draw F_l_draw 
  have k_l_pick := kn_l_pick (P := P) (w := w) (base := base) B m_l_pick F_l_pick k_l_draw
  have k_l_divisor := kn_l_divisor (P := P) (w := w) (base := base) B m_l_divisor F_l_divisor 
  have k_l_lean := kn_l_lean (P := P) (w := w) (base := base) B m_l_lean F_l_lean k_l_divisor
  have k_l_sum := kn_l_sum (P := P) (w := w) (base := base) B m_l_sum F_l_sum k_l_lean
  have k_l_product := kn_l_product (P := P) (w := w) (base := base) B m_l_product F_l_product k_l_lean
  have k_l_side := kn_l_side (P := P) (w := w) (base := base) B m_l_side F_l_side 
  have k_l_sign := kn_l_sign (P := P) (w := w) (base := base) B m_l_sign F_l_sign k_l_side
  have k_l_sign_two := kn_l_sign_two (P := P) (w := w) (base := base) B m_l_sign_two F_l_sign_two k_l_side k_l_sign
  have k_l_order := kn_l_order (P := P) (w := w) (base := base) B m_l_order F_l_order k_l_sign_two
  have k_l_floor := kn_l_floor (P := P) (w := w) (base := base) B m_l_floor F_l_floor 
  have k_l_number := kn_l_number (P := P) (w := w) (base := base) B m_l_number F_l_number k_l_divisor k_l_floor k_l_lean
  have k_l_told := kn_l_told (P := P) (w := w) (base := base) B m_l_told F_l_told k_l_number
  have k_l_flat := kn_l_flat (P := P) (w := w) (base := base) B m_l_flat F_l_flat 
  have k_l_at := kn_l_at (P := P) (w := w) (base := base) B m_l_at F_l_at k_l_sign
  have k_l_on_line := kn_l_on_line (P := P) (w := w) (base := base) B m_l_on_line F_l_on_line 
  have k_l_meet := kn_l_meet (P := P) (w := w) (base := base) B m_l_meet F_l_meet k_l_on_line k_l_side
  have k_l_after := kn_l_after (P := P) (w := w) (base := base) B m_l_after F_l_after k_l_order
  have k_l_marks : Kn P w K mg base "_law_marks" 1 6 S_l_marks := ⟨_, _, ["_law_flats"], m_l_marks, F_l_marks.kp, F_l_marks.bindsN (fun _ _ _ _ _ _ us hl => match us, hl with | [_], _ => rfl), rfl, ok_l_marks F_l_marks B k_l_meet k_l_after⟩
  have k_l_small := kn_l_small (P := P) (w := w) (base := base) B m_l_small F_l_small k_l_draw k_l_lean
  have k_l_form := kn_l_form (P := P) (w := w) (base := base) B m_l_form F_l_form k_l_divisor
  have k_l_norm := kn_l_norm (P := P) (w := w) (base := base) B m_l_norm F_l_norm k_l_product k_l_sum
  have k_l_line := kn_l_line (P := P) (w := w) (base := base) B m_l_line F_l_line k_l_draw k_l_form k_l_pick k_l_product k_l_small k_l_sum
  have k_l_ring := kn_l_ring (P := P) (w := w) (base := base) B m_l_ring F_l_ring k_l_draw k_l_norm k_l_pick k_l_product k_l_small k_l_sum
  have k_l_bow := kn_l_bow (P := P) (w := w) (base := base) B m_l_bow F_l_bow k_l_draw k_l_form k_l_line k_l_pick k_l_product k_l_ring k_l_sum
  have k_l_bows : Kn P w K mg base "_law_bows" 2 7 S_l_bows := ⟨_, _, ["_law_well_here", "_law_many"], m_l_bows, F_l_bows.kp, F_l_bows.bindsN (fun _ _ _ _ _ _ us hl => match us, hl with | [_, _], _ => rfl), rfl, ok_l_bows F_l_bows B k_l_pick k_l_small k_l_bow⟩
  have k_l_turned := kn_l_turned (P := P) (w := w) (base := base) B m_l_turned F_l_turned k_l_product k_l_sum
  have k_l_led := kn_l_led (P := P) (w := w) (base := base) B m_l_led F_l_led k_l_norm k_l_product k_l_sum k_l_turned
  have k_l_undone := kn_l_undone (P := P) (w := w) (base := base) B m_l_undone F_l_undone k_l_norm k_l_product k_l_turned
  have k_l_rule := kn_l_rule (P := P) (w := w) (base := base) B m_l_rule F_l_rule k_l_draw k_l_lean k_l_pick k_l_small
  have k_l_led_spot := kn_l_led_spot (P := P) (w := w) (base := base) B m_l_led_spot F_l_led_spot 
  have k_l_raw := kn_l_raw (P := P) (w := w) (base := base) B m_l_raw F_l_raw 
  have k_l_crossing := kn_l_crossing (P := P) (w := w) (base := base) B m_l_crossing F_l_crossing k_l_meet k_l_pick k_l_raw k_l_small
  have k_l_spot := kn_l_spot (P := P) (w := w) (base := base) B m_l_spot F_l_spot k_l_crossing k_l_draw k_l_flat k_l_line k_l_pick k_l_raw k_l_ring k_l_small
  have k_l_both := kn_l_both (P := P) (w := w) (base := base) B m_l_both F_l_both k_l_sum k_l_turned
  have k_l_moves := kn_l_moves (P := P) (w := w) (base := base) B m_l_moves F_l_moves (kk_p_turn.up (by decide)) k_l_draw k_l_norm k_l_product k_l_small k_l_sum k_p_is_lead k_p_is_rigid k_p_led_place k_p_move k_p_turn
  have k_l_mirrors := kn_l_mirrors (P := P) (w := w) (base := base) B m_l_mirrors F_l_mirrors (kk_p_mirror.up (by decide)) k_l_line k_l_norm k_l_pick k_l_product k_l_small k_l_sum k_p_is_rigid k_p_led_place k_p_mirror
  have k_l_right := kn_l_right (P := P) (w := w) (base := base) B m_l_right F_l_right (kk_p_behind.up (by decide)) (kk_p_led_place.up (by decide)) k_l_at k_l_both k_l_bows k_l_flat k_l_led k_l_led_spot k_l_marks k_l_mirrors k_l_moves k_l_norm k_l_pick k_l_product k_l_rule k_l_spot k_l_told k_l_undone k_p_back k_p_behind k_p_is_lead k_p_is_rigid k_p_led_curve k_p_led_place k_p_sign_at
  exact ok_law F_law B k_l_right k_l_well
end
end GD
open PySem PySem.W PySem.Calls PyProof.Rows
theorem PySem.Challenge.cw_planehall_k30_whole_leads_holds : PySem.Challenge.rw_planehall_k30_whole_leads.Holds := by
  w_on; o_law
  refine HandSHeadRun.head_imp (r := OpenLaw.row PySem.Challenge.rw_planehall_k30_whole_leads) (q := view (OpenLaw.row PySem.Challenge.rw_planehall_k30_whole_leads).prog [0, 118]) (H := GD.hdHook) (ob := GD.hdOb) (M := 8000) (loose := GD.hdLoose) (d := HandSHeadRun.topDef (OpenLaw.row PySem.Challenge.rw_planehall_k30_whole_leads).prog 118) (kwd := []) GD.hdOb_eq
    GD.hd_run (by kernel_rfl) (by kernel_rfl) (by kernel_rfl) (by rfl) (by first | assumption | decide +kernel) (by decide +kernel) ⟨rfl, rfl, rfl, rfl, rfl, by decide +kernel⟩ ?hw ?hc
  case hw => w_witness2
  case hc =>
    refine GD.walk_hand (l := PySem.Challenge.rw_planehall_k30_whole_leads) (n := 63) (k := 10) (x := "_law_script") rfl (by decide) (by kernel_rfl) ⟨rfl, by decide, by decide⟩ ?F
    intro w mg fa h Y G hmg0
    obtain ⟨K, KX, c, ex⟩ := Y
    have hmg : mg ("law" : PySem.Str) = some (.ref fa) := by
      have e : (HandSHeadRun.topDef (OpenLaw.row PySem.Challenge.rw_planehall_k30_whole_leads).prog 118).name = ("law" : PySem.Str) := by kernel_rfl
      rw [← e]
      exact hmg0
    obtain ⟨fd, hb, hm, hF⟩ := GD.the_law (P := PySem.Challenge.rw_planehall_k30_whole_leads.prog) (w := w) KX G c ex
    have ef := hmg.symm.trans hm
    cases ef
    exact ⟨K, fd, GD.spLaw K, KX, hb, fun H a ns hl hS => ⟨a, ns, rfl, hS, hl, fun _ => rfl⟩, fun base _ _ => hF base⟩
end
