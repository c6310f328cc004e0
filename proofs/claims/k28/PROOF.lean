import PyProof.Rows.All
import Wide.All
import OpenK.AllK
import Wide.FinOn
import KE.KStateDown
import HandS.ForMost
import HandS.Head3
import HandS.HeadEnd
import HandS.HeadHook2
import HandS.Property
import HandS.OwnEq
import HandS.IsInst
import HandS.Flow
import HandS.Wide
import HandS.WideBits
import HandS.Gcd
import HandS.Conv
import HandS.Zip
import PySem.Challenge.RW_neverlouder_k28_whole_parts_and_picked_t
import HandS.Walk
import HandS.Style
import HandS.More
import HandS.RaiseMore
import HandS.Defaults
import HandS.Codes
import HandS.MakeKwOnly
set_option Elab.async false
set_option linter.all false
set_option maxRecDepth 100000
set_option maxHeartbeats 0
/-! The head: what the top leaves, by facts at written addresses. -/
namespace N640
open PySem PySem.Spec PyProof.Rows L2
/-- the i-th statement of the top -/
def topS (i : Nat) : Stmt := PySem.Challenge.pw_neverlouder_k28_whole_parts_and_picked_t.main.body.getD i (.Pass ⟨0, 0, 0, 0⟩)
/-- one def: where it stands, its names, its statement, its defaults -/
structure Df where
  ad : Addr
  nm : Str
  ql : Str
  st : Stmt
  ds : List V
abbrev FV : Type := Option (Str × Str × Arguments × FuncBody × Scope × Addr × List (Str × Addr) × Addr)
def fvAt (K : PySem.W.Frag) (a : Addr) : FV :=
  match K.lookup a with
  | some ⟨_, _, .func z, _⟩ => some (z.name, z.qualname, z.params, z.body, z.scope, z.globals, z.closure, z.builtins)
  | _ => none
def Df.fv (d : Df) : FV := some (d.nm, d.ql, defArgs d.st, .stmts (defBody d.st), defScope d.st, mainGlobals, [], builtinsNs)
def Df.good (K : PySem.W.Frag) (d : Df) : Bool :=
  PySem.W.isFn K (.ref d.ad) && (PySem.W.keepIn K (.ref d.ad) &&
    match K.lookup d.ad with
    | some ⟨_, _, .func z, _⟩ => PySem.W.codeIn K z.code d.ql && (He.dflB K z.defaults d.ds && He.kwdB K z.kwdefaults [])
    | _ => false)
abbrev FnD (K : PySem.W.Frag) (d : Df) (fd : FuncData) : Prop := FunD K d.nm d.ql (defArgs d.st) (defBody d.st) (defScope d.st) d.ds [] d.ad fd
theorem bb {a b : Bool} (h : (a && b) = true) : a = true ∧ b = true := Bool.and_eq_true_iff.mp h
theorem Df.fun_ {K : PySem.W.Frag} {d : Df} (e : fvAt K d.ad = d.fv) (g : d.good K = true) : (∃ fd, FnD K d fd) ∧ PySem.W.isFn K (.ref d.ad) = true ∧ PySem.W.keepIn K (.ref d.ad) = true := by
  obtain ⟨g0, g⟩ := bb g
  obtain ⟨g1, g2⟩ := bb g
  refine ⟨?_, g0, g1⟩
  unfold fvAt at e
  cases hq : K.lookup d.ad with
  | none => rw [hq] at g2; cases g2
  | some ob =>
    obtain ⟨ob1, ob2, ob3, ob4⟩ := ob
    rw [hq] at g2 e
    cases ob3 with
    | func z =>
      obtain ⟨z1, z2, z3, z4, z5, z6, z7, z8, z9, z10, z11, z12, z13, z14, z15⟩ := z
      have e' : (some (z1, z2, z3, z4, z5, z6, z7, z15) : FV) = some (d.nm, d.ql, defArgs d.st, .stmts (defBody d.st), defScope d.st, mainGlobals, [], builtinsNs) := e
      simp only [Option.some.injEq, Prod.mk.injEq] at e'
      obtain ⟨a1, a2, a3, a4, a5, a6, a7, a8⟩ := e'
      subst a1 a2 a3 a4 a5 a6 a7 a8
      have g3 : (PySem.W.codeIn K z13 d.ql && (He.dflB K z8 d.ds && He.kwdB K z9 [])) = true := g2
      obtain ⟨b1, b2⟩ := bb g3
      obtain ⟨b3, b4⟩ := bb b2
      exact ⟨_, ⟨ob1, ob2, z8, z9, z10, z11, z12, z13, z14, ob4, rfl, hq, b1, He.dflB_ok b3, He.kwdB_ok b4⟩, g1⟩
    | _ => cases g2
/-! ### the facts that are Bools -/
def bCls (K : PySem.W.Frag) (C : Addr) : Bool := PySem.W.plainGet K C Str.empty && (PySem.W.hasDictIn K C && (PySem.W.plainOver K C && He.eqO (PySem.W.findIn K (.ref C) "__setattr__") (some (some (.builtin "object.__setattr__")))))
def bNo (K : PySem.W.Frag) (C : Addr) (f : Str) : Bool := He.eqO (PySem.W.findIn K (.ref C) f) (some none)
def bAt (K : PySem.W.Frag) (C : Addr) (m : Str) (a : Addr) : Bool := He.eqO (PySem.W.findIn K (.ref C) m) (some (some (.ref a)))
def bGlo (K : PySem.W.Frag) (x : Str) (a : Addr) : Bool := He.eqO (PySem.W.nsIn K mainGlobals x) (some (some (.ref a)))
def bFree (K : PySem.W.Frag) (x : Str) : Bool := He.eqO (PySem.W.nsIn K mainGlobals x) (some none)
def bProp (K : PySem.W.Frag) (C : Addr) (f : Str) (p g : Addr) : Bool := He.eqO (PySem.W.findIn K (.ref C) f) (some (some (.ref p))) &&
  (He.eqO (PySem.W.specialIn K (.ref p) "__get__") (some (some (.builtin "property.__get__"))) && (decide (PySem.W.takesIn K (.ref p) = some true) &&
    match PySem.W.recIn K p "property" with
    | some (.ref a :: _) => decide (a = g)
    | _ => false))
def bIns (K : PySem.W.Frag) (C : Addr) : Bool := He.eqO (PySem.W.findIn K (.ref C) "__class__") (some (some (.builtin "object.__class__"))) && (decide (PySem.W.mroIn K C (.type "object") = some true) && PySem.W.selfFirst K C)
def bKit (K : PySem.W.Frag) (t c : Value) (b : Bool) : Bool := decide (PySem.W.kitOne K t c = some b)
theorem bCls_ok {K : PySem.W.Frag} {C : Addr} (h : bCls K C = true) : Cls K C := by
  obtain ⟨a, h⟩ := bb h
  obtain ⟨b, h⟩ := bb h
  obtain ⟨c, d⟩ := bb h
  exact ⟨a, b, c, He.eqO_ok d⟩
theorem bProp_ok {K : PySem.W.Frag} {C : Addr} {f : Str} {p g : Addr} (h : bProp K C f p g = true) : PropOf K C f p g := by
  obtain ⟨a, h⟩ := bb h
  obtain ⟨b, h⟩ := bb h
  obtain ⟨c, d⟩ := bb h
  refine ⟨He.eqO_ok a, He.eqO_ok b, of_decide_eq_true c, ?_⟩
  cases e : PySem.W.recIn K p "property" with
  | none => rw [e] at d; cases d
  | some l =>
    rw [e] at d
    cases l with
    | nil => cases d
    | cons v r =>
      cases v with
      | ref z =>
        have ez : z = g := of_decide_eq_true d
        exact ⟨r, by rw [ez]⟩
      | _ => cases d
/-! ### addresses, defs -/
abbrev CR : Addr := 343
abbrev CP : Addr := 371
abbrev CT : Addr := 533
abbrev CW : Addr := 692
def d_is_integer : Df := ⟨157, "is_integer", "is_integer", topS 10, []⟩
def d_is_count : Df := ⟨164, "is_count", "is_count", topS 11, []⟩
def d_is_list : Df := ⟨171, "is_list", "is_list", topS 12, []⟩
def d_common_part : Df := ⟨185, "common_part", "common_part", topS 16, []⟩
def d_Ratio_init : Df := ⟨200, "__init__", "Ratio.__init__", inClass (topS 17) 0, [.int 1]⟩
def d_Ratio_sign : Df := ⟨223, "sign", "Ratio.sign", inClass (topS 17) 3, []⟩
def d_Ratio_add : Df := ⟨249, "__add__", "Ratio.__add__", inClass (topS 17) 6, []⟩
def d_Ratio_mul : Df := ⟨277, "__mul__", "Ratio.__mul__", inClass (topS 17) 10, []⟩
def d_Ratio_over : Df := ⟨298, "over", "Ratio.over", inClass (topS 17) 13, []⟩
def d_Ratio_eq : Df := ⟨326, "__eq__", "Ratio.__eq__", inClass (topS 17) 17, []⟩
def d_told_pair : Df := ⟨354, "told_pair", "told_pair", topS 18, []⟩
def d_Parts_init : Df := ⟨368, "__init__", "Parts.__init__", inClass (topS 20) 0, []⟩
def d_Twin_init : Df := ⟨390, "__init__", "Twin.__init__", inClass (topS 21) 0, [.int 0]⟩
def d_Twin_plain : Df := ⟨397, "plain", "Twin.plain", inClass (topS 21) 1, []⟩
def d_Twin_is_nought : Df := ⟨421, "is_nought", "Twin.is_nought", inClass (topS 21) 4, []⟩
def d_Twin_add : Df := ⟨439, "__add__", "Twin.__add__", inClass (topS 21) 6, []⟩
def d_Twin_sub : Df := ⟨453, "__sub__", "Twin.__sub__", inClass (topS 21) 8, []⟩
def d_Twin_mul : Df := ⟨467, "__mul__", "Twin.__mul__", inClass (topS 21) 10, []⟩
def d_Twin_over : Df := ⟨488, "over", "Twin.over", inClass (topS 21) 13, []⟩
def d_Twin_mirror : Df := ⟨495, "mirror", "Twin.mirror", inClass (topS 21) 14, []⟩
def d_Twin_size : Df := ⟨502, "size", "Twin.size", inClass (topS 21) 15, []⟩
def d_Twin_eq : Df := ⟨516, "__eq__", "Twin.__eq__", inClass (topS 21) 17, []⟩
def d_handed_parts : Df := ⟨544, "handed_parts", "handed_parts", topS 22, []⟩
def d_by_parts : Df := ⟨551, "by_parts", "by_parts", topS 23, []⟩
def d_told_parts : Df := ⟨558, "told_parts", "told_parts", topS 24, []⟩
def d_nought : Df := ⟨565, "nought", "nought", topS 25, []⟩
def d_one : Df := ⟨572, "one", "one", topS 26, []⟩
def d_is_value : Df := ⟨579, "is_value", "is_value", topS 27, []⟩
def d_twin_of : Df := ⟨586, "twin_of", "twin_of", topS 28, []⟩
def d_product_sum : Df := ⟨593, "product_sum", "product_sum", topS 29, []⟩
def d_are_values : Df := ⟨598, "are_values", "are_values", topS 32, []⟩
def d_is_mirrored : Df := ⟨605, "is_mirrored", "is_mirrored", topS 33, []⟩
def d_told_table : Df := ⟨610, "told_table", "told_table", topS 34, []⟩
def d_want_table : Df := ⟨617, "want_table", "want_table", topS 35, []⟩
def d_pair_form : Df := ⟨622, "pair_form", "pair_form", topS 36, []⟩
def d_form_of : Df := ⟨629, "form_of", "form_of", topS 37, []⟩
def d_picked_of : Df := ⟨634, "picked_of", "picked_of", topS 38, []⟩
def d_are_positions : Df := ⟨639, "are_positions", "are_positions", topS 39, []⟩
def d_picked : Df := ⟨646, "picked", "picked", topS 40, []⟩
def d_Walk_init : Df := ⟨658, "__init__", "Walk.__init__", inClass (topS 42) 0, []⟩
def d_Walk_middle : Df := ⟨665, "middle", "Walk.middle", inClass (topS 42) 1, []⟩
def d_Walk_first_with : Df := ⟨672, "first_with", "Walk.first_with", inClass (topS 42) 2, []⟩
def d_Walk_first_beside : Df := ⟨679, "first_beside", "Walk.first_beside", inClass (topS 42) 3, []⟩
def d_Walk_column : Df := ⟨684, "column", "Walk.column", inClass (topS 42) 4, []⟩
def d_Walk_take : Df := ⟨689, "take", "Walk.take", inClass (topS 42) 5, []⟩
def d_less_times : Df := ⟨701, "less_times", "less_times", topS 43, []⟩
def d_squares_of : Df := ⟨708, "squares_of", "squares_of", topS 44, []⟩
def d_is_never_below_of : Df := ⟨715, "is_never_below_of", "is_never_below_of", topS 45, []⟩
def d_is_never_below : Df := ⟨722, "is_never_below", "is_never_below", topS 46, []⟩
def d_bent : Df := ⟨727, "bent", "bent", topS 48, []⟩
def d_bar_of : Df := ⟨734, "bar_of", "bar_of", topS 49, []⟩
def d_bar : Df := ⟨741, "bar", "bar", topS 50, []⟩
def d_is_bar : Df := ⟨746, "is_bar", "is_bar", topS 51, []⟩
def d_least_part_of : Df := ⟨753, "least_part_of", "least_part_of", topS 52, []⟩
def d_least_part : Df := ⟨760, "least_part", "least_part", topS 53, []⟩
def d_take_two : Df := ⟨765, "take_two", "take_two", topS 55, []⟩
def d_walked : Df := ⟨772, "walked", "walked", topS 56, []⟩
def d_determinant : Df := ⟨779, "determinant", "determinant", topS 57, []⟩
def d_L_pot : Df := ⟨786, "_law_pot", "_law_pot", topS 59, []⟩
def d_L_draw : Df := ⟨793, "_law_draw", "_law_draw", topS 60, []⟩
def d_L_gcd : Df := ⟨800, "_law_gcd", "_law_gcd", topS 61, []⟩
def d_L_low : Df := ⟨807, "_law_low", "_law_low", topS 62, []⟩
def d_L_plus : Df := ⟨814, "_law_plus", "_law_plus", topS 63, []⟩
def d_L_by : Df := ⟨821, "_law_by", "_law_by", topS 64, []⟩
def d_L_less : Df := ⟨828, "_law_less", "_law_less", topS 65, []⟩
def d_L_mirror : Df := ⟨835, "_law_mirror", "_law_mirror", topS 66, []⟩
def d_L_over : Df := ⟨842, "_law_over", "_law_over", topS 67, []⟩
def d_L_sum : Df := ⟨849, "_law_sum", "_law_sum", topS 68, []⟩
def d_L_twin : Df := ⟨856, "_law_twin", "_law_twin", topS 69, []⟩
def d_L_passed : Df := ⟨863, "_law_passed", "_law_passed", topS 70, []⟩
def d_L_number : Df := ⟨870, "_law_number", "_law_number", topS 71, []⟩
def d_L_whole : Df := ⟨877, "_law_whole", "_law_whole", topS 72, []⟩
def d_L_weight : Df := ⟨884, "_law_weight", "_law_weight", topS 73, []⟩
def d_L_made : Df := ⟨889, "_law_made", "_law_made", topS 74, []⟩
def d_L_row : Df := ⟨894, "_law_row", "_law_row", topS 75, []⟩
def d_L_above : Df := ⟨899, "_law_above", "_law_above", topS 76, []⟩
def d_L_any : Df := ⟨904, "_law_any", "_law_any", topS 77, []⟩
def d_L_handed : Df := ⟨909, "_law_handed", "_law_handed", topS 78, []⟩
def d_L_left : Df := ⟨916, "_law_left", "_law_left", topS 79, []⟩
def d_L_steps : Df := ⟨921, "_law_steps", "_law_steps", topS 80, []⟩
def d_L_determinant : Df := ⟨926, "_law_determinant", "_law_determinant", topS 81, []⟩
def d_L_choices : Df := ⟨931, "_law_choices", "_law_choices", topS 82, []⟩
def d_L_part : Df := ⟨936, "_law_part", "_law_part", topS 83, []⟩
def d_L_grown : Df := ⟨941, "_law_grown", "_law_grown", topS 84, []⟩
def d_L_right : Df := ⟨946, "_law_right", "_law_right", topS 85, []⟩
def d_law : Df := ⟨951, "law", "law", topS 86, []⟩
def fns0 : List Df := [d_is_integer, d_is_count, d_is_list, d_common_part, d_Ratio_init, d_Ratio_sign, d_Ratio_add, d_Ratio_mul, d_Ratio_over, d_Ratio_eq, d_told_pair, d_Parts_init, d_Twin_init, d_Twin_plain, d_Twin_is_nought, d_Twin_add, d_Twin_sub, d_Twin_mul, d_Twin_over, d_Twin_mirror, d_Twin_size, d_Twin_eq, d_handed_parts, d_by_parts, d_told_parts]
def fns1 : List Df := [d_nought, d_one, d_is_value, d_twin_of, d_product_sum, d_are_values, d_is_mirrored, d_told_table, d_want_table, d_pair_form, d_form_of, d_picked_of, d_are_positions, d_picked, d_Walk_init, d_Walk_middle, d_Walk_first_with, d_Walk_first_beside, d_Walk_column, d_Walk_take, d_less_times, d_squares_of, d_is_never_below_of, d_is_never_below, d_bent]
def fns2 : List Df := [d_bar_of, d_bar, d_is_bar, d_least_part_of, d_least_part, d_take_two, d_walked, d_determinant, d_L_pot, d_L_draw, d_L_gcd, d_L_low, d_L_plus, d_L_by, d_L_less, d_L_mirror, d_L_over, d_L_sum, d_L_twin, d_L_passed, d_L_number, d_L_whole, d_L_weight, d_L_made, d_L_row]
def fns3 : List Df := [d_L_above, d_L_any, d_L_handed, d_L_left, d_L_steps, d_L_determinant, d_L_choices, d_L_part, d_L_grown, d_L_right, d_law]
def fns : List Df := fns0 ++ (fns1 ++ (fns2 ++ (fns3)))
def ads0 : List Addr := [3, 343, 342, 371, 370, 533, 532, 692, 691, 224, 398, 422, 157, 156, 164, 163, 171, 170, 185, 184, 200, 199, 193, 223, 222, 249, 248, 277, 276, 298, 297, 326, 325, 354, 353, 368, 367, 390, 389, 383]
def ads1 : List Addr := [397, 396, 421, 420, 439, 438, 453, 452, 467, 466, 488, 487, 495, 494, 502, 501, 516, 515, 544, 543, 551, 550, 558, 557, 565, 564, 572, 571, 579, 578, 586, 585, 593, 592, 598, 597, 605, 604, 610, 609]
def ads2 : List Addr := [617, 616, 622, 621, 629, 628, 634, 633, 639, 638, 646, 645, 658, 657, 665, 664, 672, 671, 679, 678, 684, 683, 689, 688, 701, 700, 708, 707, 715, 714, 722, 721, 727, 726, 734, 733, 741, 740, 746, 745]
def ads3 : List Addr := [753, 752, 760, 759, 765, 764, 772, 771, 779, 778, 786, 785, 793, 792, 800, 799, 807, 806, 814, 813, 821, 820, 828, 827, 835, 834, 842, 841, 849, 848, 856, 855, 863, 862, 870, 869, 877, 876, 884, 883]
def ads4 : List Addr := [889, 888, 894, 893, 899, 898, 904, 903, 909, 908, 916, 915, 921, 920, 926, 925, 931, 930, 936, 935, 941, 940, 946, 945, 951, 950]
def ads : List Addr := ads0 ++ (ads1 ++ (ads2 ++ (ads3 ++ (ads4))))
def Fa_int (K : PySem.W.Frag) (x : Str) (i : Int) : Bool := (He.Fa.int x i).ok K
def bs0 (K : PySem.W.Frag) : List Bool := [bCls K CR, PySem.W.makesIn K CR, PySem.W.keepIn K (.ref CR), bIns K CR, bGlo K "Ratio" CR, bNo K CR "own_top", bNo K CR "own_bottom", bAt K CR "__init__" 200, bAt K CR "__add__" 249, bAt K CR "__mul__" 277, bAt K CR "over" 298, bAt K CR "__eq__" 326, bProp K CR "sign" 224 223, bCls K CP, PySem.W.makesIn K CP, PySem.W.keepIn K (.ref CP), bIns K CP, bGlo K "Parts" CP, bNo K CP "own_left", bNo K CP "own_right"]
def bs1 (K : PySem.W.Frag) : List Bool := [bNo K CP "own_below", bAt K CP "__init__" 368, bCls K CT, PySem.W.makesIn K CT, PySem.W.keepIn K (.ref CT), bIns K CT, bGlo K "Twin" CT, bNo K CT "own_plain", bNo K CT "own_side", bNo K CT "own_low", bAt K CT "__init__" 390, bAt K CT "__add__" 439, bAt K CT "__sub__" 453, bAt K CT "__mul__" 467, bAt K CT "over" 488, bAt K CT "mirror" 495, bAt K CT "size" 502, bAt K CT "__eq__" 516, bProp K CT "plain" 398 397, bProp K CT "is_nought" 422 421]
def bs2 (K : PySem.W.Frag) : List Bool := [bCls K CW, PySem.W.makesIn K CW, PySem.W.keepIn K (.ref CW), bIns K CW, bGlo K "Walk" CW, bNo K CW "own_values", bNo K CW "own_weights", bNo K CW "own_left", bAt K CW "__init__" 658, bAt K CW "middle" 665, bAt K CW "first_with" 672, bAt K CW "first_beside" 679, bAt K CW "column" 684, bAt K CW "take" 689, bGlo K "is_integer" 157, bGlo K "is_count" 164, bGlo K "is_list" 171, bGlo K "common_part" 185, bGlo K "told_pair" 354, bGlo K "handed_parts" 544]
def bs3 (K : PySem.W.Frag) : List Bool := [bGlo K "by_parts" 551, bGlo K "told_parts" 558, bGlo K "nought" 565, bGlo K "one" 572, bGlo K "is_value" 579, bGlo K "twin_of" 586, bGlo K "product_sum" 593, bGlo K "are_values" 598, bGlo K "is_mirrored" 605, bGlo K "told_table" 610, bGlo K "want_table" 617, bGlo K "pair_form" 622, bGlo K "form_of" 629, bGlo K "picked_of" 634, bGlo K "are_positions" 639, bGlo K "picked" 646, bGlo K "less_times" 701, bGlo K "squares_of" 708, bGlo K "is_never_below_of" 715, bGlo K "is_never_below" 722]
def bs4 (K : PySem.W.Frag) : List Bool := [bGlo K "bent" 727, bGlo K "bar_of" 734, bGlo K "bar" 741, bGlo K "is_bar" 746, bGlo K "least_part_of" 753, bGlo K "least_part" 760, bGlo K "take_two" 765, bGlo K "walked" 772, bGlo K "determinant" 779, bGlo K "_law_pot" 786, bGlo K "_law_draw" 793, bGlo K "_law_gcd" 800, bGlo K "_law_low" 807, bGlo K "_law_plus" 814, bGlo K "_law_by" 821, bGlo K "_law_less" 828, bGlo K "_law_mirror" 835, bGlo K "_law_over" 842, bGlo K "_law_sum" 849, bGlo K "_law_twin" 856]
def bs5 (K : PySem.W.Frag) : List Bool := [bGlo K "_law_passed" 863, bGlo K "_law_number" 870, bGlo K "_law_whole" 877, bGlo K "_law_weight" 884, bGlo K "_law_made" 889, bGlo K "_law_row" 894, bGlo K "_law_above" 899, bGlo K "_law_any" 904, bGlo K "_law_handed" 909, bGlo K "_law_left" 916, bGlo K "_law_steps" 921, bGlo K "_law_determinant" 926, bGlo K "_law_choices" 931, bGlo K "_law_part" 936, bGlo K "_law_grown" 941, bGlo K "_law_right" 946, bGlo K "law" 951, bFree K "len", bFree K "range", bFree K "list"]
def bs6 (K : PySem.W.Frag) : List Bool := [bFree K "tuple", bFree K "all", bFree K "zip", bFree K "enumerate", bFree K "isinstance", bFree K "int", bFree K "bool", bFree K "abs", bFree K "max", bFree K "min", bFree K "divmod", bFree K "repr", He.eqO (PySem.W.nsIn K mainGlobals "gcd") (some (some (.builtin "math.gcd"))), (Fa_int K "MOST_ROWS" 8), He.eqO (PySem.W.specialIn K (.builtin "object.__class__") "__get__") (some (some (.builtin "getset_descriptor.__get__"))), decide (PySem.W.takesIn K (.builtin "object.__class__") = some true), bKit K (.ref CR) (.ref CR) true, bKit K (.ref CR) (.ref CT) false, bKit K (.ref CR) (.ref CP) false, bKit K (.ref CR) (.type "int") false]
def bs7 (K : PySem.W.Frag) : List Bool := [bKit K (.ref CR) (.type "bool") false, bKit K (.ref CR) (.type "list") false, bKit K (.ref CR) (.type "tuple") false, bKit K (.ref CT) (.ref CR) false, bKit K (.ref CT) (.ref CT) true, bKit K (.ref CT) (.ref CP) false, bKit K (.ref CT) (.type "int") false, bKit K (.ref CT) (.type "bool") false, bKit K (.ref CT) (.type "list") false, bKit K (.ref CT) (.type "tuple") false, bKit K (.ref CP) (.ref CR) false, bKit K (.ref CP) (.ref CT) false, bKit K (.ref CP) (.ref CP) true, bKit K (.ref CP) (.type "int") false, bKit K (.ref CP) (.type "bool") false, bKit K (.ref CP) (.type "list") false, bKit K (.ref CP) (.type "tuple") false, bKit K (.type "int") (.ref CR) false, bKit K (.type "int") (.ref CT) false, bKit K (.type "int") (.ref CP) false]
def bs8 (K : PySem.W.Frag) : List Bool := [bKit K (.type "int") (.type "int") true, bKit K (.type "int") (.type "bool") false, bKit K (.type "int") (.type "list") false, bKit K (.type "int") (.type "tuple") false, bKit K (.type "list") (.ref CR) false, bKit K (.type "list") (.ref CT) false, bKit K (.type "list") (.ref CP) false, bKit K (.type "list") (.type "int") false, bKit K (.type "list") (.type "bool") false, bKit K (.type "list") (.type "list") true, bKit K (.type "list") (.type "tuple") false, bKit K (.type "tuple") (.ref CR) false, bKit K (.type "tuple") (.ref CT) false, bKit K (.type "tuple") (.ref CP) false, bKit K (.type "tuple") (.type "int") false, bKit K (.type "tuple") (.type "bool") false, bKit K (.type "tuple") (.type "list") false, bKit K (.type "tuple") (.type "tuple") true, bAt K CR "__radd__" 256, bAt K CR "__rsub__" 270]
def bs9 (K : PySem.W.Frag) : List Bool := [bAt K CR "__rmul__" 284, bAt K CT "__radd__" 446, bAt K CT "__rsub__" 460, bAt K CT "__rmul__" 474, He.eqO (PySem.W.findIn K (.ref CR) "__ne__") (some (some (.builtin "object.__ne__"))), He.eqO (PySem.W.findIn K (.ref CT) "__ne__") (some (some (.builtin "object.__ne__"))), (PySem.W.findIn K (.type "int") "__add__").isSome, (PySem.W.findIn K (.type "int") "__radd__").isSome, (PySem.W.findIn K (.type "int") "__sub__").isSome, (PySem.W.findIn K (.type "int") "__rsub__").isSome, (PySem.W.findIn K (.type "int") "__mul__").isSome, (PySem.W.findIn K (.type "int") "__rmul__").isSome, decide (PySem.W.subIn K (.ref CR) (.ref CT) = some false), decide (PySem.W.subIn K (.type "int") (.ref CR) = some false)]
def bsAll (K : PySem.W.Frag) : Bool := (bs0 K).all id && ((bs1 K).all id && ((bs2 K).all id && ((bs3 K).all id && ((bs4 K).all id && ((bs5 K).all id && ((bs6 K).all id && ((bs7 K).all id && ((bs8 K).all id && ((bs9 K).all id)))))))))
/-! ### the Hook -/
abbrev Al : Type := Bool × List FV
def obs (K : PySem.W.Frag) : Al := (bsAll K && fns.all fun d => d.good K, fns.map fun d => fvAt K d.ad)
def vals : Al := (true, fns.map Df.fv)
def Says (K : PySem.W.Frag) : Prop := obs K = vals
def obsG (g : Addr → Option Obj) : Al := obs (He.frG g ads)
def hk : PySem.W.Hook where
  α := Al
  obs := fun s => obsG s.heap.get?
  val := fun _ => vals
  says := fun _ h => ∃ K : PySem.W.Frag, K.In h ∧ Says K
  of := fun _ _ e => ⟨_, He.frG_in, e⟩
  keeps := fun _ _ _ ⟨K, hK, c⟩ k => ⟨K, PySem.W.Frag.In.keeps hK k, c⟩
def ob (s : PySem.W.SharedT) : Al := obsG (HandSHeadRun.getT s)
theorem ob_eq (s : PySem.W.SharedT) : ob s = hk.obs s.abs := by
  have e : HandSHeadRun.getT s = s.abs.heap.get? := funext (HandSHeadRun.getT_eq s)
  show obsG _ = obsG _
  rw [e]
theorem Says.fn {K : PySem.W.Frag} (c : Says K) (i : Nat) {d : Df} (h : fns[i]? = some d) : (∃ fd, FnD K d fd) ∧ PySem.W.isFn K (.ref d.ad) = true ∧ PySem.W.keepIn K (.ref d.ad) = true := by
  have c2 := (bb (show (bsAll K && fns.all fun d => d.good K) = true from congrArg (fun z : Al => z.1) c)).2
  have e : fns.map (fun d => fvAt K d.ad) = fns.map Df.fv := congrArg (fun z : Al => z.2) c
  have e2 : (fns.map fun d => fvAt K d.ad)[i]? = (fns.map Df.fv)[i]? := by rw [e]
  rw [List.getElem?_map, List.getElem?_map, h] at e2
  exact Df.fun_ (Option.some.inj e2) (List.all_eq_true.mp c2 d (List.mem_of_getElem? h))
theorem Says.bs {K : PySem.W.Frag} (c : Says K) : bsAll K = true := (bb (show (bsAll K && fns.all fun d => d.good K) = true from congrArg (fun z : Al => z.1) c)).1
theorem all_at {l : List Bool} (h : l.all id = true) (i : Nat) {b : Bool} (e : l[i]? = some b) : b = true := List.all_eq_true.mp h b (List.mem_of_getElem? e)
/-- the facts, by names -/
structure Tx (K : PySem.W.Frag) : Prop where
  clsR : bCls K CR = true
  mkR : PySem.W.makesIn K CR = true
  kpR : PySem.W.keepIn K (.ref CR) = true
  insR : bIns K CR = true
  gloR : bGlo K "Ratio" CR = true
  no_own_top : bNo K CR "own_top" = true
  no_own_bottom : bNo K CR "own_bottom" = true
  atR_init : bAt K CR "__init__" 200 = true
  atR_add : bAt K CR "__add__" 249 = true
  atR_mul : bAt K CR "__mul__" 277 = true
  atR_over : bAt K CR "over" 298 = true
  atR_eq : bAt K CR "__eq__" 326 = true
  prR_sign : bProp K CR "sign" 224 223 = true
  clsP : bCls K CP = true
  mkP : PySem.W.makesIn K CP = true
  kpP : PySem.W.keepIn K (.ref CP) = true
  insP : bIns K CP = true
  gloP : bGlo K "Parts" CP = true
  no_own_left : bNo K CP "own_left" = true
  no_own_right : bNo K CP "own_right" = true
  no_own_below : bNo K CP "own_below" = true
  atP_init : bAt K CP "__init__" 368 = true
  clsT : bCls K CT = true
  mkT : PySem.W.makesIn K CT = true
  kpT : PySem.W.keepIn K (.ref CT) = true
  insT : bIns K CT = true
  gloT : bGlo K "Twin" CT = true
  no_own_plain : bNo K CT "own_plain" = true
  no_own_side : bNo K CT "own_side" = true
  no_own_low : bNo K CT "own_low" = true
  atT_init : bAt K CT "__init__" 390 = true
  atT_add : bAt K CT "__add__" 439 = true
  atT_sub : bAt K CT "__sub__" 453 = true
  atT_mul : bAt K CT "__mul__" 467 = true
  atT_over : bAt K CT "over" 488 = true
  atT_mirror : bAt K CT "mirror" 495 = true
  atT_size : bAt K CT "size" 502 = true
  atT_eq : bAt K CT "__eq__" 516 = true
  prT_plain : bProp K CT "plain" 398 397 = true
  prT_is_nought : bProp K CT "is_nought" 422 421 = true
  clsW : bCls K CW = true
  mkW : PySem.W.makesIn K CW = true
  kpW : PySem.W.keepIn K (.ref CW) = true
  insW : bIns K CW = true
  gloW : bGlo K "Walk" CW = true
  no_own_values_W : bNo K CW "own_values" = true
  no_own_weights_W : bNo K CW "own_weights" = true
  no_own_left_W : bNo K CW "own_left" = true
  atW_init : bAt K CW "__init__" 658 = true
  atW_middle : bAt K CW "middle" 665 = true
  atW_first_with : bAt K CW "first_with" 672 = true
  atW_first_beside : bAt K CW "first_beside" 679 = true
  atW_column : bAt K CW "column" 684 = true
  atW_take : bAt K CW "take" 689 = true
  g_is_integer : bGlo K "is_integer" 157 = true
  g_is_count : bGlo K "is_count" 164 = true
  g_is_list : bGlo K "is_list" 171 = true
  g_common_part : bGlo K "common_part" 185 = true
  g_told_pair : bGlo K "told_pair" 354 = true
  g_handed_parts : bGlo K "handed_parts" 544 = true
  g_by_parts : bGlo K "by_parts" 551 = true
  g_told_parts : bGlo K "told_parts" 558 = true
  g_nought : bGlo K "nought" 565 = true
  g_one : bGlo K "one" 572 = true
  g_is_value : bGlo K "is_value" 579 = true
  g_twin_of : bGlo K "twin_of" 586 = true
  g_product_sum : bGlo K "product_sum" 593 = true
  g_are_values : bGlo K "are_values" 598 = true
  g_is_mirrored : bGlo K "is_mirrored" 605 = true
  g_told_table : bGlo K "told_table" 610 = true
  g_want_table : bGlo K "want_table" 617 = true
  g_pair_form : bGlo K "pair_form" 622 = true
  g_form_of : bGlo K "form_of" 629 = true
  g_picked_of : bGlo K "picked_of" 634 = true
  g_are_positions : bGlo K "are_positions" 639 = true
  g_picked : bGlo K "picked" 646 = true
  g_less_times : bGlo K "less_times" 701 = true
  g_squares_of : bGlo K "squares_of" 708 = true
  g_is_never_below_of : bGlo K "is_never_below_of" 715 = true
  g_is_never_below : bGlo K "is_never_below" 722 = true
  g_bent : bGlo K "bent" 727 = true
  g_bar_of : bGlo K "bar_of" 734 = true
  g_bar : bGlo K "bar" 741 = true
  g_is_bar : bGlo K "is_bar" 746 = true
  g_least_part_of : bGlo K "least_part_of" 753 = true
  g_least_part : bGlo K "least_part" 760 = true
  g_take_two : bGlo K "take_two" 765 = true
  g_walked : bGlo K "walked" 772 = true
  g_determinant : bGlo K "determinant" 779 = true
  g_L_pot : bGlo K "_law_pot" 786 = true
  g_L_draw : bGlo K "_law_draw" 793 = true
  g_L_gcd : bGlo K "_law_gcd" 800 = true
  g_L_low : bGlo K "_law_low" 807 = true
  g_L_plus : bGlo K "_law_plus" 814 = true
  g_L_by : bGlo K "_law_by" 821 = true
  g_L_less : bGlo K "_law_less" 828 = true
  g_L_mirror : bGlo K "_law_mirror" 835 = true
  g_L_over : bGlo K "_law_over" 842 = true
  g_L_sum : bGlo K "_law_sum" 849 = true
  g_L_twin : bGlo K "_law_twin" 856 = true
  g_L_passed : bGlo K "_law_passed" 863 = true
  g_L_number : bGlo K "_law_number" 870 = true
  g_L_whole : bGlo K "_law_whole" 877 = true
  g_L_weight : bGlo K "_law_weight" 884 = true
  g_L_made : bGlo K "_law_made" 889 = true
  g_L_row : bGlo K "_law_row" 894 = true
  g_L_above : bGlo K "_law_above" 899 = true
  g_L_any : bGlo K "_law_any" 904 = true
  g_L_handed : bGlo K "_law_handed" 909 = true
  g_L_left : bGlo K "_law_left" 916 = true
  g_L_steps : bGlo K "_law_steps" 921 = true
  g_L_determinant : bGlo K "_law_determinant" 926 = true
  g_L_choices : bGlo K "_law_choices" 931 = true
  g_L_part : bGlo K "_law_part" 936 = true
  g_L_grown : bGlo K "_law_grown" 941 = true
  g_L_right : bGlo K "_law_right" 946 = true
  g_law : bGlo K "law" 951 = true
  f_len : bFree K "len" = true
  f_range : bFree K "range" = true
  f_list : bFree K "list" = true
  f_tuple : bFree K "tuple" = true
  f_all : bFree K "all" = true
  f_zip : bFree K "zip" = true
  f_enumerate : bFree K "enumerate" = true
  f_isinstance : bFree K "isinstance" = true
  f_int : bFree K "int" = true
  f_bool : bFree K "bool" = true
  f_abs : bFree K "abs" = true
  f_max : bFree K "max" = true
  f_min : bFree K "min" = true
  f_divmod : bFree K "divmod" = true
  f_repr : bFree K "repr" = true
  gcdB : He.eqO (PySem.W.nsIn K mainGlobals "gcd") (some (some (.builtin "math.gcd"))) = true
  most : (Fa_int K "MOST_ROWS" 8) = true
  oc1 : He.eqO (PySem.W.specialIn K (.builtin "object.__class__") "__get__") (some (some (.builtin "getset_descriptor.__get__"))) = true
  oc2 : decide (PySem.W.takesIn K (.builtin "object.__class__") = some true) = true
  kit_R_R : bKit K (.ref CR) (.ref CR) true = true
  kit_R_T : bKit K (.ref CR) (.ref CT) false = true
  kit_R_P : bKit K (.ref CR) (.ref CP) false = true
  kit_R_i : bKit K (.ref CR) (.type "int") false = true
  kit_R_b : bKit K (.ref CR) (.type "bool") false = true
  kit_R_l : bKit K (.ref CR) (.type "list") false = true
  kit_R_t : bKit K (.ref CR) (.type "tuple") false = true
  kit_T_R : bKit K (.ref CT) (.ref CR) false = true
  kit_T_T : bKit K (.ref CT) (.ref CT) true = true
  kit_T_P : bKit K (.ref CT) (.ref CP) false = true
  kit_T_i : bKit K (.ref CT) (.type "int") false = true
  kit_T_b : bKit K (.ref CT) (.type "bool") false = true
  kit_T_l : bKit K (.ref CT) (.type "list") false = true
  kit_T_t : bKit K (.ref CT) (.type "tuple") false = true
  kit_P_R : bKit K (.ref CP) (.ref CR) false = true
  kit_P_T : bKit K (.ref CP) (.ref CT) false = true
  kit_P_P : bKit K (.ref CP) (.ref CP) true = true
  kit_P_i : bKit K (.ref CP) (.type "int") false = true
  kit_P_b : bKit K (.ref CP) (.type "bool") false = true
  kit_P_l : bKit K (.ref CP) (.type "list") false = true
  kit_P_t : bKit K (.ref CP) (.type "tuple") false = true
  kit_i_R : bKit K (.type "int") (.ref CR) false = true
  kit_i_T : bKit K (.type "int") (.ref CT) false = true
  kit_i_P : bKit K (.type "int") (.ref CP) false = true
  kit_i_i : bKit K (.type "int") (.type "int") true = true
  kit_i_b : bKit K (.type "int") (.type "bool") false = true
  kit_i_l : bKit K (.type "int") (.type "list") false = true
  kit_i_t : bKit K (.type "int") (.type "tuple") false = true
  kit_l_R : bKit K (.type "list") (.ref CR) false = true
  kit_l_T : bKit K (.type "list") (.ref CT) false = true
  kit_l_P : bKit K (.type "list") (.ref CP) false = true
  kit_l_i : bKit K (.type "list") (.type "int") false = true
  kit_l_b : bKit K (.type "list") (.type "bool") false = true
  kit_l_l : bKit K (.type "list") (.type "list") true = true
  kit_l_t : bKit K (.type "list") (.type "tuple") false = true
  kit_t_R : bKit K (.type "tuple") (.ref CR) false = true
  kit_t_T : bKit K (.type "tuple") (.ref CT) false = true
  kit_t_P : bKit K (.type "tuple") (.ref CP) false = true
  kit_t_i : bKit K (.type "tuple") (.type "int") false = true
  kit_t_b : bKit K (.type "tuple") (.type "bool") false = true
  kit_t_l : bKit K (.type "tuple") (.type "list") false = true
  kit_t_t : bKit K (.type "tuple") (.type "tuple") true = true
  rR_radd : bAt K CR "__radd__" 256 = true
  rR_rsub : bAt K CR "__rsub__" 270 = true
  rR_rmul : bAt K CR "__rmul__" 284 = true
  rT_radd : bAt K CT "__radd__" 446 = true
  rT_rsub : bAt K CT "__rsub__" 460 = true
  rT_rmul : bAt K CT "__rmul__" 474 = true
  neR : He.eqO (PySem.W.findIn K (.ref CR) "__ne__") (some (some (.builtin "object.__ne__"))) = true
  neT : He.eqO (PySem.W.findIn K (.ref CT) "__ne__") (some (some (.builtin "object.__ne__"))) = true
  iL_add : (PySem.W.findIn K (.type "int") "__add__").isSome = true
  iR_add : (PySem.W.findIn K (.type "int") "__radd__").isSome = true
  iL_sub : (PySem.W.findIn K (.type "int") "__sub__").isSome = true
  iR_sub : (PySem.W.findIn K (.type "int") "__rsub__").isSome = true
  iL_mul : (PySem.W.findIn K (.type "int") "__mul__").isSome = true
  iR_mul : (PySem.W.findIn K (.type "int") "__rmul__").isSome = true
  subRT : decide (PySem.W.subIn K (.ref CR) (.ref CT) = some false) = true
  subiR : decide (PySem.W.subIn K (.type "int") (.ref CR) = some false) = true
  F_is_integer : (∃ fd, FnD K d_is_integer fd) ∧ PySem.W.isFn K (.ref d_is_integer.ad) = true ∧ PySem.W.keepIn K (.ref d_is_integer.ad) = true
  F_is_count : (∃ fd, FnD K d_is_count fd) ∧ PySem.W.isFn K (.ref d_is_count.ad) = true ∧ PySem.W.keepIn K (.ref d_is_count.ad) = true
  F_is_list : (∃ fd, FnD K d_is_list fd) ∧ PySem.W.isFn K (.ref d_is_list.ad) = true ∧ PySem.W.keepIn K (.ref d_is_list.ad) = true
  F_common_part : (∃ fd, FnD K d_common_part fd) ∧ PySem.W.isFn K (.ref d_common_part.ad) = true ∧ PySem.W.keepIn K (.ref d_common_part.ad) = true
  F_Ratio_init : (∃ fd, FnD K d_Ratio_init fd) ∧ PySem.W.isFn K (.ref d_Ratio_init.ad) = true ∧ PySem.W.keepIn K (.ref d_Ratio_init.ad) = true
  F_Ratio_sign : (∃ fd, FnD K d_Ratio_sign fd) ∧ PySem.W.isFn K (.ref d_Ratio_sign.ad) = true ∧ PySem.W.keepIn K (.ref d_Ratio_sign.ad) = true
  F_Ratio_add : (∃ fd, FnD K d_Ratio_add fd) ∧ PySem.W.isFn K (.ref d_Ratio_add.ad) = true ∧ PySem.W.keepIn K (.ref d_Ratio_add.ad) = true
  F_Ratio_mul : (∃ fd, FnD K d_Ratio_mul fd) ∧ PySem.W.isFn K (.ref d_Ratio_mul.ad) = true ∧ PySem.W.keepIn K (.ref d_Ratio_mul.ad) = true
  F_Ratio_over : (∃ fd, FnD K d_Ratio_over fd) ∧ PySem.W.isFn K (.ref d_Ratio_over.ad) = true ∧ PySem.W.keepIn K (.ref d_Ratio_over.ad) = true
  F_Ratio_eq : (∃ fd, FnD K d_Ratio_eq fd) ∧ PySem.W.isFn K (.ref d_Ratio_eq.ad) = true ∧ PySem.W.keepIn K (.ref d_Ratio_eq.ad) = true
  F_told_pair : (∃ fd, FnD K d_told_pair fd) ∧ PySem.W.isFn K (.ref d_told_pair.ad) = true ∧ PySem.W.keepIn K (.ref d_told_pair.ad) = true
  F_Parts_init : (∃ fd, FnD K d_Parts_init fd) ∧ PySem.W.isFn K (.ref d_Parts_init.ad) = true ∧ PySem.W.keepIn K (.ref d_Parts_init.ad) = true
  F_Twin_init : (∃ fd, FnD K d_Twin_init fd) ∧ PySem.W.isFn K (.ref d_Twin_init.ad) = true ∧ PySem.W.keepIn K (.ref d_Twin_init.ad) = true
  F_Twin_plain : (∃ fd, FnD K d_Twin_plain fd) ∧ PySem.W.isFn K (.ref d_Twin_plain.ad) = true ∧ PySem.W.keepIn K (.ref d_Twin_plain.ad) = true
  F_Twin_is_nought : (∃ fd, FnD K d_Twin_is_nought fd) ∧ PySem.W.isFn K (.ref d_Twin_is_nought.ad) = true ∧ PySem.W.keepIn K (.ref d_Twin_is_nought.ad) = true
  F_Twin_add : (∃ fd, FnD K d_Twin_add fd) ∧ PySem.W.isFn K (.ref d_Twin_add.ad) = true ∧ PySem.W.keepIn K (.ref d_Twin_add.ad) = true
  F_Twin_sub : (∃ fd, FnD K d_Twin_sub fd) ∧ PySem.W.isFn K (.ref d_Twin_sub.ad) = true ∧ PySem.W.keepIn K (.ref d_Twin_sub.ad) = true
  F_Twin_mul : (∃ fd, FnD K d_Twin_mul fd) ∧ PySem.W.isFn K (.ref d_Twin_mul.ad) = true ∧ PySem.W.keepIn K (.ref d_Twin_mul.ad) = true
  F_Twin_over : (∃ fd, FnD K d_Twin_over fd) ∧ PySem.W.isFn K (.ref d_Twin_over.ad) = true ∧ PySem.W.keepIn K (.ref d_Twin_over.ad) = true
  F_Twin_mirror : (∃ fd, FnD K d_Twin_mirror fd) ∧ PySem.W.isFn K (.ref d_Twin_mirror.ad) = true ∧ PySem.W.keepIn K (.ref d_Twin_mirror.ad) = true
  F_Twin_size : (∃ fd, FnD K d_Twin_size fd) ∧ PySem.W.isFn K (.ref d_Twin_size.ad) = true ∧ PySem.W.keepIn K (.ref d_Twin_size.ad) = true
  F_Twin_eq : (∃ fd, FnD K d_Twin_eq fd) ∧ PySem.W.isFn K (.ref d_Twin_eq.ad) = true ∧ PySem.W.keepIn K (.ref d_Twin_eq.ad) = true
  F_handed_parts : (∃ fd, FnD K d_handed_parts fd) ∧ PySem.W.isFn K (.ref d_handed_parts.ad) = true ∧ PySem.W.keepIn K (.ref d_handed_parts.ad) = true
  F_by_parts : (∃ fd, FnD K d_by_parts fd) ∧ PySem.W.isFn K (.ref d_by_parts.ad) = true ∧ PySem.W.keepIn K (.ref d_by_parts.ad) = true
  F_told_parts : (∃ fd, FnD K d_told_parts fd) ∧ PySem.W.isFn K (.ref d_told_parts.ad) = true ∧ PySem.W.keepIn K (.ref d_told_parts.ad) = true
  F_nought : (∃ fd, FnD K d_nought fd) ∧ PySem.W.isFn K (.ref d_nought.ad) = true ∧ PySem.W.keepIn K (.ref d_nought.ad) = true
  F_one : (∃ fd, FnD K d_one fd) ∧ PySem.W.isFn K (.ref d_one.ad) = true ∧ PySem.W.keepIn K (.ref d_one.ad) = true
  F_is_value : (∃ fd, FnD K d_is_value fd) ∧ PySem.W.isFn K (.ref d_is_value.ad) = true ∧ PySem.W.keepIn K (.ref d_is_value.ad) = true
  F_twin_of : (∃ fd, FnD K d_twin_of fd) ∧ PySem.W.isFn K (.ref d_twin_of.ad) = true ∧ PySem.W.keepIn K (.ref d_twin_of.ad) = true
  F_product_sum : (∃ fd, FnD K d_product_sum fd) ∧ PySem.W.isFn K (.ref d_product_sum.ad) = true ∧ PySem.W.keepIn K (.ref d_product_sum.ad) = true
  F_are_values : (∃ fd, FnD K d_are_values fd) ∧ PySem.W.isFn K (.ref d_are_values.ad) = true ∧ PySem.W.keepIn K (.ref d_are_values.ad) = true
  F_is_mirrored : (∃ fd, FnD K d_is_mirrored fd) ∧ PySem.W.isFn K (.ref d_is_mirrored.ad) = true ∧ PySem.W.keepIn K (.ref d_is_mirrored.ad) = true
  F_told_table : (∃ fd, FnD K d_told_table fd) ∧ PySem.W.isFn K (.ref d_told_table.ad) = true ∧ PySem.W.keepIn K (.ref d_told_table.ad) = true
  F_want_table : (∃ fd, FnD K d_want_table fd) ∧ PySem.W.isFn K (.ref d_want_table.ad) = true ∧ PySem.W.keepIn K (.ref d_want_table.ad) = true
  F_pair_form : (∃ fd, FnD K d_pair_form fd) ∧ PySem.W.isFn K (.ref d_pair_form.ad) = true ∧ PySem.W.keepIn K (.ref d_pair_form.ad) = true
  F_form_of : (∃ fd, FnD K d_form_of fd) ∧ PySem.W.isFn K (.ref d_form_of.ad) = true ∧ PySem.W.keepIn K (.ref d_form_of.ad) = true
  F_picked_of : (∃ fd, FnD K d_picked_of fd) ∧ PySem.W.isFn K (.ref d_picked_of.ad) = true ∧ PySem.W.keepIn K (.ref d_picked_of.ad) = true
  F_are_positions : (∃ fd, FnD K d_are_positions fd) ∧ PySem.W.isFn K (.ref d_are_positions.ad) = true ∧ PySem.W.keepIn K (.ref d_are_positions.ad) = true
  F_picked : (∃ fd, FnD K d_picked fd) ∧ PySem.W.isFn K (.ref d_picked.ad) = true ∧ PySem.W.keepIn K (.ref d_picked.ad) = true
  F_Walk_init : (∃ fd, FnD K d_Walk_init fd) ∧ PySem.W.isFn K (.ref d_Walk_init.ad) = true ∧ PySem.W.keepIn K (.ref d_Walk_init.ad) = true
  F_Walk_middle : (∃ fd, FnD K d_Walk_middle fd) ∧ PySem.W.isFn K (.ref d_Walk_middle.ad) = true ∧ PySem.W.keepIn K (.ref d_Walk_middle.ad) = true
  F_Walk_first_with : (∃ fd, FnD K d_Walk_first_with fd) ∧ PySem.W.isFn K (.ref d_Walk_first_with.ad) = true ∧ PySem.W.keepIn K (.ref d_Walk_first_with.ad) = true
  F_Walk_first_beside : (∃ fd, FnD K d_Walk_first_beside fd) ∧ PySem.W.isFn K (.ref d_Walk_first_beside.ad) = true ∧ PySem.W.keepIn K (.ref d_Walk_first_beside.ad) = true
  F_Walk_column : (∃ fd, FnD K d_Walk_column fd) ∧ PySem.W.isFn K (.ref d_Walk_column.ad) = true ∧ PySem.W.keepIn K (.ref d_Walk_column.ad) = true
  F_Walk_take : (∃ fd, FnD K d_Walk_take fd) ∧ PySem.W.isFn K (.ref d_Walk_take.ad) = true ∧ PySem.W.keepIn K (.ref d_Walk_take.ad) = true
  F_less_times : (∃ fd, FnD K d_less_times fd) ∧ PySem.W.isFn K (.ref d_less_times.ad) = true ∧ PySem.W.keepIn K (.ref d_less_times.ad) = true
  F_squares_of : (∃ fd, FnD K d_squares_of fd) ∧ PySem.W.isFn K (.ref d_squares_of.ad) = true ∧ PySem.W.keepIn K (.ref d_squares_of.ad) = true
  F_is_never_below_of : (∃ fd, FnD K d_is_never_below_of fd) ∧ PySem.W.isFn K (.ref d_is_never_below_of.ad) = true ∧ PySem.W.keepIn K (.ref d_is_never_below_of.ad) = true
  F_is_never_below : (∃ fd, FnD K d_is_never_below fd) ∧ PySem.W.isFn K (.ref d_is_never_below.ad) = true ∧ PySem.W.keepIn K (.ref d_is_never_below.ad) = true
  F_bent : (∃ fd, FnD K d_bent fd) ∧ PySem.W.isFn K (.ref d_bent.ad) = true ∧ PySem.W.keepIn K (.ref d_bent.ad) = true
  F_bar_of : (∃ fd, FnD K d_bar_of fd) ∧ PySem.W.isFn K (.ref d_bar_of.ad) = true ∧ PySem.W.keepIn K (.ref d_bar_of.ad) = true
  F_bar : (∃ fd, FnD K d_bar fd) ∧ PySem.W.isFn K (.ref d_bar.ad) = true ∧ PySem.W.keepIn K (.ref d_bar.ad) = true
  F_is_bar : (∃ fd, FnD K d_is_bar fd) ∧ PySem.W.isFn K (.ref d_is_bar.ad) = true ∧ PySem.W.keepIn K (.ref d_is_bar.ad) = true
  F_least_part_of : (∃ fd, FnD K d_least_part_of fd) ∧ PySem.W.isFn K (.ref d_least_part_of.ad) = true ∧ PySem.W.keepIn K (.ref d_least_part_of.ad) = true
  F_least_part : (∃ fd, FnD K d_least_part fd) ∧ PySem.W.isFn K (.ref d_least_part.ad) = true ∧ PySem.W.keepIn K (.ref d_least_part.ad) = true
  F_take_two : (∃ fd, FnD K d_take_two fd) ∧ PySem.W.isFn K (.ref d_take_two.ad) = true ∧ PySem.W.keepIn K (.ref d_take_two.ad) = true
  F_walked : (∃ fd, FnD K d_walked fd) ∧ PySem.W.isFn K (.ref d_walked.ad) = true ∧ PySem.W.keepIn K (.ref d_walked.ad) = true
  F_determinant : (∃ fd, FnD K d_determinant fd) ∧ PySem.W.isFn K (.ref d_determinant.ad) = true ∧ PySem.W.keepIn K (.ref d_determinant.ad) = true
  F_L_pot : (∃ fd, FnD K d_L_pot fd) ∧ PySem.W.isFn K (.ref d_L_pot.ad) = true ∧ PySem.W.keepIn K (.ref d_L_pot.ad) = true
  F_L_draw : (∃ fd, FnD K d_L_draw fd) ∧ PySem.W.isFn K (.ref d_L_draw.ad) = true ∧ PySem.W.keepIn K (.ref d_L_draw.ad) = true
  F_L_gcd : (∃ fd, FnD K d_L_gcd fd) ∧ PySem.W.isFn K (.ref d_L_gcd.ad) = true ∧ PySem.W.keepIn K (.ref d_L_gcd.ad) = true
  F_L_low : (∃ fd, FnD K d_L_low fd) ∧ PySem.W.isFn K (.ref d_L_low.ad) = true ∧ PySem.W.keepIn K (.ref d_L_low.ad) = true
  F_L_plus : (∃ fd, FnD K d_L_plus fd) ∧ PySem.W.isFn K (.ref d_L_plus.ad) = true ∧ PySem.W.keepIn K (.ref d_L_plus.ad) = true
  F_L_by : (∃ fd, FnD K d_L_by fd) ∧ PySem.W.isFn K (.ref d_L_by.ad) = true ∧ PySem.W.keepIn K (.ref d_L_by.ad) = true
  F_L_less : (∃ fd, FnD K d_L_less fd) ∧ PySem.W.isFn K (.ref d_L_less.ad) = true ∧ PySem.W.keepIn K (.ref d_L_less.ad) = true
  F_L_mirror : (∃ fd, FnD K d_L_mirror fd) ∧ PySem.W.isFn K (.ref d_L_mirror.ad) = true ∧ PySem.W.keepIn K (.ref d_L_mirror.ad) = true
  F_L_over : (∃ fd, FnD K d_L_over fd) ∧ PySem.W.isFn K (.ref d_L_over.ad) = true ∧ PySem.W.keepIn K (.ref d_L_over.ad) = true
  F_L_sum : (∃ fd, FnD K d_L_sum fd) ∧ PySem.W.isFn K (.ref d_L_sum.ad) = true ∧ PySem.W.keepIn K (.ref d_L_sum.ad) = true
  F_L_twin : (∃ fd, FnD K d_L_twin fd) ∧ PySem.W.isFn K (.ref d_L_twin.ad) = true ∧ PySem.W.keepIn K (.ref d_L_twin.ad) = true
  F_L_passed : (∃ fd, FnD K d_L_passed fd) ∧ PySem.W.isFn K (.ref d_L_passed.ad) = true ∧ PySem.W.keepIn K (.ref d_L_passed.ad) = true
  F_L_number : (∃ fd, FnD K d_L_number fd) ∧ PySem.W.isFn K (.ref d_L_number.ad) = true ∧ PySem.W.keepIn K (.ref d_L_number.ad) = true
  F_L_whole : (∃ fd, FnD K d_L_whole fd) ∧ PySem.W.isFn K (.ref d_L_whole.ad) = true ∧ PySem.W.keepIn K (.ref d_L_whole.ad) = true
  F_L_weight : (∃ fd, FnD K d_L_weight fd) ∧ PySem.W.isFn K (.ref d_L_weight.ad) = true ∧ PySem.W.keepIn K (.ref d_L_weight.ad) = true
  F_L_made : (∃ fd, FnD K d_L_made fd) ∧ PySem.W.isFn K (.ref d_L_made.ad) = true ∧ PySem.W.keepIn K (.ref d_L_made.ad) = true
  F_L_row : (∃ fd, FnD K d_L_row fd) ∧ PySem.W.isFn K (.ref d_L_row.ad) = true ∧ PySem.W.keepIn K (.ref d_L_row.ad) = true
  F_L_above : (∃ fd, FnD K d_L_above fd) ∧ PySem.W.isFn K (.ref d_L_above.ad) = true ∧ PySem.W.keepIn K (.ref d_L_above.ad) = true
  F_L_any : (∃ fd, FnD K d_L_any fd) ∧ PySem.W.isFn K (.ref d_L_any.ad) = true ∧ PySem.W.keepIn K (.ref d_L_any.ad) = true
  F_L_handed : (∃ fd, FnD K d_L_handed fd) ∧ PySem.W.isFn K (.ref d_L_handed.ad) = true ∧ PySem.W.keepIn K (.ref d_L_handed.ad) = true
  F_L_left : (∃ fd, FnD K d_L_left fd) ∧ PySem.W.isFn K (.ref d_L_left.ad) = true ∧ PySem.W.keepIn K (.ref d_L_left.ad) = true
  F_L_steps : (∃ fd, FnD K d_L_steps fd) ∧ PySem.W.isFn K (.ref d_L_steps.ad) = true ∧ PySem.W.keepIn K (.ref d_L_steps.ad) = true
  F_L_determinant : (∃ fd, FnD K d_L_determinant fd) ∧ PySem.W.isFn K (.ref d_L_determinant.ad) = true ∧ PySem.W.keepIn K (.ref d_L_determinant.ad) = true
  F_L_choices : (∃ fd, FnD K d_L_choices fd) ∧ PySem.W.isFn K (.ref d_L_choices.ad) = true ∧ PySem.W.keepIn K (.ref d_L_choices.ad) = true
  F_L_part : (∃ fd, FnD K d_L_part fd) ∧ PySem.W.isFn K (.ref d_L_part.ad) = true ∧ PySem.W.keepIn K (.ref d_L_part.ad) = true
  F_L_grown : (∃ fd, FnD K d_L_grown fd) ∧ PySem.W.isFn K (.ref d_L_grown.ad) = true ∧ PySem.W.keepIn K (.ref d_L_grown.ad) = true
  F_L_right : (∃ fd, FnD K d_L_right fd) ∧ PySem.W.isFn K (.ref d_L_right.ad) = true ∧ PySem.W.keepIn K (.ref d_L_right.ad) = true
  F_law : (∃ fd, FnD K d_law fd) ∧ PySem.W.isFn K (.ref d_law.ad) = true ∧ PySem.W.keepIn K (.ref d_law.ad) = true
theorem Says.tx {K : PySem.W.Frag} (c : Says K) : Tx K := by
  have h := c.bs
  unfold bsAll at h
  obtain ⟨h0, h⟩ := bb h
  obtain ⟨h1, h⟩ := bb h
  obtain ⟨h2, h⟩ := bb h
  obtain ⟨h3, h⟩ := bb h
  obtain ⟨h4, h⟩ := bb h
  obtain ⟨h5, h⟩ := bb h
  obtain ⟨h6, h⟩ := bb h
  obtain ⟨h7, h⟩ := bb h
  obtain ⟨h8, h⟩ := bb h
  exact ⟨all_at h0 0 rfl, all_at h0 1 rfl, all_at h0 2 rfl, all_at h0 3 rfl, all_at h0 4 rfl, all_at h0 5 rfl, all_at h0 6 rfl, all_at h0 7 rfl, all_at h0 8 rfl, all_at h0 9 rfl, all_at h0 10 rfl, all_at h0 11 rfl, all_at h0 12 rfl, all_at h0 13 rfl, all_at h0 14 rfl, all_at h0 15 rfl, all_at h0 16 rfl, all_at h0 17 rfl, all_at h0 18 rfl, all_at h0 19 rfl, all_at h1 0 rfl, all_at h1 1 rfl, all_at h1 2 rfl, all_at h1 3 rfl, all_at h1 4 rfl, all_at h1 5 rfl, all_at h1 6 rfl, all_at h1 7 rfl, all_at h1 8 rfl, all_at h1 9 rfl, all_at h1 10 rfl, all_at h1 11 rfl, all_at h1 12 rfl, all_at h1 13 rfl, all_at h1 14 rfl, all_at h1 15 rfl, all_at h1 16 rfl, all_at h1 17 rfl, all_at h1 18 rfl, all_at h1 19 rfl, all_at h2 0 rfl, all_at h2 1 rfl, all_at h2 2 rfl, all_at h2 3 rfl, all_at h2 4 rfl, all_at h2 5 rfl, all_at h2 6 rfl, all_at h2 7 rfl, all_at h2 8 rfl, all_at h2 9 rfl, all_at h2 10 rfl, all_at h2 11 rfl, all_at h2 12 rfl, all_at h2 13 rfl, all_at h2 14 rfl, all_at h2 15 rfl, all_at h2 16 rfl, all_at h2 17 rfl, all_at h2 18 rfl, all_at h2 19 rfl, all_at h3 0 rfl, all_at h3 1 rfl, all_at h3 2 rfl, all_at h3 3 rfl, all_at h3 4 rfl, all_at h3 5 rfl, all_at h3 6 rfl, all_at h3 7 rfl, all_at h3 8 rfl, all_at h3 9 rfl, all_at h3 10 rfl, all_at h3 11 rfl, all_at h3 12 rfl, all_at h3 13 rfl, all_at h3 14 rfl, all_at h3 15 rfl, all_at h3 16 rfl, all_at h3 17 rfl, all_at h3 18 rfl, all_at h3 19 rfl, all_at h4 0 rfl, all_at h4 1 rfl, all_at h4 2 rfl, all_at h4 3 rfl, all_at h4 4 rfl, all_at h4 5 rfl, all_at h4 6 rfl, all_at h4 7 rfl, all_at h4 8 rfl, all_at h4 9 rfl, all_at h4 10 rfl, all_at h4 11 rfl, all_at h4 12 rfl, all_at h4 13 rfl, all_at h4 14 rfl, all_at h4 15 rfl, all_at h4 16 rfl, all_at h4 17 rfl, all_at h4 18 rfl, all_at h4 19 rfl, all_at h5 0 rfl, all_at h5 1 rfl, all_at h5 2 rfl, all_at h5 3 rfl, all_at h5 4 rfl, all_at h5 5 rfl, all_at h5 6 rfl, all_at h5 7 rfl, all_at h5 8 rfl, all_at h5 9 rfl, all_at h5 10 rfl, all_at h5 11 rfl, all_at h5 12 rfl, all_at h5 13 rfl, all_at h5 14 rfl, all_at h5 15 rfl, all_at h5 16 rfl, all_at h5 17 rfl, all_at h5 18 rfl, all_at h5 19 rfl, all_at h6 0 rfl, all_at h6 1 rfl, all_at h6 2 rfl, all_at h6 3 rfl, all_at h6 4 rfl, all_at h6 5 rfl, all_at h6 6 rfl, all_at h6 7 rfl, all_at h6 8 rfl, all_at h6 9 rfl, all_at h6 10 rfl, all_at h6 11 rfl, all_at h6 12 rfl, all_at h6 13 rfl, all_at h6 14 rfl, all_at h6 15 rfl, all_at h6 16 rfl, all_at h6 17 rfl, all_at h6 18 rfl, all_at h6 19 rfl, all_at h7 0 rfl, all_at h7 1 rfl, all_at h7 2 rfl, all_at h7 3 rfl, all_at h7 4 rfl, all_at h7 5 rfl, all_at h7 6 rfl, all_at h7 7 rfl, all_at h7 8 rfl, all_at h7 9 rfl, all_at h7 10 rfl, all_at h7 11 rfl, all_at h7 12 rfl, all_at h7 13 rfl, all_at h7 14 rfl, all_at h7 15 rfl, all_at h7 16 rfl, all_at h7 17 rfl, all_at h7 18 rfl, all_at h7 19 rfl, all_at h8 0 rfl, all_at h8 1 rfl, all_at h8 2 rfl, all_at h8 3 rfl, all_at h8 4 rfl, all_at h8 5 rfl, all_at h8 6 rfl, all_at h8 7 rfl, all_at h8 8 rfl, all_at h8 9 rfl, all_at h8 10 rfl, all_at h8 11 rfl, all_at h8 12 rfl, all_at h8 13 rfl, all_at h8 14 rfl, all_at h8 15 rfl, all_at h8 16 rfl, all_at h8 17 rfl, all_at h8 18 rfl, all_at h8 19 rfl, all_at h 0 rfl, all_at h 1 rfl, all_at h 2 rfl, all_at h 3 rfl, all_at h 4 rfl, all_at h 5 rfl, all_at h 6 rfl, all_at h 7 rfl, all_at h 8 rfl, all_at h 9 rfl, all_at h 10 rfl, all_at h 11 rfl, all_at h 12 rfl, all_at h 13 rfl,
    c.fn 0 rfl, c.fn 1 rfl, c.fn 2 rfl, c.fn 3 rfl, c.fn 4 rfl, c.fn 5 rfl, c.fn 6 rfl, c.fn 7 rfl, c.fn 8 rfl, c.fn 9 rfl, c.fn 10 rfl, c.fn 11 rfl, c.fn 12 rfl, c.fn 13 rfl, c.fn 14 rfl, c.fn 15 rfl, c.fn 16 rfl, c.fn 17 rfl, c.fn 18 rfl, c.fn 19 rfl, c.fn 20 rfl, c.fn 21 rfl, c.fn 22 rfl, c.fn 23 rfl, c.fn 24 rfl, c.fn 25 rfl, c.fn 26 rfl, c.fn 27 rfl, c.fn 28 rfl, c.fn 29 rfl, c.fn 30 rfl, c.fn 31 rfl, c.fn 32 rfl, c.fn 33 rfl, c.fn 34 rfl, c.fn 35 rfl, c.fn 36 rfl, c.fn 37 rfl, c.fn 38 rfl, c.fn 39 rfl, c.fn 40 rfl, c.fn 41 rfl, c.fn 42 rfl, c.fn 43 rfl, c.fn 44 rfl, c.fn 45 rfl, c.fn 46 rfl, c.fn 47 rfl, c.fn 48 rfl, c.fn 49 rfl, c.fn 50 rfl, c.fn 51 rfl, c.fn 52 rfl, c.fn 53 rfl, c.fn 54 rfl, c.fn 55 rfl, c.fn 56 rfl, c.fn 57 rfl, c.fn 58 rfl, c.fn 59 rfl, c.fn 60 rfl, c.fn 61 rfl, c.fn 62 rfl, c.fn 63 rfl, c.fn 64 rfl, c.fn 65 rfl, c.fn 66 rfl, c.fn 67 rfl, c.fn 68 rfl, c.fn 69 rfl, c.fn 70 rfl, c.fn 71 rfl, c.fn 72 rfl, c.fn 73 rfl, c.fn 74 rfl, c.fn 75 rfl, c.fn 76 rfl, c.fn 77 rfl, c.fn 78 rfl, c.fn 79 rfl, c.fn 80 rfl, c.fn 81 rfl, c.fn 82 rfl, c.fn 83 rfl, c.fn 84 rfl, c.fn 85 rfl⟩
def loo0 : List Str := ["_wall", "BoxError", "InvalidNumber", "InvalidRatio", "InvalidTable", "DividedByZero", "InvalidPositions", "is_integer", "is_count", "is_list", "PART", "digits_of", "common_part", "Ratio", "told_pair", "Parts", "Twin", "handed_parts", "by_parts", "told_parts", "nought", "one", "is_value", "twin_of", "product_sum", "MOST_ROWS", "are_values", "is_mirrored", "told_table", "want_table"]
def loo1 : List Str := ["pair_form", "form_of", "picked_of", "are_positions", "picked", "Walk", "less_times", "squares_of", "is_never_below_of", "is_never_below", "bent", "bar_of", "bar", "is_bar", "least_part_of", "least_part", "take_two", "walked", "determinant", "_law_pot", "_law_draw", "_law_gcd", "_law_low", "_law_plus", "_law_by", "_law_less", "_law_mirror", "_law_over", "_law_sum", "_law_twin"]
def loo2 : List Str := ["_law_passed", "_law_number", "_law_whole", "_law_weight", "_law_made", "_law_row", "_law_above", "_law_any", "_law_handed", "_law_left", "_law_steps", "_law_determinant", "_law_choices", "_law_part", "_law_grown", "_law_right"]
def loo : List Str := loo0 ++ (loo1 ++ (loo2))
abbrev R : PySem.W.OpenRow := PySem.W.OpenLaw.row PySem.Challenge.rw_neverlouder_k28_whole_parts_and_picked_t
abbrev qv : Program := PySem.W.view R.prog [0, 86]
theorem run1 (w : World) : (HandSHeadRun.wholeF (fun p => HandSHeadRun.stepQ (HandSHeadRun.denQ HandSHeadRun.tabQ) p w) HandSHeadRun.fenceQ 7000 R.prog).map (fun x => (HandSHeadRun.looksF R.prog x.1.heap x.2.abs,
    HandSHeadRun.seenQ qv loo (importedModules R.prog.main.body) (fun s => PySem.W.xlAt qv [] s && PySem.W.recOk R.toRowW.records s) x.2.abs)) = some (true, PySem.W.openGood qv loo) := by
  kernel_rfl
theorem run2 (w : World) : (HandSHeadRun.wholeF (fun p => HandSHeadRun.stepQ (HandSHeadRun.denQ HandSHeadRun.tabQ) p w) HandSHeadRun.fenceQ 7000 R.prog).map (fun x => ob x.2) = some (hk.val w) := by
  kernel_rfl
theorem both {α β γ δ : Type} {o : Option α} {f : α → β} {g : α → γ} {h : α → δ} {b : β} {c : γ} {d : δ} (e : o.map (fun x => (f x, g x)) = some (b, c)) (e2 : o.map h = some d) : o.map (fun x => (f x, g x, h x)) = some (b, c, d) := by
  cases o with
  | none => cases e
  | some x =>
    have a1 := Prod.mk.inj (Option.some.inj e)
    have a2 : h x = d := Option.some.inj e2
    show some (f x, g x, h x) = _
    rw [a1.1, a1.2, a2]
theorem runAll (w : World) : HandSHeadRun.RunEqI R qv hk ob 7000 loo w := both (run1 w) (run2 w)
end N640

set_option Elab.async false
set_option linter.all false
set_option maxRecDepth 100000
set_option maxHeartbeats 4000000
/-! Readings with a ghost heap: G holds what is known and never changes, H is the heap as it is; mu tells the objects that may change. -/
namespace N640
open PySem PySem.Spec PyProof.Rows L2
abbrev Prd := V → Hp → Prop
def Ex (H H' : Hp) : Prop := ∀ a o, H a = some o → H' a = some o
theorem Ex.rfl' {H : Hp} : Ex H H := fun _ _ h => h
theorem Ex.trans {H H1 H2 : Hp} (a : Ex H H1) (b : Ex H1 H2) : Ex H H2 := fun x o h => b x o (a x o h)
theorem Ex.new {H : Hp} {p : Addr} {o : HO} (h : H p = none) : Ex H (upd H p o) := fun a u e => by
  rw [upd_ne (ne_of_none e h)]; exact e
theorem Ex.none_of {H H' : Hp} {p : Addr} (e : Ex H H') (h : H' p = none) : H p = none := by
  cases q : H p with
  | none => rfl
  | some o => have := e p o q; rw [h] at this; cases this
class Mono (P : Prd) : Prop where
  mono : ∀ {v : V} {H H' : Hp}, Ex H H' → P v H → P v H'
/-- what may change -/
structure Mu where
  mt : Addr → Prop
  inv : Hp → Prop
  loc : ∀ H H' : Hp, (∀ b, mt b → H' b = H b) → inv H → inv H'
  here : ∀ (H : Hp) (b : Addr), inv H → mt b → H b ≠ none
structure At (mu : Mu) (G H : Hp) : Prop where
  ex : Ex G H
  nm : ∀ b, mu.mt b → G b = none
  iv : mu.inv H
structure Rel (m : Addr → Prop) (G H G' H' : Hp) : Prop where
  hh : ∀ b o, ¬ m b → H b = some o → H' b = some o
  lv : ∀ b, H b ≠ none → H' b ≠ none
  gg : Ex G G'
  gh : Ex G' H'
  fr : ∀ b, H b ≠ none → G' b = G b
structure Stp (mu : Mu) (G H G' H' : Hp) : Prop extends Rel mu.mt G H G' H' where
  iv : mu.inv H'
theorem Rel.refl {m : Addr → Prop} {G H : Hp} (e : Ex G H) : Rel m G H G H := ⟨fun _ _ _ h => h, fun _ h => h, Ex.rfl', e, fun _ _ => rfl⟩
theorem Rel.trans {m : Addr → Prop} {G H G1 H1 G2 H2 : Hp} (a : Rel m G H G1 H1) (b : Rel m G1 H1 G2 H2) : Rel m G H G2 H2 :=
  ⟨fun x o n h => b.hh x o n (a.hh x o n h), fun x h => b.lv x (a.lv x h), a.gg.trans b.gg, b.gh, fun x h => (b.fr x (a.lv x h)).trans (a.fr x h)⟩
theorem Rel.weaken {m m' : Addr → Prop} {G H G' H' : Hp} (a : Rel m G H G' H') (s : ∀ b, m b → m' b) : Rel m' G H G' H' :=
  ⟨fun b o n h => a.hh b o (fun z => n (s b z)) h, a.lv, a.gg, a.gh, a.fr⟩
theorem Rel.drop {m m' : Addr → Prop} {G H G' H' : Hp} (a : Rel m G H G' H') (s : ∀ b, m b → m' b ∨ H b = none) : Rel m' G H G' H' :=
  ⟨fun b o n h => a.hh b o (fun z => (s b z).elim n fun q => by rw [q] at h; cases h) h, a.lv, a.gg, a.gh, a.fr⟩
theorem Stp.refl {mu : Mu} {G H : Hp} (a : At mu G H) : Stp mu G H G H := ⟨Rel.refl a.ex, a.iv⟩
theorem Stp.trans {mu : Mu} {G H G1 H1 G2 H2 : Hp} (a : Stp mu G H G1 H1) (b : Stp mu G1 H1 G2 H2) : Stp mu G H G2 H2 := ⟨a.toRel.trans b.toRel, b.iv⟩
theorem At.stp {mu : Mu} {G H G' H' : Hp} (a : At mu G H) (s : Stp mu G H G' H') : At mu G' H' :=
  ⟨s.gh, fun b hb => (s.fr b (mu.here H b a.iv hb)).trans (a.nm b hb), s.iv⟩
theorem At.nmt {mu : Mu} {G H : Hp} (a : At mu G H) {p : Addr} {o : HO} (h : G p = some o) : ¬ mu.mt p := fun z => by
  rw [a.nm p z] at h; cases h
theorem At.fresh {mu : Mu} {G H : Hp} (a : At mu G H) {p : Addr} (h : H p = none) : ¬ mu.mt p := fun z => mu.here H p a.iv z h
theorem At.gnone {mu : Mu} {G H : Hp} (a : At mu G H) {p : Addr} (h : H p = none) : G p = none := a.ex.none_of h
/-- a new object, known from then on -/
theorem At.new {mu : Mu} {G H : Hp} (a : At mu G H) {p : Addr} (o : HO) (h : H p = none) : Stp mu G H (upd G p o) (upd H p o) := by
  refine ⟨⟨fun b u _ e => ?_, fun b e => ?_, Ex.new (a.gnone h), fun b u e => ?_, fun b e => ?_⟩, ?_⟩
  · exact Ex.new h b u e
  · unfold upd; split <;> simp_all
  · unfold upd at e ⊢; split <;> simp_all; exact a.ex _ _ e
  · have : b ≠ p := fun q => e (by rw [q]; exact h)
    rw [upd_ne this]
  · exact mu.loc H _ (fun b hb => upd_ne fun q => a.fresh h (q ▸ hb)) a.iv
/-- a new object, not (yet) known -/
theorem At.hid {mu : Mu} {G H : Hp} (a : At mu G H) {p : Addr} (o : HO) (h : H p = none) : Stp mu G H G (upd H p o) := by
  refine ⟨⟨fun b u _ e => Ex.new h b u e, fun b e => ?_, Ex.rfl', fun b u e => Ex.new h b u (a.ex b u e), fun _ _ => rfl⟩, ?_⟩
  · unfold upd; split <;> simp_all
  · exact mu.loc H _ (fun b hb => upd_ne fun q => a.fresh h (q ▸ hb)) a.iv
/-- an object that is not known changes -/
theorem At.put {mu : Mu} {G H : Hp} (a : At mu G H) {p : Addr} (o : HO) (g : G p = none) (nm : ¬ mu.mt p) : At mu G (upd H p o) :=
  ⟨fun b u e => by rw [upd_ne (ne_of_none e g)]; exact a.ex b u e, a.nm, mu.loc H _ (fun b hb => upd_ne fun q => nm (q ▸ hb)) a.iv⟩
theorem Stp.put {mu : Mu} {G0 H0 G H : Hp} (s : Stp mu G0 H0 G H) {p : Addr} (o : HO) (h : H0 p = none) (g : G p = none) (nm : ¬ mu.mt p) : Stp mu G0 H0 G (upd H p o) := by
  refine ⟨⟨fun b u n e => ?_, fun b e => ?_, s.gg, fun b u e => ?_, s.fr⟩, ?_⟩
  · rw [upd_ne (ne_of_none e h)]; exact s.hh b u n e
  · have : b ≠ p := fun q => e (by rw [q]; exact h)
    rw [upd_ne this]; exact s.lv b e
  · rw [upd_ne (ne_of_none e g)]; exact s.gh b u e
  · exact mu.loc H _ (fun b hb => upd_ne fun q => nm (q ▸ hb)) s.iv
/-- an object that was hidden is known from now on -/
theorem Stp.show_ {mu : Mu} {G0 H0 G H : Hp} (s : Stp mu G0 H0 G H) (a0 : Ex G0 H0) {p : Addr} {o : HO} (h0 : H0 p = none) (h : H p = some o) : Stp mu G0 H0 (upd G p o) H := by
  refine ⟨⟨s.hh, s.lv, fun b u e => ?_, fun b u e => ?_, fun b e => ?_⟩, s.iv⟩
  · rw [upd_ne (ne_of_none e (a0.none_of h0))]; exact s.gg b u e
  · unfold upd at e; split at e
    · rename_i q; subst q; cases e; exact h
    · exact s.gh b u e
  · have : b ≠ p := fun q => e (by rw [q]; exact h0)
    rw [upd_ne this]; exact s.fr b e
theorem At.show_ {mu : Mu} {G H : Hp} (a : At mu G H) {p : Addr} {o : HO} (h : H p = some o) (nm : ¬ mu.mt p) : At mu (upd G p o) H := by
  refine ⟨fun b u e => ?_, fun b hb => ?_, a.iv⟩
  · unfold upd at e; split at e
    · rename_i q; subst q; cases e; exact h
    · exact a.ex b u e
  · have hne : b ≠ p := fun q => nm (q ▸ hb)
    rw [upd_ne hne]; exact a.nm b hb
/-! ### readings -/
def EvP (mu : Mu) (te : TE) (σ : L2.St) (G : Hp) (P : Prd) : Prop :=
  ∀ G1 H : Hp, Ex G G1 → At mu G1 H → ∀ Q : VK, (∀ (v : V) (G' H' : Hp), Stp mu G1 H G' H' → P v G' → Q v H') → te σ H Q
def EvT (mu : Mu) (tt : TT) (σ : L2.St) (G : Hp) (P : Bool → Prop) : Prop :=
  ∀ G1 H : Hp, Ex G G1 → At mu G1 H → ∀ Q : Bool → Hp → Prop, (∀ (b : Bool) (G' H' : Hp), Stp mu G1 H G' H' → P b → Q b H') → tt σ H Q
def EvA (mu : Mu) (ta : TA) (σ : L2.St) (G : Hp) (P : List V → Hp → Prop) : Prop :=
  ∀ G1 H : Hp, Ex G G1 → At mu G1 H → ∀ Q : List V → Hp → Prop, (∀ (vs : List V) (G' H' : Hp), Stp mu G1 H G' H' → P vs G' → Q vs H') → ta σ H Q
def RvP (mu : Mu) (f : VK → Hp → Prop) (G : Hp) (P : Prd) : Prop :=
  ∀ H : Hp, At mu G H → ∀ Q : VK, (∀ (v : V) (G' H' : Hp), Stp mu G H G' H' → P v G' → Q v H') → f Q H
section
variable {mu : Mu} {σ : L2.St} {G G' H : Hp} {ta tb te : TE} {t u : TT} {P P1 P2 : Prd} {K : PySem.W.Frag}
theorem EvP.mono (h : EvP mu te σ G P) (e : Ex G G') : EvP mu te σ G' P := fun G1 H e1 => h G1 H (e.trans e1)
theorem EvT.mono {P : Bool → Prop} (h : EvT mu t σ G P) (e : Ex G G') : EvT mu t σ G' P := fun G1 H e1 => h G1 H (e.trans e1)
theorem EvP.imp (h : EvP mu te σ G P) (i : ∀ v G1, Ex G G1 → P v G1 → P2 v G1) : EvP mu te σ G P2 := fun G1 H e a Q q => h G1 H e a Q fun v G' H' s p => q v G' H' s (i v G' (e.trans s.gg) p)
theorem EvT.imp {P P2 : Bool → Prop} (h : EvT mu t σ G P) (i : ∀ b, P b → P2 b) : EvT mu t σ G P2 := fun G1 H e a Q q => h G1 H e a Q fun v G' H' s p => q v G' H' s (i v p)
theorem RvP.pure {f : VK → Hp → Prop} {v : V} (h : ∀ (Q : VK) (H : Hp), At mu G H → Q v H → f Q H) (p : P v G) : RvP mu f G P := fun H a Q q => h Q H a (q v G H (Stp.refl a) p)
theorem evp_var [m : Mono P] {i : Nat} {v : V} (h : σ[i]? = some (some v)) (p : P v G) : EvP mu (tVar i) σ G P := fun G1 H e a Q q => ⟨v, h, q v G1 H (Stp.refl a) (m.mono e p)⟩
def TIs (x : V) : Prd := fun v _ => v = x
instance {x : V} : Mono (TIs x) := ⟨fun _ h => h⟩
abbrev TZ (i : Int) : Prd := TIs (.int i)
abbrev TB (b : Bool) : Prd := TIs (.bl b)
abbrev TN : Prd := TIs .non
def TIn (P : Int → Prop) : Prd := fun v _ => ∃ i, v = .int i ∧ P i
instance {P : Int → Prop} : Mono (TIn P) := ⟨fun _ h => h⟩
def TBn (P : Bool → Prop) : Prd := fun v _ => ∃ b, v = .bl b ∧ P b
instance {P : Bool → Prop} : Mono (TBn P) := ⟨fun _ h => h⟩
theorem evp_c {v : V} : EvP mu (tC v) σ G (TIs v) := fun G1 H _ a Q q => q v G1 H (Stp.refl a) rfl
theorem evp_cP {v : V} (p : ∀ G1, Ex G G1 → P v G1) : EvP mu (tC v) σ G P := fun G1 H e a Q q => q v G1 H (Stp.refl a) (p G1 e)
theorem evp_is {v : V} (h : σ[i]? = some (some v)) : EvP mu (tVar i) σ G (TIs v) := evp_var h rfl
theorem evp_op [m : Mono P1] {r : R2} (ha : EvP mu ta σ G P1) (hb : EvP mu tb σ G P2) (hr : ∀ x y G1, Ex G G1 → P1 x G1 → P2 y G1 → RvP mu (fun Q H => r x y H Q) G1 P) : EvP mu (tOp r ta tb) σ G P :=
  fun G1 H e a Q q => ha G1 H e a _ fun x G2 H2 s2 p1 => hb G2 H2 (e.trans s2.gg) (a.stp s2) _ fun y G3 H3 s3 p2 =>
    hr x y G3 ((e.trans s2.gg).trans s3.gg) (m.mono s3.gg p1) p2 H3 ((a.stp s2).stp s3) Q fun v G4 H4 s4 p => q v G4 H4 ((s2.trans s3).trans s4) p
theorem evp_un {r : V → Hp → VK → Prop} (ha : EvP mu ta σ G P1) (hr : ∀ x G1, Ex G G1 → P1 x G1 → RvP mu (fun Q H => r x H Q) G1 P) : EvP mu (tUn r ta) σ G P :=
  fun G1 H e a Q q => ha G1 H e a _ fun x G2 H2 s2 p1 => hr x G2 (e.trans s2.gg) p1 H2 (a.stp s2) Q fun v G4 H4 s4 p => q v G4 H4 (s2.trans s4) p
/-- two ints, told exactly -/
theorem evp_I0 {g : Int → Int → V} {i j : Int} (ha : EvP mu ta σ G (TZ i)) (hb : EvP mu tb σ G (TZ j)) : EvP mu (tOp (rI0 g) ta tb) σ G (TIs (g i j)) :=
  evp_op ha hb fun x y G1 _ p1 p2 => RvP.pure (v := g i j) (fun Q H _ q => ⟨i, j, p1, p2, q⟩) rfl
theorem evp_I {C : Int → Int → Prop} {g : Int → Int → V} {i j : Int} (ha : EvP mu ta σ G (TZ i)) (hb : EvP mu tb σ G (TZ j)) (c : C i j) : EvP mu (tOp (rI C g) ta tb) σ G (TIs (g i j)) :=
  evp_op ha hb fun x y G1 _ p1 p2 => RvP.pure (v := g i j) (fun Q H _ q => ⟨i, j, p1, p2, c, q⟩) rfl
/-- two ints, told by what holds of them -/
theorem evp_J0 {g : Int → Int → V} {A B : Int → Prop} (ha : EvP mu ta σ G (TIn A)) (hb : EvP mu tb σ G (TIn B)) : EvP mu (tOp (rI0 g) ta tb) σ G (fun v _ => ∃ i j, v = g i j ∧ A i ∧ B j) :=
  evp_op ha hb fun x y G1 _ ⟨i, e1, a1⟩ ⟨j, e2, b1⟩ => RvP.pure (v := g i j) (fun Q H _ q => ⟨i, j, e1, e2, q⟩) ⟨i, j, rfl, a1, b1⟩
theorem evp_eq {x y : V} (ha : EvP mu ta σ G (TIs x)) (hb : EvP mu tb σ G (TIs y)) (s : scal x y = true) : EvP mu (tOp rEq ta tb) σ G (TB (decide (x = y))) :=
  evp_op ha hb fun x' y' G1 _ p1 p2 => by
    cases p1; cases p2
    exact RvP.pure (v := .bl (decide (x = y))) (fun Q H _ q => ⟨s, q⟩) rfl
theorem evp_ne {x y : V} (ha : EvP mu ta σ G (TIs x)) (hb : EvP mu tb σ G (TIs y)) (s : scal x y = true) : EvP mu (tOp rNe ta tb) σ G (TB (!decide (x = y))) :=
  evp_op ha hb fun x' y' G1 _ p1 p2 => by
    cases p1; cases p2
    exact RvP.pure (v := .bl (!decide (x = y))) (fun Q H _ q => ⟨s, q⟩) rfl
theorem evp_isN (ha : EvP mu ta σ G P) (f : V → Bool) (hf : ∀ v G1, Ex G G1 → P v G1 → decide (v = .non) = f v) : EvP mu (tIsN ta) σ G (fun b G1 => ∃ v, P v G1 ∧ b = .bl (f v)) :=
  fun G1 H e a Q q => ha G1 H e a _ fun v G2 H2 s2 p => by
    show Q (.bl (decide (v = .non))) H2
    rw [hf v G2 (e.trans s2.gg) p]
    exact q _ G2 H2 s2 ⟨v, p, rfl⟩
theorem evp_isNb {b : Bool} (ha : EvP mu ta σ G P) (hf : ∀ v G1, Ex G G1 → P v G1 → decide (v = .non) = b) : EvP mu (tIsN ta) σ G (TB b) :=
  fun G1 H e a Q q => ha G1 H e a _ fun v G2 H2 s2 p => by
    show Q (.bl (decide (v = .non))) H2
    rw [hf v G2 (e.trans s2.gg) p]
    exact q _ G2 H2 s2 rfl
theorem evp_notNb {b : Bool} (ha : EvP mu ta σ G P) (hf : ∀ v G1, Ex G G1 → P v G1 → (!decide (v = .non)) = b) : EvP mu (tNotN ta) σ G (TB b) :=
  fun G1 H e a Q q => ha G1 H e a _ fun v G2 H2 s2 p => by
    show Q (.bl (!decide (v = .non))) H2
    rw [hf v G2 (e.trans s2.gg) p]
    exact q _ G2 H2 s2 rfl
/-! tests -/
theorem evt_test {b : Bool} (h : EvP mu te σ G (TB b)) : EvT mu (tTest te) σ G (· = b) := fun G1 H e a Q q => h G1 H e a _ fun v G2 H2 s p => ⟨b, p, q b G2 H2 s rfl⟩
theorem evt_B {b : Bool} (h : EvP mu te σ G (TB b)) : EvT mu (tB te) σ G (· = b) := fun G1 H e a Q q => h G1 H e a _ fun v G2 H2 s p => ⟨b, p, q b G2 H2 s rfl⟩
theorem evt_testn {A : Bool → Prop} (h : EvP mu te σ G (TBn A)) : EvT mu (tTest te) σ G A := fun G1 H e a Q q => h G1 H e a _ fun v G2 H2 s ⟨b, e1, p⟩ => ⟨b, e1, q b G2 H2 s p⟩
theorem evt_not {b : Bool} (h : EvT mu t σ G (· = b)) : EvT mu (tNot t) σ G (· = !b) := fun G1 H e a Q q => h G1 H e a _ fun c G2 H2 s p => q _ G2 H2 s (by rw [p])
theorem evt_and {a b : Bool} (h1 : EvT mu t σ G (· = a)) (h2 : a = true → EvT mu u σ G (· = b)) : EvT mu (tAnd t u) σ G (· = (a && b)) := fun G1 H e hA Q q => h1 G1 H e hA _ fun c G2 H2 s p => by
  cases p
  cases a with
  | true => exact h2 rfl G2 H2 (e.trans s.gg) (hA.stp s) Q fun c G3 H3 s3 p => q c G3 H3 (s.trans s3) p
  | false => exact q false G2 H2 s rfl
theorem evt_or {a b : Bool} (h1 : EvT mu t σ G (· = a)) (h2 : a = false → EvT mu u σ G (· = b)) : EvT mu (tOr t u) σ G (· = (a || b)) := fun G1 H e hA Q q => h1 G1 H e hA _ fun c G2 H2 s p => by
  cases p
  cases a with
  | false => exact h2 rfl G2 H2 (e.trans s.gg) (hA.stp s) Q fun c G3 H3 s3 p => q c G3 H3 (s.trans s3) p
  | true => exact q true G2 H2 s rfl
theorem evt_to {a b : Bool} (h : EvT mu t σ G (· = a)) (e : a = b) : EvT mu t σ G (· = b) := e ▸ h
theorem evp_to {x y : V} (h : EvP mu te σ G (TIs x)) (e : x = y) : EvP mu te σ G (TIs y) := e ▸ h
theorem evp_and {a b : Bool} (h1 : EvP mu ta σ G (TB a)) (h2 : a = true → EvP mu tb σ G (TB b)) : EvP mu (tAndV ta tb) σ G (TB (a && b)) := fun G1 H e hA Q q => h1 G1 H e hA _ fun c G2 H2 s p => ⟨a, p, by
  cases a with
  | true => exact h2 rfl G2 H2 (e.trans s.gg) (hA.stp s) Q fun c G3 H3 s3 p => q c G3 H3 (s.trans s3) p
  | false => exact q _ G2 H2 s rfl⟩
theorem evp_or {a b : Bool} (h1 : EvP mu ta σ G (TB a)) (h2 : a = false → EvP mu tb σ G (TB b)) : EvP mu (tOrV ta tb) σ G (TB (a || b)) := fun G1 H e hA Q q => h1 G1 H e hA _ fun c G2 H2 s p => ⟨a, p, by
  cases a with
  | false => exact h2 rfl G2 H2 (e.trans s.gg) (hA.stp s) Q fun c G3 H3 s3 p => q c G3 H3 (s.trans s3) p
  | true => exact q _ G2 H2 s rfl⟩
theorem evp_not {a : Bool} (h1 : EvP mu ta σ G (TB a)) : EvP mu (tNotV ta) σ G (TB (!a)) := fun G1 H e hA Q q => h1 G1 H e hA _ fun c G2 H2 s p => ⟨a, p, q _ G2 H2 s rfl⟩
theorem evp_if {A : Bool → Prop} (h : EvT mu t σ G A) (h1 : A true → EvP mu ta σ G P) (h2 : A false → EvP mu tb σ G P) : EvP mu (tIf t ta tb) σ G P := fun G1 H e hA Q q => h G1 H e hA _ fun c G2 H2 s p => by
  cases c with
  | true => exact h1 p G2 H2 (e.trans s.gg) (hA.stp s) Q fun c G3 H3 s3 p => q c G3 H3 (s.trans s3) p
  | false => exact h2 p G2 H2 (e.trans s.gg) (hA.stp s) Q fun c G3 H3 s3 p => q c G3 H3 (s.trans s3) p
/-! arguments -/
theorem eva_nil : EvA mu tNil σ G (fun vs _ => vs = []) := fun G1 H _ a Q q => q [] G1 H (Stp.refl a) rfl
theorem eva_cons [m : Mono P] {tr : TA} {PA : List V → Hp → Prop} (h : EvP mu ta σ G P) (hr : EvA mu tr σ G PA) : EvA mu (tCons ta tr) σ G (fun vs G1 => ∃ v r, vs = v :: r ∧ P v G1 ∧ PA r G1) :=
  fun G1 H e a Q q => h G1 H e a _ fun v G2 H2 s2 p => hr G2 H2 (e.trans s2.gg) (a.stp s2) _ fun r G3 H3 s3 pr => q (v :: r) G3 H3 (s2.trans s3) ⟨v, r, rfl, m.mono s3.gg p, pr⟩
theorem EvA.imp {tr : TA} {A B : List V → Hp → Prop} (h : EvA mu tr σ G A) (i : ∀ vs G1, Ex G G1 → A vs G1 → B vs G1) : EvA mu tr σ G B := fun G1 H e a Q q => h G1 H e a Q fun v G' H' s p => q v G' H' s (i v G' (e.trans s.gg) p)
theorem eva_1 {P1 : Prd} [Mono P1] (h : EvP mu ta σ G P1) : EvA mu (tCons ta tNil) σ G (fun vs G1 => ∃ v, vs = [v] ∧ P1 v G1) :=
  (eva_cons h eva_nil).imp fun vs G1 _ ⟨v, r, e, p, er⟩ => ⟨v, by rw [e, er], p⟩
theorem eva_2 [Mono P1] [Mono P2] (h : EvP mu ta σ G P1) (h2 : EvP mu tb σ G P2) : EvA mu (tCons ta (tCons tb tNil)) σ G (fun vs G1 => ∃ v w, vs = [v, w] ∧ P1 v G1 ∧ P2 w G1) :=
  (eva_cons h (eva_1 h2)).imp fun vs G1 _ ⟨v, r, e, p, w, er, p2⟩ => ⟨v, w, by rw [e, er], p, p2⟩
theorem eva_3 {P3 : Prd} [Mono P1] [Mono P2] [Mono P3] (h : EvP mu ta σ G P1) (h2 : EvP mu tb σ G P2) (h3 : EvP mu te σ G P3) : EvA mu (tCons ta (tCons tb (tCons te tNil))) σ G (fun vs G1 => ∃ v w z, vs = [v, w, z] ∧ P1 v G1 ∧ P2 w G1 ∧ P3 z G1) :=
  (eva_cons h (eva_2 h2 h3)).imp fun vs G1 _ ⟨v, r, e, p, w, z, er, p2, p3⟩ => ⟨v, w, z, by rw [e, er], p, p2, p3⟩
/-! calls -/
abbrev Rq := Mu → List V → Hp → Prd → Prop
/-- a promise: R tells what is asked of the arguments and what holds of the answer -/
def spP (R : Rq) : Sp := fun vs H Q _ => ∃ (mu : Mu) (G : Hp) (P : Prd), At mu G H ∧ R mu vs G P ∧ ∀ (v : V) (G' H' : Hp), Stp mu G H G' H' → P v G' → Q v H'
theorem evp_call {R : Rq} {dvs : List V} {E : XK} {tr : TA} {PA : List V → Hp → Prop} (h : EvA mu tr σ G PA) (hR : ∀ vs G1, Ex G G1 → PA vs G1 → R mu (vs ++ dvs) G1 P) : EvP mu (tCall (spP R) dvs E tr) σ G P :=
  fun G1 H e a Q q => h G1 H e a _ fun vs G2 H2 s2 p => ⟨mu, G2, P, a.stp s2, hR vs G2 (e.trans s2.gg) p, fun v G3 H3 s3 pv => q v G3 H3 (s2.trans s3) pv⟩
theorem evp_tcb {r : List V → Hp → VK → Prop} {tr : TA} {PA : List V → Hp → Prop} (h : EvA mu tr σ G PA) (hr : ∀ vs G1, Ex G G1 → PA vs G1 → RvP mu (fun Q H => r vs H Q) G1 P) : EvP mu (tCB r tr) σ G P :=
  fun G1 H e a Q q => h G1 H e a _ fun vs G2 H2 s2 p => hr vs G2 (e.trans s2.gg) p H2 (a.stp s2) Q fun v G3 H3 s3 pv => q v G3 H3 (s2.trans s3) pv
/-- the receiver is an instance of the class at C -/
def Inst (mu : Mu) (C : Addr) (m : Str) (v : V) (G : Hp) : Prop := ∀ H, At mu G H → ∃ a dx fs, v = .ref a ∧ H a = some (.ins C dx fs) ∧ fs.lookup m = none
theorem evp_meth {R : Rq} {C : Addr} {m : Str} {dvs : List V} {E : XK} {tr : TA} {PA : List V → Hp → Prop} [mo : Mono P1] (h0 : EvP mu ta σ G P1) (hi : ∀ v G1, Ex G G1 → P1 v G1 → Inst mu C m v G1) (h : EvA mu tr σ G PA)
    (hR : ∀ v vs G1, Ex G G1 → P1 v G1 → PA vs G1 → R mu (v :: (vs ++ dvs)) G1 P) : EvP mu (tMeth C m (spP R) dvs E ta tr) σ G P := by
  intro G1 H e a Q q
  refine h0 G1 H e a _ fun x G2 H2 s2 p => ?_
  obtain ⟨b, dx, fs, e1, e2, e3⟩ := hi x G2 (e.trans s2.gg) p H2 (a.stp s2)
  refine ⟨b, dx, fs, e1, e2, e3, ?_⟩
  refine h G2 H2 (e.trans s2.gg) (a.stp s2) _ fun vs G3 H3 s3 pv => ?_
  exact ⟨mu, G3, P, (a.stp s2).stp s3, hR x vs G3 ((e.trans s2.gg).trans s3.gg) (mo.mono s3.gg p) pv, fun v G4 H4 s4 p4 => q v G4 H4 ((s2.trans s3).trans s4) p4⟩
theorem evp_prop {R : Rq} {C : Addr} {dvs : List V} {E : XK} (h0 : EvP mu ta σ G P1) (hi : ∀ v G1, Ex G G1 → P1 v G1 → ∀ H, At mu G1 H → ∃ a dx fs, v = .ref a ∧ H a = some (.ins C dx fs))
    (hR : ∀ v G1, Ex G G1 → P1 v G1 → R mu (v :: dvs) G1 P) : EvP mu (tProp C (spP R) dvs E ta) σ G P := by
  intro G1 H e a Q q
  refine h0 G1 H e a _ fun x G2 H2 s2 p => ?_
  obtain ⟨b, dx, fs, e1, e2⟩ := hi x G2 (e.trans s2.gg) p H2 (a.stp s2)
  exact ⟨b, dx, fs, e1, e2, mu, G2, P, a.stp s2, e1 ▸ hR x G2 (e.trans s2.gg) p, fun v G4 H4 s4 p4 => q v G4 H4 (s2.trans s4) p4⟩
theorem evp_fld {f : Str} (h0 : EvP mu ta σ G P1) (hi : ∀ v G1, Ex G G1 → P1 v G1 → ∀ H, At mu G1 H → ∃ a C dx fs x, v = .ref a ∧ H a = some (.ins C dx fs) ∧ Cls K C ∧ NoAttr K C f ∧ fs.lookup f = some x ∧ P x G1) : EvP mu (tFld K ta f) σ G P := by
  intro G1 H e a Q q
  refine h0 G1 H e a _ fun x G2 H2 s2 p => ?_
  obtain ⟨b, C, dx, fs, y, e1, e2, e3, e4, e5, p5⟩ := hi x G2 (e.trans s2.gg) p H2 (a.stp s2)
  exact ⟨b, C, dx, fs, y, e1, e2, e3, e4, e5, q y G2 H2 s2 p5⟩
/-- what __init__ promises: the fields -/
abbrev RqI := Mu → List V → Hp → (List (Str × V) → Hp → Prop) → Prop
def spI (C : Addr) (R : RqI) : Sp := fun vs H Q _ => ∃ (mu : Mu) (G : Hp) (P : List (Str × V) → Hp → Prop) (x dx : Addr) (us : List V), vs = .ref x :: us ∧ At mu G H ∧ G x = none ∧ ¬ mu.mt x ∧ H x = some (.ins C dx []) ∧ R mu us G P ∧
  ∀ (fs : List (Str × V)) (G' H' : Hp), Rel (fun b => mu.mt b ∨ b = x) G H G' H' → mu.inv H' → H' x = some (.ins C dx fs) → P fs G' → Q .non H'
theorem evp_make {R : RqI} {C : Addr} {dvs : List V} {E : XK} {tr : TA} {PA : List V → Hp → Prop} {Pf : List (Str × V) → Hp → Prop} (h : EvA mu tr σ G PA) (hR : ∀ vs G1, Ex G G1 → PA vs G1 → R mu (vs ++ dvs) G1 Pf)
    (hP : ∀ (a dx : Addr) (fs : List (Str × V)) (G1 G2 : Hp), Ex G G1 → Ex G1 G2 → G2 a = some (.ins C dx fs) → Pf fs G1 → P (.ref a) G2) : EvP mu (tMake C (spI C R) dvs E tr) σ G P := by
  intro G1 H e a Q q
  refine h G1 H e a _ fun vs G2 H2 s2 p => ?_
  intro x dx hx hdx ne
  have a2 := a.stp s2
  have s3 := a2.hid (.own x) hdx
  have a3 := a2.stp s3
  have hx3 : (upd H2 dx (.own x)) x = none := by rw [upd_ne ne.symm]; exact hx
  have s4 := a3.hid (.ins C dx []) hx3
  have a4 := a3.stp s4
  refine ⟨mu, G2, Pf, x, dx, vs ++ dvs, rfl, a4, a2.gnone hx, a2.fresh hx, upd_same, hR vs G2 (e.trans s2.gg) p, fun fs G' H' r iv hx' pf => ⟨rfl, ?_⟩⟩
  have s5 : Stp mu G2 H2 G' H' := ⟨(((s3.trans s4).toRel.weaken (fun b z => Or.inl z)).trans r).drop fun b z => z.imp id fun q => by rw [q]; exact hx, iv⟩
  have s6 := s5.show_ a2.ex hx hx'
  have gx : G' x = none := (r.fr x (by rw [upd_same]; intro z; cases z)).trans (a2.gnone hx)
  exact q (.ref x) (upd G' x (.ins C dx fs)) H' (s2.trans s6) (hP x dx fs G' (upd G' x (.ins C dx fs)) ((e.trans s2.gg).trans s5.gg) (Ex.new gx) upd_same pf)
end
end N640

set_option Elab.async false
set_option linter.all false
set_option maxRecDepth 100000
set_option maxHeartbeats 4000000
namespace N640
open PySem PySem.Spec PyProof.Rows L2
section
variable {α : Type} {mu : Mu} {σ : L2.St} {G G' H : Hp} {ta tb te : TE} {t u : TT} {P P1 P2 : Prd} {K : PySem.W.Frag}
/-! ### sequences by index lists -/
def Vof (P : α → Prd) (xs : List α) (vs : List V) (G : Hp) : Prop := vs.length = xs.length ∧ ∀ (i : Nat) (v : V) (x : α), vs[i]? = some v → xs[i]? = some x → P x v G
def Lof (P : α → Prd) (xs : List α) : Prd := fun v G => ∃ a vs, v = .ref a ∧ G a = some (.lst vs) ∧ Vof P xs vs G
def Tof (P : α → Prd) (xs : List α) : Prd := fun v G => ∃ a vs, v = .ref a ∧ G a = some (.tup vs) ∧ Vof P xs vs G
def Sof (P : α → Prd) (xs : List α) : Prd := fun v G => Lof P xs v G ∨ Tof P xs v G
theorem Vof.mono {P : α → Prd} [m : ∀ x, Mono (P x)] {xs : List α} {vs : List V} {G G' : Hp} (e : Ex G G') (h : Vof P xs vs G) : Vof P xs vs G' := ⟨h.1, fun i v x a b => (m x).mono e (h.2 i v x a b)⟩
instance {P : α → Prd} [∀ x, Mono (P x)] {xs : List α} : Mono (Lof P xs) := ⟨fun e ⟨a, vs, h1, h2, h3⟩ => ⟨a, vs, h1, e _ _ h2, h3.mono e⟩⟩
instance {P : α → Prd} [∀ x, Mono (P x)] {xs : List α} : Mono (Tof P xs) := ⟨fun e ⟨a, vs, h1, h2, h3⟩ => ⟨a, vs, h1, e _ _ h2, h3.mono e⟩⟩
instance {P : α → Prd} [∀ x, Mono (P x)] {xs : List α} : Mono (Sof P xs) := ⟨fun e h => h.imp (Mono.mono e) (Mono.mono e)⟩
theorem Vof.imp {P Q : α → Prd} {xs : List α} {vs : List V} (h : Vof P xs vs G) (i : ∀ x, x ∈ xs → ∀ v, P x v G → Q x v G) : Vof Q xs vs G :=
  ⟨h.1, fun j v x a b => i x (List.mem_of_getElem? b) v (h.2 j v x a b)⟩
theorem Lof.imp {P Q : α → Prd} {xs : List α} {v : V} (h : Lof P xs v G) (i : ∀ x, x ∈ xs → ∀ v, P x v G → Q x v G) : Lof Q xs v G :=
  let ⟨a, vs, h1, h2, h3⟩ := h; ⟨a, vs, h1, h2, h3.imp i⟩
theorem Vof.at {P : α → Prd} {xs : List α} {vs : List V} (h : Vof P xs vs G) {i : Nat} {x : α} (e : xs[i]? = some x) : ∃ v, vs[i]? = some v ∧ P x v G := by
  have hi := (List.getElem?_eq_some_iff.mp e).1
  have hj : i < vs.length := by rw [h.1]; exact hi
  exact ⟨vs[i], List.getElem?_eq_getElem hj, h.2 i _ x (List.getElem?_eq_getElem hj) e⟩
theorem Vof.nil {P : α → Prd} : Vof P [] [] G := ⟨rfl, fun i v x a => by simp at a⟩
theorem Vof.snoc {P : α → Prd} {xs : List α} {vs : List V} {x : α} {v : V} (h : Vof P xs vs G) (p : P x v G) : Vof P (xs ++ [x]) (vs ++ [v]) G := by
  refine ⟨by simp [h.1], fun i w y a b => ?_⟩
  by_cases hi : i < xs.length
  · rw [List.getElem?_append_left (by rw [h.1]; exact hi)] at a
    rw [List.getElem?_append_left hi] at b
    exact h.2 i w y a b
  · rw [List.getElem?_append_right (by rw [h.1]; omega)] at a
    rw [List.getElem?_append_right (by omega)] at b
    rw [h.1] at a
    have e0 : i - xs.length = 0 := by
      rcases Nat.eq_zero_or_pos (i - xs.length) with z | z
      · exact z
      · rw [List.getElem?_eq_none (by simp; omega)] at a; cases a
    rw [e0] at a b
    simp at a b
    rw [← a, ← b]; exact p
theorem Vof.set {P : α → Prd} {xs : List α} {vs : List V} {i : Nat} {x : α} {v : V} (h : Vof P xs vs G) (p : P x v G) : Vof P (xs.set i x) (vs.set i v) G := by
  refine ⟨by simp [h.1], fun j w y a b => ?_⟩
  by_cases e : i = j
  · subst e
    by_cases hi : i < vs.length
    · rw [List.getElem?_set_self hi] at a
      rw [List.getElem?_set_self (h.1 ▸ hi)] at b
      cases a; cases b; exact p
    · rw [List.getElem?_eq_none (by simpa using hi)] at a; cases a
  · rw [List.getElem?_set_ne e] at a b
    exact h.2 j w y a b
/-- a pair -/
def TPr (A B : Prd) : Prd := fun v G => ∃ a x y, v = .ref a ∧ G a = some (.tup [x, y]) ∧ A x G ∧ B y G
instance {A B : Prd} [Mono A] [Mono B] : Mono (TPr A B) := ⟨fun e ⟨a, x, y, h1, h2, h3, h4⟩ => ⟨a, x, y, h1, e _ _ h2, Mono.mono e h3, Mono.mono e h4⟩⟩
def TTr (A B C : Prd) : Prd := fun v G => ∃ a x y z, v = .ref a ∧ G a = some (.tup [x, y, z]) ∧ A x G ∧ B y G ∧ C z G
instance {A B C : Prd} [Mono A] [Mono B] [Mono C] : Mono (TTr A B C) := ⟨fun e ⟨a, x, y, z, h1, h2, h3, h4, h5⟩ => ⟨a, x, y, z, h1, e _ _ h2, Mono.mono e h3, Mono.mono e h4, Mono.mono e h5⟩⟩
/-! ### displays -/
theorem evp_tup {tr : TA} {PA : List V → Hp → Prop} {n : Nat} (h : EvA mu tr σ G PA) (hn : ∀ vs G1, PA vs G1 → vs.length ≤ 1000) (mo : ∀ vs G1 G2, Ex G1 G2 → PA vs G1 → PA vs G2) :
    EvP mu (tTup tr) σ G (fun v G1 => ∃ a vs, v = .ref a ∧ G1 a = some (.tup vs) ∧ PA vs G1) := fun G1 H e a Q q =>
  h G1 H e a _ fun vs G2 H2 s2 p => ⟨Nat.le_of_lt (small1000 (hn vs G2 p)), fun x hx => q _ _ _ (s2.trans ((a.stp s2).new (.tup vs) hx)) ⟨x, vs, rfl, upd_same, mo _ _ _ ((a.stp s2).new (.tup vs) hx).gg p⟩⟩
theorem evp_tup2 [Mono P1] [Mono P2] (h : EvP mu ta σ G P1) (h2 : EvP mu tb σ G P2) : EvP mu (tTup (tCons ta (tCons tb tNil))) σ G (TPr P1 P2) := by
  refine (evp_tup (n := 0) (eva_2 h h2) ?_ ?_).imp ?_
  · rintro vs G1 ⟨v, w, rfl, _⟩; simp
  · rintro vs G1 G2 e ⟨v, w, rfl, p, q⟩; exact ⟨v, w, rfl, Mono.mono e p, Mono.mono e q⟩
  · rintro v G1 _ ⟨a, vs, rfl, g, x, y, rfl, p, q⟩; exact ⟨a, x, y, rfl, g, p, q⟩
theorem evp_tup3 {P3 : Prd} [Mono P1] [Mono P2] [Mono P3] (h : EvP mu ta σ G P1) (h2 : EvP mu tb σ G P2) (h3 : EvP mu te σ G P3) : EvP mu (tTup (tCons ta (tCons tb (tCons te tNil)))) σ G (TTr P1 P2 P3) := by
  refine (evp_tup (n := 0) (eva_3 h h2 h3) ?_ ?_).imp ?_
  · rintro vs G1 ⟨v, w, z, rfl, _⟩; simp
  · rintro vs G1 G2 e ⟨v, w, z, rfl, p, q, r⟩; exact ⟨v, w, z, rfl, Mono.mono e p, Mono.mono e q, Mono.mono e r⟩
  · rintro v G1 _ ⟨a, vs, rfl, g, x, y, z, rfl, p, q, r⟩; exact ⟨a, x, y, z, rfl, g, p, q, r⟩
theorem evp_lst {tr : TA} {PA : List V → Hp → Prop} (h : EvA mu tr σ G PA) (hn : ∀ vs G1, PA vs G1 → vs.length ≤ 1000) (mo : ∀ vs G1 G2, Ex G1 G2 → PA vs G1 → PA vs G2) :
    EvP mu (tLst tr) σ G (fun v G1 => ∃ a vs, v = .ref a ∧ G1 a = some (.lst vs) ∧ PA vs G1) := fun G1 H e a Q q =>
  h G1 H e a _ fun vs G2 H2 s2 p => ⟨Nat.le_of_lt (small1000 (hn vs G2 p)), fun x hx => q _ _ _ (s2.trans ((a.stp s2).new (.lst vs) hx)) ⟨x, vs, rfl, upd_same, mo _ _ _ ((a.stp s2).new (.lst vs) hx).gg p⟩⟩
theorem evp_lst1 {x : α} {P : α → Prd} [∀ x, Mono (P x)] (h : EvP mu ta σ G (P x)) : EvP mu (tLst (tCons ta tNil)) σ G (Lof P [x]) := by
  refine (evp_lst (eva_1 h) ?_ ?_).imp ?_
  · rintro vs G1 ⟨v, rfl, _⟩; simp
  · rintro vs G1 G2 e ⟨v, rfl, p⟩; exact ⟨v, rfl, Mono.mono e p⟩
  · rintro v G1 _ ⟨a, vs, rfl, g, y, rfl, p⟩; exact ⟨a, [y], rfl, g, Vof.snoc Vof.nil p⟩
theorem evp_nil {P : α → Prd} : EvP mu (tLst tNil) σ G (Lof P []) := fun G1 H e a Q q => ⟨Nat.zero_le _, fun x hx => q _ _ _ (a.new (.lst []) hx) ⟨x, [], rfl, upd_same, Vof.nil⟩⟩
/-! ### items -/
theorem sql_at {a : Addr} {vs : List V} (hA : At mu G H) (g : G a = some (.lst vs)) : SqL K H a vs := .inl (.inl (hA.ex _ _ g))
theorem sqt_at {a : Addr} {vs : List V} (hA : At mu G H) (g : G a = some (.tup vs)) : SqT K H a vs := .inl (.inl (hA.ex _ _ g))
theorem evp_ixL {P : α → Prd} [m : ∀ x, Mono (P x)] {xs : List α} {i : Nat} {x : α} (h : EvP mu ta σ G (Lof P xs)) (hb : EvP mu tb σ G (TZ (i : Int))) (hx : xs[i]? = some x) : EvP mu (tOp (rIxL K) ta tb) σ G (P x) :=
  evp_op h hb fun v w G1 _ ⟨a, vs, e1, g, f⟩ e2 => by
    obtain ⟨y, hy, p⟩ := f.at hx
    exact RvP.pure (v := y) (fun Q H hA q => ⟨a, vs, i, y, e1, e2, sql_at hA g, atI_nat hy, q⟩) p
theorem evp_ixT {P : α → Prd} [m : ∀ x, Mono (P x)] {xs : List α} {i : Nat} {x : α} (h : EvP mu ta σ G (Tof P xs)) (hb : EvP mu tb σ G (TZ (i : Int))) (hx : xs[i]? = some x) : EvP mu (tOp (rIxT K) ta tb) σ G (P x) :=
  evp_op h hb fun v w G1 _ ⟨a, vs, e1, g, f⟩ e2 => by
    obtain ⟨y, hy, p⟩ := f.at hx
    exact RvP.pure (v := y) (fun Q H hA q => ⟨a, vs, i, y, e1, e2, sqt_at hA g, atI_nat hy, q⟩) p
theorem evp_ix0 {A B : Prd} [Mono A] [Mono B] (h : EvP mu ta σ G (TPr A B)) (hb : EvP mu tb σ G (TZ 0)) : EvP mu (tOp (rIxT K) ta tb) σ G A :=
  evp_op h hb fun v w G1 _ ⟨a, x, y, e1, g, p1, p2⟩ e2 => RvP.pure (v := x) (fun Q H hA q => ⟨a, _, 0, x, e1, e2, sqt_at hA g, rfl, q⟩) p1
theorem evp_ix1 {A B : Prd} [Mono A] [Mono B] (h : EvP mu ta σ G (TPr A B)) (hb : EvP mu tb σ G (TZ 1)) : EvP mu (tOp (rIxT K) ta tb) σ G B :=
  evp_op h hb fun v w G1 _ ⟨a, x, y, e1, g, p1, p2⟩ e2 => RvP.pure (v := y) (fun Q H hA q => ⟨a, _, 1, y, e1, e2, sqt_at hA g, rfl, q⟩) p2
theorem evp_jx0 {A B C : Prd} [Mono A] [Mono B] [Mono C] (h : EvP mu ta σ G (TTr A B C)) (hb : EvP mu tb σ G (TZ 0)) : EvP mu (tOp (rIxT K) ta tb) σ G A :=
  evp_op h hb fun v w G1 _ ⟨a, x, y, z, e1, g, p1, p2, p3⟩ e2 => RvP.pure (v := x) (fun Q H hA q => ⟨a, _, 0, x, e1, e2, sqt_at hA g, rfl, q⟩) p1
theorem evp_jx1 {A B C : Prd} [Mono A] [Mono B] [Mono C] (h : EvP mu ta σ G (TTr A B C)) (hb : EvP mu tb σ G (TZ 1)) : EvP mu (tOp (rIxT K) ta tb) σ G B :=
  evp_op h hb fun v w G1 _ ⟨a, x, y, z, e1, g, p1, p2, p3⟩ e2 => RvP.pure (v := y) (fun Q H hA q => ⟨a, _, 1, y, e1, e2, sqt_at hA g, rfl, q⟩) p2
theorem evp_jx2 {A B C : Prd} [Mono A] [Mono B] [Mono C] (h : EvP mu ta σ G (TTr A B C)) (hb : EvP mu tb σ G (TZ 2)) : EvP mu (tOp (rIxT K) ta tb) σ G C :=
  evp_op h hb fun v w G1 _ ⟨a, x, y, z, e1, g, p1, p2, p3⟩ e2 => RvP.pure (v := z) (fun Q H hA q => ⟨a, _, 2, z, e1, e2, sqt_at hA g, rfl, q⟩) p3
/-- len, list(..), all(..) -/
def rLenN (K : PySem.W.Frag) : List V → Hp → VK → Prop := fun xs H Q => ∃ p ys, xs = [.ref p] ∧ (SqL K H p ys ∨ SqT K H p ys) ∧ Q (.int ys.length) H
theorem evp_len {P : α → Prd} [∀ x, Mono (P x)] {xs : List α} (h : EvP mu ta σ G (Sof P xs)) : EvP mu (tCB (rLenN K) (tCons ta tNil)) σ G (TZ (xs.length : Int)) :=
  evp_tcb (eva_1 h) fun vs G1 _ ⟨v, e, p⟩ => by
    rcases p with ⟨a, ys, rfl, g, f⟩ | ⟨a, ys, rfl, g, f⟩
    · exact RvP.pure (v := .int xs.length) (fun Q H hA q => ⟨a, ys, e, .inl (sql_at hA g), by rw [f.1]; exact q⟩) rfl
    · exact RvP.pure (v := .int xs.length) (fun Q H hA q => ⟨a, ys, e, .inr (sqt_at hA g), by rw [f.1]; exact q⟩) rfl
def rListN (K : PySem.W.Frag) : List V → Hp → VK → Prop := fun xs H Q => ∃ p ys, xs = [.ref p] ∧ (SqL K H p ys ∨ SqT K H p ys) ∧ ∀ l, H l = none → Q (.ref l) (upd H l (.lst ys))
theorem evp_list {P : α → Prd} [∀ x, Mono (P x)] {xs : List α} (h : EvP mu ta σ G (Sof P xs)) : EvP mu (tCB (rListN K) (tCons ta tNil)) σ G (Lof P xs) :=
  evp_tcb (eva_1 h) fun vs G1 _ ⟨v, e, p⟩ H hA Q q => by
    rcases p with ⟨a, ys, rfl, g, f⟩ | ⟨a, ys, rfl, g, f⟩
    · exact ⟨a, ys, e, .inl (sql_at hA g), fun l hl => q _ _ _ (hA.new (.lst ys) hl) ⟨l, ys, rfl, upd_same, f.mono (hA.new (.lst ys) hl).gg⟩⟩
    · exact ⟨a, ys, e, .inr (sqt_at hA g), fun l hl => q _ _ _ (hA.new (.lst ys) hl) ⟨l, ys, rfl, upd_same, f.mono (hA.new (.lst ys) hl).gg⟩⟩
def rTupN (K : PySem.W.Frag) : List V → Hp → VK → Prop := fun xs H Q => ∃ p ys, xs = [.ref p] ∧ ((SqL K H p ys ∧ ∀ l, H l = none → Q (.ref l) (upd H l (.tup ys))) ∨ (SqT K H p ys ∧ Q (.ref p) H))
theorem evp_tuple {P : α → Prd} [∀ x, Mono (P x)] {xs : List α} (h : EvP mu ta σ G (Lof P xs)) : EvP mu (tCB (rTupN K) (tCons ta tNil)) σ G (Tof P xs) :=
  evp_tcb (eva_1 h) fun vs G1 _ ⟨v, e, p⟩ H hA Q q => by
    obtain ⟨a, ys, rfl, g, f⟩ := p
    exact ⟨a, ys, e, .inl ⟨sql_at hA g, fun l hl => q _ _ _ (hA.new (.tup ys) hl) ⟨l, ys, rfl, upd_same, f.mono (hA.new (.tup ys) hl).gg⟩⟩⟩
theorem vof_bools {f : α → Bool} {xs : List α} {vs : List V} (h : Vof (fun x => TB (f x)) xs vs G) : vs = (xs.map f).map V.bl := by
  apply List.ext_getElem?
  intro i
  cases e : xs[i]? with
  | none =>
    have : xs.length ≤ i := List.getElem?_eq_none_iff.mp e
    rw [List.getElem?_eq_none (by rw [h.1]; exact this)]; simp [e]
  | some x =>
    obtain ⟨v, hv, p⟩ := h.at e
    rw [hv]; simp [e]; exact p
theorem evp_all {f : α → Bool} {xs : List α} (h : EvP mu ta σ G (Lof (fun x => TB (f x)) xs)) : EvP mu (tCB (rAll K) (tCons ta tNil)) σ G (TB (xs.all f)) :=
  evp_tcb (eva_1 h) fun vs G1 _ ⟨v, e, p⟩ => by
    obtain ⟨a, ys, rfl, g, f'⟩ := p
    refine RvP.pure (v := .bl (xs.all f)) (fun Q H hA q => ⟨a, xs.map f, e, by rw [← vof_bools f']; exact sql_at hA g, ?_⟩) rfl
    have : (xs.map f).all id = xs.all f := by simp [List.all_map]
    rw [this]; exact q
theorem evp_cat {P : α → Prd} [∀ x, Mono (P x)] {xs ys : List α} (h : EvP mu ta σ G (Lof P xs)) (h2 : EvP mu tb σ G (Lof P ys)) (hl : xs.length + ys.length ≤ 1000) : EvP mu (tOp rCat ta tb) σ G (Lof P (xs ++ ys)) :=
  evp_op h h2 fun v w G1 _ ⟨a, us, e1, g1, f1⟩ ⟨b, ws, e2, g2, f2⟩ H hA Q q =>
    ⟨a, b, us, ws, e1, e2, hA.ex _ _ g1, hA.ex _ _ g2, Nat.le_of_lt (small1000 (by rw [f1.1, f2.1]; exact hl)), fun l hl => q _ _ _ (hA.new (.lst (us ++ ws)) hl) ⟨l, us ++ ws, rfl, upd_same, by
      refine Vof.mono (hA.new (.lst (us ++ ws)) hl).gg ⟨by simp [f1.1, f2.1], fun i v x p q => ?_⟩
      by_cases hi : i < xs.length
      · rw [List.getElem?_append_left (by rw [f1.1]; exact hi)] at p
        rw [List.getElem?_append_left hi] at q
        exact f1.2 i v x p q
      · rw [List.getElem?_append_right (by rw [f1.1]; omega)] at p
        rw [List.getElem?_append_right (by omega)] at q
        rw [f1.1] at p
        exact f2.2 _ v x p q⟩⟩
/-! ### what is walked -/
structure Its (mu : Mu) (J : It) (G : Hp) (xs : List α) (PI : α → Prd) : Prop where
  go : ∀ (i : Nat) (G1 H : Hp), Ex G G1 → At mu G1 H → i < xs.length → J.go i H
  stop : ∀ G1 H : Hp, Ex G G1 → At mu G1 H → J.stop xs.length H
  yld : ∀ (i : Nat) (x : α) (G1 H : Hp) (v : V) (H' : Hp), xs[i]? = some x → Ex G G1 → At mu G1 H → J.yld i H v H' → ∃ G', Stp mu G1 H G' H' ∧ PI x v G'
def EvI (mu : Mu) (wi : TI) (σ : L2.St) (G : Hp) (xs : List α) (PI : α → Prd) : Prop :=
  ∀ G1 H : Hp, Ex G G1 → At mu G1 H → ∀ R : It → Hp → Prop, (∀ (J : It) (G' H' : Hp), Stp mu G1 H G' H' → Its mu J G' xs PI → R J H') → wi σ H R
theorem evi_list {P : α → Prd} [m : ∀ x, Mono (P x)] {xs : List α} (h : EvP mu ta σ G (Lof P xs)) : EvI mu (iList K ta) σ G xs P := by
  intro G1 H e a R k
  refine h G1 H e a _ fun v G2 H2 s2 ⟨b, vs, e1, g, f⟩ => ?_
  refine ⟨b, e1, ⟨vs, sql_at (a.stp s2) g⟩, k _ G2 H2 s2 ⟨fun i G3 H3 e3 a3 hi => ?_, fun G3 H3 e3 a3 => ?_, fun i x G3 H3 w H4 hx e3 a3 y => ?_⟩⟩
  · have hj : i < vs.length := by rw [f.1]; exact hi
    exact ⟨vs, vs[i], sql_at a3 (e3 _ _ g), List.getElem?_eq_getElem hj⟩
  · exact ⟨vs, sql_at a3 (e3 _ _ g), Nat.le_of_eq f.1⟩
  · obtain ⟨rfl, y⟩ := y
    have hv := y vs (sql_at a3 (e3 _ _ g))
    exact ⟨G3, Stp.refl a3, (m x).mono e3 (f.2 i w x hv hx)⟩
theorem evi_tup {P : α → Prd} [m : ∀ x, Mono (P x)] {xs : List α} (h : EvP mu ta σ G (Tof P xs)) : EvI mu (iTup K ta) σ G xs P := by
  intro G1 H e a R k
  refine h G1 H e a _ fun v G2 H2 s2 ⟨b, vs, e1, g, f⟩ => ?_
  refine ⟨b, e1, ⟨vs, sqt_at (a.stp s2) g⟩, k _ G2 H2 s2 ⟨fun i G3 H3 e3 a3 hi => ?_, fun G3 H3 e3 a3 => ?_, fun i x G3 H3 w H4 hx e3 a3 y => ?_⟩⟩
  · have hj : i < vs.length := by rw [f.1]; exact hi
    exact ⟨vs, vs[i], sqt_at a3 (e3 _ _ g), List.getElem?_eq_getElem hj⟩
  · exact ⟨vs, sqt_at a3 (e3 _ _ g), Nat.le_of_eq f.1⟩
  · obtain ⟨rfl, y⟩ := y
    have hv := y vs (sqt_at a3 (e3 _ _ g))
    exact ⟨G3, Stp.refl a3, (m x).mono e3 (f.2 i w x hv hx)⟩
/-- a list or a tuple -/
def iSeq (K : PySem.W.Frag) (ta : TE) : TI := fun σ H R => iList K ta σ H R ∨ iTup K ta σ H R
theorem pi_seq {X : Cx} {tg e : Expr} (h1 : PI X tg e (iList X.K ta)) (h2 : PI X tg e (iTup X.K ta)) : PI X tg e (iSeq X.K ta) :=
  ⟨fun pins s σ H R I h => h.elim (h1.run pins s σ H R I) (h2.run pins s σ H R I)⟩
theorem evi_seq {P : α → Prd} [m : ∀ x, Mono (P x)] {xs : List α} {i : Nat} {v : V} (e : σ[i]? = some (some v)) (h : Sof P xs v G) : EvI mu (iSeq K (tVar i)) σ G xs P := by
  intro G1 H eg a R k
  rcases h with h | h
  · exact .inl (evi_list (K := K) (evp_var e h) G1 H eg a R k)
  · exact .inr (evi_tup (K := K) (evp_var e h) G1 H eg a R k)
theorem evi_rng {tr : TA} {n : Nat} (h : EvA mu tr σ G (fun vs _ => vs = [.int (n : Int)])) (hn : n ≤ 1000000) : EvI mu (iRng1 tr) σ G (List.range n) (fun i => TZ (i : Int)) := by
  intro G1 H e a R k
  refine h G1 H e a _ fun vs G2 H2 s2 p => ?_
  refine ⟨(n : Int), p, by omega, by omega, k _ G2 H2 s2 ⟨fun i G3 H3 e3 a3 hi => ?_, fun G3 H3 e3 a3 => ?_, fun i x G3 H3 w H4 hx e3 a3 y => ?_⟩⟩
  · show i < ((n : Int)).toNat
    simpa using hi
  · show ((n : Int)).toNat ≤ (List.range n).length
    simp
  · obtain ⟨rfl, rfl⟩ := y
    have hi := (List.getElem?_eq_some_iff.mp hx).1
    simp at hi
    rw [List.getElem?_range hi] at hx
    cases hx
    exact ⟨G3, Stp.refl a3, by show V.int (0 + (i : Int)) = _; rw [Int.zero_add]⟩
theorem evi_zip {P Q : α → Prd} [m : ∀ x, Mono (P x)] [m2 : ∀ x, Mono (Q x)] {xs : List α} (h : EvP mu ta σ G (Lof P xs)) (h2 : EvP mu tb σ G (Lof Q xs)) : EvI mu (iZip K (tCons ta (tCons tb tNil))) σ G xs (fun x => TPr (P x) (Q x)) := by
  intro G1 H e a R k
  refine eva_2 h h2 G1 H e a _ fun vs G2 H2 s2 pp => ?_
  obtain ⟨v, w, e0, ⟨b, us, rfl, g, f⟩, ⟨c, ws, rfl, g', f'⟩⟩ := pp
  refine ⟨b, c, us, ws, e0, sql_at (a.stp s2) g, sql_at (a.stp s2) g', k _ G2 H2 s2 ⟨fun i G3 H3 e3 a3 hi => ?_, fun G3 H3 e3 a3 => ?_, fun i x G3 H3 w H4 hx e3 a3 y => ?_⟩⟩
  · have hj : i < us.length := by rw [f.1]; exact hi
    have hk : i < ws.length := by rw [f'.1]; exact hi
    exact ⟨us, ws, us[i], ws[i], sql_at a3 (e3 _ _ g), sql_at a3 (e3 _ _ g'), List.getElem?_eq_getElem hj, List.getElem?_eq_getElem hk⟩
  · exact ⟨us, ws, sql_at a3 (e3 _ _ g), sql_at a3 (e3 _ _ g'), .inl (Nat.le_of_eq f.1)⟩
  · obtain ⟨T, p, q, rfl, hT, rfl, y1, y2⟩ := y
    have h1 := y1 us (sql_at a3 (e3 _ _ g))
    have h2 := y2 ws (sql_at a3 (e3 _ _ g'))
    have s4 := a3.new (.tup [p, q]) hT
    exact ⟨_, s4, T, p, q, rfl, upd_same, (m x).mono (e3.trans s4.gg) (f.2 i p x h1 hx), (m2 x).mono (e3.trans s4.gg) (f'.2 i q x h2 hx)⟩
theorem evi_enum {P : Nat → Prd} [m : ∀ x, Mono (P x)] {n : Nat} (h : EvP mu ta σ G (Lof P (List.range n))) : EvI mu (iEnum K (tCons ta tNil)) σ G (List.range n) (fun i => TPr (TZ (i : Int)) (P i)) := by
  intro G1 H e a R k
  refine eva_1 h G1 H e a _ fun vs G2 H2 s2 pp => ?_
  obtain ⟨v, e0, ⟨b, us, rfl, g, f⟩⟩ := pp
  refine ⟨b, us, e0, sql_at (a.stp s2) g, k _ G2 H2 s2 ⟨fun i G3 H3 e3 a3 hi => ?_, fun G3 H3 e3 a3 => ?_, fun i x G3 H3 w H4 hx e3 a3 y => ?_⟩⟩
  · have hj : i < us.length := by rw [f.1]; exact hi
    exact ⟨us, us[i], sql_at a3 (e3 _ _ g), List.getElem?_eq_getElem hj⟩
  · exact ⟨us, sql_at a3 (e3 _ _ g), Nat.le_of_eq f.1⟩
  · obtain ⟨T, p, rfl, hT, rfl, y1⟩ := y
    have h1 := y1 us (sql_at a3 (e3 _ _ g))
    have s4 := a3.new (.tup [.int (i : Nat), p]) hT
    have hi := (List.getElem?_eq_some_iff.mp hx).1
    simp at hi
    have hx' := hx
    rw [List.getElem?_range hi] at hx'
    cases hx'
    exact ⟨_, s4, T, .int (i : Nat), p, rfl, upd_same, rfl, (m i).mono (e3.trans s4.gg) (f.2 i p i h1 hx)⟩
/-! ### targets -/
def EvG (mu : Mu) (g : TG) (v : V) (σ : L2.St) (G : Hp) (S : L2.St → Prop) : Prop := ∀ G1 H : Hp, Ex G G1 → At mu G1 H → ∀ Q : L2.St → Hp → Prop, (∀ σ', S σ' → Q σ' H) → g v σ H Q
theorem evg_name {j : Nat} {v : V} : EvG mu (gName j) v σ G (· = σ.set j (some v)) := fun G1 H _ _ Q q => q _ rfl
theorem evg_pair {A B : Prd} {i j : Nat} {v : V} (h : TPr A B v G) : EvG mu (gTup K 2 (gCons (gName i) (gCons (gName j) gNil))) v σ G (fun σ' => ∃ x y, A x G ∧ B y G ∧ σ' = (σ.set i (some x)).set j (some y)) := fun G1 H e a Q q => by
  obtain ⟨p, x, y, rfl, g, h1, h2⟩ := h
  exact ⟨p, [x, y], rfl, sqt_at a (e _ _ g), rfl, x, [y], rfl, y, [], rfl, rfl, q _ ⟨x, y, h1, h2, rfl⟩⟩
/-! ### comprehensions -/
theorem evp_lc {xs : List α} {PI : α → Prd} {T : α → L2.St → Hp → Prop} {f : α → Bool} {P : α → Prd} [m : ∀ x, Mono (P x)] {wi : TI} {g : TG} {tt : TT} {vs : List Nat} (hi : EvI mu wi σ G xs PI) (hl : xs.length ≤ 1000)
    (hg : ∀ x, x ∈ xs → ∀ v G1, Ex G G1 → PI x v G1 → EvG mu g v (wipe σ vs) G1 (fun σ' => wipe σ' vs = wipe σ vs ∧ T x σ' G1))
    (ht : ∀ x, x ∈ xs → ∀ σ' G1, Ex G G1 → T x σ' G1 → EvT mu tt σ' G1 (· = f x))
    (he : ∀ x, x ∈ xs → f x = true → ∀ σ' G1, Ex G G1 → T x σ' G1 → ∀ G2, Ex G1 G2 → EvP mu te σ' G2 (P x)) : EvP mu (tLc wi g tt te vs) σ G (Lof P (xs.filter f)) := by
  intro G1 H e a Q q
  refine hi G1 H e a _ fun J G2 H2 s2 J2 => ?_
  intro Dl hD
  have a2 := a.stp s2
  have sD := a2.hid (.lst []) hD
  refine ⟨fun i mm Hc => mm = xs.length - i ∧ i ≤ xs.length ∧ ∃ Gc acc, Stp mu G2 H2 Gc Hc ∧ Gc Dl = none ∧ Hc Dl = some (.lst acc) ∧ Vof P ((xs.take i).filter f) acc Gc, ⟨xs.length, by simp, Nat.zero_le _, G2, [], sD, a2.gnone hD, upd_same, Vof.nil⟩, ?_⟩
  rintro i mm Hc ⟨rfl, hile, Gc, acc, sc, gD, hDc, fv⟩
  have ac := a2.stp sc
  by_cases hlt : i < xs.length
  · refine .inr ⟨J2.go i Gc Hc sc.gg ac hlt, fun H' => i + 1 ≤ xs.length ∧ ∃ Gn acc', Stp mu G2 H2 Gn H' ∧ Gn Dl = none ∧ H' Dl = some (.lst acc') ∧ Vof P ((xs.take (i + 1)).filter f) acc' Gn, fun H' ⟨h1, h2⟩ => ⟨xs.length - (i + 1), by omega, rfl, h1, h2⟩, fun v H' y => ?_⟩
    have hx : xs[i]? = some xs[i] := List.getElem?_eq_getElem hlt
    have hxm : xs[i] ∈ xs := List.getElem_mem hlt
    obtain ⟨G3, s3, p3⟩ := J2.yld i _ Gc Hc v H' hx sc.gg ac y
    have a3 := ac.stp s3
    have sc3 := sc.trans s3
    have take1 : xs.take (i + 1) = xs.take i ++ [xs[i]] := by rw [List.take_succ, hx] <;> rfl
    refine hg _ hxm v G3 (e.trans (s2.gg.trans sc3.gg)) p3 G3 H' Ex.rfl' a3 _ fun σ' ⟨hw, hT⟩ => ⟨hw, ?_⟩
    refine ht _ hxm σ' G3 (e.trans (s2.gg.trans sc3.gg)) hT G3 H' Ex.rfl' a3 _ fun b G4 H4 s4 hb => ?_
    have a4 := a3.stp s4
    have s34 := s3.trans s4
    have hne : ∀ {Gx Hx : Hp}, Stp mu Gc Hc Gx Hx → Gx Dl = none ∧ Hx Dl = some (.lst acc) := fun {Gx Hx} s => ⟨(s.fr Dl (by rw [hDc]; intro z; cases z)).trans gD, s.hh Dl _ (fun z => a2.fresh hD z) hDc⟩
    cases hbv : b with
    | true =>
      rw [hbv] at hb
      show te σ' H4 _
      refine he _ hxm hb.symm σ' G3 (e.trans (s2.gg.trans sc3.gg)) hT G4 s4.gg G4 H4 Ex.rfl' a4 _ fun w G5 H5 s5 pw => ?_
      obtain ⟨gx, hx'⟩ := hne (s34.trans s5)
      refine ⟨acc, hx', ?_, hlt, G5, acc ++ [w], ((sc.trans s34).trans s5).put _ hD gx (a2.fresh hD), gx, upd_same, ?_⟩
      · have hle : acc.length ≤ 1000 := by
          rw [fv.1]
          refine Nat.le_trans (List.length_filter_le _ _) ?_
          rw [List.length_take]; omega
        exact small1000 hle
      · rw [take1, List.filter_append]
        have : [xs[i]].filter f = [xs[i]] := by simp [← hb]
        rw [this]
        exact Vof.snoc (fv.mono (s34.trans s5).gg) pw
    | false =>
      rw [hbv] at hb
      show i + 1 ≤ xs.length ∧ _
      obtain ⟨gx, hx'⟩ := hne s34
      refine ⟨hlt, G4, acc, sc.trans s34, gx, hx', ?_⟩
      rw [take1, List.filter_append]
      have : [xs[i]].filter f = [] := by simp [← hb]
      rw [this, List.append_nil]
      exact fv.mono s34.gg
  · have ei : i = xs.length := by omega
    subst ei
    rw [List.take_length] at fv
    refine .inl ⟨J2.stop Gc Hc sc.gg ac, q _ _ _ (s2.trans (sc.show_ a2.ex hD hDc)) ⟨Dl, acc, rfl, upd_same, fv.mono (Ex.new gD)⟩⟩
theorem filt_true (xs : List α) : xs.filter (fun _ => true) = xs := by simp
/-- a name, no test -/
theorem evp_lcN {xs : List α} {PI P : α → Prd} [m : ∀ x, Mono (P x)] {wi : TI} {j : Nat} {vs : List Nat} (hi : EvI mu wi σ G xs PI) (hl : xs.length ≤ 1000) (hw : ∀ v, wipe ((wipe σ vs).set j (some v)) vs = wipe σ vs)
    (he : ∀ x, x ∈ xs → ∀ v G1, Ex G G1 → PI x v G1 → ∀ G2, Ex G1 G2 → EvP mu te ((wipe σ vs).set j (some v)) G2 (P x)) : EvP mu (tLc wi (gName j) tYes te vs) σ G (Lof P xs) := by
  have h := evp_lc (f := fun _ => true) (T := fun x σ' G1 => ∃ v, PI x v G1 ∧ σ' = (wipe σ vs).set j (some v)) (tt := tYes) (te := te) (P := P) (g := gName j) hi hl
    (fun x _ v G1 e p G2 H _ _ Q q => q _ ⟨hw v, v, p, rfl⟩) (fun x _ σ' G1 e _ G2 H _ a Q q => q true G2 H (Stp.refl a) rfl) (fun x hx _ σ' G1 e ⟨v, p, es⟩ G2 e2 => es ▸ he x hx v G1 e p G2 e2)
  rw [filt_true] at h
  exact h
/-- a name, a test that is known -/
theorem evp_lcF {xs : List α} {PI P : α → Prd} [m : ∀ x, Mono (P x)] {wi : TI} {j : Nat} {tt : TT} {vs : List Nat} (f : α → Bool) (hi : EvI mu wi σ G xs PI) (hl : xs.length ≤ 1000) (hw : ∀ v, wipe ((wipe σ vs).set j (some v)) vs = wipe σ vs)
    (ht : ∀ x, x ∈ xs → ∀ v G1, Ex G G1 → PI x v G1 → EvT mu tt ((wipe σ vs).set j (some v)) G1 (· = f x))
    (he : ∀ x, x ∈ xs → ∀ v G1, Ex G G1 → PI x v G1 → ∀ G2, Ex G1 G2 → EvP mu te ((wipe σ vs).set j (some v)) G2 (P x)) : EvP mu (tLc wi (gName j) tt te vs) σ G (Lof P (xs.filter f)) :=
  evp_lc (f := f) (T := fun x σ' G1 => ∃ v, PI x v G1 ∧ σ' = (wipe σ vs).set j (some v)) hi hl
    (fun x _ v G1 e p G2 H _ _ Q q => q _ ⟨hw v, v, p, rfl⟩) (fun x hx σ' G1 e ⟨v, p, es⟩ => es ▸ ht x hx v G1 e p) (fun x hx _ σ' G1 e ⟨v, p, es⟩ G2 e2 => es ▸ he x hx v G1 e p G2 e2)
/-- a pair of names, no test -/
theorem evp_lcP {xs : List α} {A B P : α → Prd} [m : ∀ x, Mono (P x)] {wi : TI} {j k : Nat} {vs : List Nat} (hi : EvI mu wi σ G xs (fun x => TPr (A x) (B x))) (hl : xs.length ≤ 1000) (hw : ∀ v w, wipe (((wipe σ vs).set j (some v)).set k (some w)) vs = wipe σ vs)
    (he : ∀ x, x ∈ xs → ∀ v w G1, Ex G G1 → A x v G1 → B x w G1 → ∀ G2, Ex G1 G2 → EvP mu te (((wipe σ vs).set j (some v)).set k (some w)) G2 (P x)) : EvP mu (tLc wi (gTup K 2 (gCons (gName j) (gCons (gName k) gNil))) tYes te vs) σ G (Lof P xs) := by
  have h := evp_lc (f := fun _ => true) (T := fun x σ' G1 => ∃ v w, A x v G1 ∧ B x w G1 ∧ σ' = ((wipe σ vs).set j (some v)).set k (some w)) (tt := tYes) (te := te) (P := P) (g := gTup K 2 (gCons (gName j) (gCons (gName k) gNil))) hi hl
    (fun x _ v G1 e p G2 H e2 a Q q => evg_pair p G2 H e2 a Q fun σ' ⟨v', w', h1, h2, h3⟩ => q σ' ⟨by rw [h3]; exact hw v' w', v', w', h1, h2, h3⟩) (fun x _ σ' G1 e _ G2 H _ a Q q => q true G2 H (Stp.refl a) rfl)
    (fun x hx _ σ' G1 e ⟨v, w, p, p2, es⟩ G2 e2 => es ▸ he x hx v w G1 e p p2 G2 e2)
  rw [filt_true] at h
  exact h
/-! ### statements -/
variable {D : Ends} {tu tw tz : TS}
theorem sasg {i : Nat} (a : At mu G H) (h : EvP mu te σ G P) (k : ∀ v G' H', Stp mu G H G' H' → P v G' → D.nx (σ.set i (some v)) H') : tAsg te (gName i) D σ H := h G H Ex.rfl' a _ fun v G' H' s p => k v G' H' s p
theorem sret (a : At mu G H) (h : EvP mu te σ G P) (k : ∀ v G' H', Stp mu G H G' H' → P v G' → D.rt v H') : tRet te D σ H := h G H Ex.rfl' a _ fun v G' H' s p => k v G' H' s p
theorem sdrop (a : At mu G H) (h : EvP mu te σ G P) (k : ∀ v G' H', Stp mu G H G' H' → P v G' → D.nx σ H') : tDrop te D σ H := h G H Ex.rfl' a _ fun v G' H' s p => k v G' H' s p
theorem sif {A : Bool → Prop} (a : At mu G H) (h : EvT mu t σ G A) (h1 : ∀ G' H', Stp mu G H G' H' → A true → tu D σ H') (h2 : ∀ G' H', Stp mu G H G' H' → A false → tw D σ H') : tIfS t tu tw D σ H :=
  h G H Ex.rfl' a _ fun b G' H' s p => by
    cases b with
    | true => exact h1 G' H' s p
    | false => exact h2 G' H' s p
theorem spar [m : Mono P1] {i j : Nat} (a : At mu G H) (h : EvP mu ta σ G P1) (h2 : EvP mu tb σ G P2) (k : ∀ v w G' H', Stp mu G H G' H' → P1 v G' → P2 w G' → D.nx ((σ.set i (some v)).set j (some w)) H') : tPar i j (tCons ta (tCons tb tNil)) D σ H :=
  h G H Ex.rfl' a _ fun v G1 H1 s1 p1 => h2 G1 H1 s1.gg (a.stp s1) _ fun w G2 H2 s2 p2 => ⟨v, w, rfl, k v w G2 H2 (s1.trans s2) (m.mono s2.gg p1) p2⟩
theorem spar3 {P3 : Prd} {tc : TE} [m : Mono P1] [m2 : Mono P2] {i j l : Nat} (a : At mu G H) (h : EvP mu ta σ G P1) (h2 : EvP mu tb σ G P2) (h3 : EvP mu tc σ G P3)
    (k : ∀ v w z G' H', Stp mu G H G' H' → P1 v G' → P2 w G' → P3 z G' → D.nx (((σ.set i (some v)).set j (some w)).set l (some z)) H') : tPar3 i j l (tCons ta (tCons tb (tCons tc tNil))) D σ H :=
  h G H Ex.rfl' a _ fun v G1 H1 s1 p1 => h2 G1 H1 s1.gg (a.stp s1) _ fun w G2 H2 s2 p2 => h3 G2 H2 (s1.gg.trans s2.gg) ((a.stp s1).stp s2) _ fun z G3 H3 s3 p3 =>
    ⟨v, w, z, rfl, k v w z G3 H3 ((s1.trans s2).trans s3) (m.mono (s2.gg.trans s3.gg) p1) (m2.mono s3.gg p2) p3⟩
theorem sfor {xs : List α} {PI : α → Prd} {wi : TI} {g : TG} (a : At mu G H) (hi : EvI mu wi σ G xs PI)
    (k : ∀ Gs Hs, Stp mu G H Gs Hs → ∃ W : Nat → L2.St → Hp → Hp → Prop, W 0 σ Gs Hs ∧
      (∀ i x v σ1 G1 H1 G2 H2, xs[i]? = some x → Ex Gs G1 → At mu G1 H1 → W i σ1 G1 H1 → Stp mu G1 H1 G2 H2 → PI x v G2 →
        g v σ1 H2 fun σ2 H3 => tu { D with nx := fun σ' H' => ∃ G', Ex Gs G' ∧ At mu G' H' ∧ W (i + 1) σ' G' H', ct := fun σ' H' => ∃ G', Ex Gs G' ∧ At mu G' H' ∧ W (i + 1) σ' G' H', bk := D.nx } σ2 H3) ∧
      (∀ σ1 G1 H1, Ex Gs G1 → At mu G1 H1 → W xs.length σ1 G1 H1 → D.nx σ1 H1)) : tFor wi g tu D σ H := by
  refine hi G H Ex.rfl' a _ fun J Gs Hs s J2 => ?_
  obtain ⟨W, w0, turn, fin⟩ := k Gs Hs s
  refine ⟨fun i mm σ' H' => mm = xs.length - i ∧ i ≤ xs.length ∧ ∃ G', Ex Gs G' ∧ At mu G' H' ∧ W i σ' G' H', ⟨xs.length, by simp, Nat.zero_le _, Gs, Ex.rfl', a.stp s, w0⟩, ?_⟩
  rintro i mm σ' H' ⟨rfl, hle, G', e', a', w⟩
  by_cases hlt : i < xs.length
  · refine .inr ⟨J2.go i G' H' e' a' hlt, _, fun σ2 H2 q => ⟨xs.length - (i + 1), by omega, rfl, hlt, q⟩, fun v H2 y => ?_⟩
    have hx : xs[i]? = some xs[i] := List.getElem?_eq_getElem hlt
    obtain ⟨G2, s2, p2⟩ := J2.yld i _ G' H' v H2 hx e' a' y
    exact turn i _ v σ' G' H' G2 H2 hx e' a' w s2 p2
  · have ei : i = xs.length := by omega
    subst ei
    exact .inl ⟨J2.stop G' H' e' a', fin σ' G' H' e' a' w⟩
end
end N640

set_option Elab.async false
set_option linter.all false
set_option maxRecDepth 100000
set_option maxHeartbeats 4000000
/-! Operators of own classes, own !=. -/
namespace N640
open PySem PySem.Spec PyProof.Rows L2
section
open PySem.W
variable {prog : Program} {w : World} {A : Around} {E : Value → Shared → Prop} {s : Shared} {K : PySem.W.Frag} {x y C D L f g : Addr} {h₀ : Heap} {m : Str → Option Value} {ox oy : Obj} {od oe : Option Obj} {nm : String}
/-- left operand of one own class, right one of another; both have the two methods -/
theorem bin_two {op : Operator} {rc fo : Option Value} {Q : Value → Shared → Prop} (F : Fr h₀ L s.heap m) (X₀ : K.In h₀) (I : InstAt s.heap x ox C od) (J : InstAt s.heap y oy D oe) (hc : selfFirst K C = true) (hd : selfFirst K D = true) (hne : C ≠ D)
    (hs : findIn K (.ref C) (PySem.dunder op.info.2) = some (some (.ref f))) (hf : isFn K (.ref f) = true) (hr : findIn K (.ref C) (dunderR op.info.2) = some rc) (hp : rc = none ∨ ∃ g : Addr, rc = some (.ref g))
    (hs2 : findIn K (.ref D) (PySem.dunder op.info.2) = some (some (.ref g))) (hr2 : findIn K (.ref D) (dunderR op.info.2) = some fo) (hp2 : fo = none ∨ ∃ g : Addr, fo = some (.ref g)) (hsub : subIn K (.ref D) (.ref C) = some false)
    (h : wpAny (model prog w) A (call (.ref f) [.ref x, .ref y]) (PySem.W.CmpBack Q) E s) : wpAny (model prog w) A (binaryOp op (.ref x) (.ref y)) Q E s := by
  have Z := X₀.keeps F.keep
  obtain ⟨cd, rest, hcd, hm⟩ := ksp_first hc
  obtain ⟨ce, rest2, hce, hm2⟩ := ksp_first hd
  rcases hi : op.info with ⟨sym, nm'⟩
  rw [hi] at hs hr hs2 hr2
  dsimp only at hs hr hs2 hr2
  have one := ksp_try Z I hs hf h
  obtain ⟨hh, gg, dd, tt, os⟩ := s
  have L1 : Looks (model prog w) hh (typeOf (.ref x)) (.ref C) := I.type
  have L2 : Looks (model prog w) hh (typeOf (.ref y)) (.ref D) := J.type
  have L3 : Looks (model prog w) hh (fillsNumberSlot (.ref C) nm') true := fills_K Z hcd hm hs
  have L4 : Looks (model prog w) hh (fillsNumberSlot (.ref D) nm') true := fills_K Z hce hm2 hs2
  have L5 : Looks (model prog w) hh (isSubtype (.ref D) (.ref C)) false := looks_subIn Z hsub
  have L6 : Looks (model prog w) hh (numberSlotInPython (.ref C) nm') true := ksp_inPy Z hs hr hp
  have L7 : Looks (model prog w) hh (numberSlotInPython (.ref D) nm') true := ksp_inPy Z hs2 hr2 hp2
  have e1 : (Value.ref C == Value.ref D) = false := Bool.eq_false_iff.mpr fun q => hne (by cases beq_iff_eq.mp q; rfl)
  simp only [binaryOp, hi]
  refine wpAny_holding (wpAny_bind ?_)
  unfold binaryOp1
  refine wpAny_bind (L1.at (wpAny_bind (L2.at (wpAny_bind (L3.at ?_)))))
  simp only [e1, Bool.false_eq_true, if_false]
  ksp_lk
  refine wpAny_mono one (fun r s' hr' => ?_) fun _ _ e => e
  obtain ⟨v, rfl, hq⟩ := hr'
  ksp_lk
  exact hq
/-! own != -/
theorem neEntry {Q : Fin → Shared → Prop} (hu : A.units < cLine) (X : K.In s.heap) (I : InstAt s.heap x ox C od) (he : findIn K (.ref C) "__eq__" = some (some (.ref f))) (hf : isFn K (.ref f) = true)
    (hcall : wpAny (model prog w) A (call (.ref f) [.ref x, .ref y]) (fun v s' => ∃ b, v = .bool b ∧ Q (.done (.ret (.bool (!b)))) s') E s) : wpAny (model prog w) A (Builtin.«object.__ne__» ⟨[.ref x, .ref y], []⟩) Q E s := by
  have go : wpAny (model prog w) A (callSpecialIfBound? (.ref x) "__eq__" [.ref y]) (fun r s' => ∃ b, r = some (.bool b) ∧ Q (.done (.ret (.bool (!b)))) s') E s := by
    refine ifBound_K X I he hf (wpAny_mono hcall (fun v s' z => ?_) fun _ _ e => e)
    obtain ⟨b, rfl, z⟩ := z
    exact ⟨b, rfl, z⟩
  unfold Builtin.«object.__ne__»
  repeat (first
    | with_reducible refine wpAny_cRoomFor hu ?_
    | (refine wpAny_bind (m := callSpecialIfBound? (.ref x) (Str.ofString "__eq__") [.ref y]) (wpAny_mono go (fun r s' hr => by
          obtain ⟨b, rfl, hq⟩ := hr
          repeat (first | exact hq | exact wpAny_pure hq | exact wpAny_truthy_bool hq | (refine wpAny_bind (m := truthy (.bool _)) (wpAny_truthy_bool ?_)) | wp_step)) fun _ _ e => e))
    | wp_step)
theorem ifBound_objNe {M : Model} {args : List Value} {Q : Option Value → Shared → Prop} (X : K.In s.heap) (I : InstAt s.heap x ox C od) (hs : findIn K (.ref C) "__ne__" = some (some (.builtin "object.__ne__")))
    (h : wpAny M A (call (.builtin "object.__ne__") (.ref x :: args)) (fun v => Q (some v)) E s) : wpAny M A (callSpecialIfBound? (.ref x) "__ne__" args) Q E s := by
  have fin : wpAny M A (call (.builtin "object.__ne__") ([.ref x] ++ args) >>= fun v => pure (some v)) Q E s := wpAny_bind (wpAny_mono h (fun v s' z => wpAny_pure z) fun _ _ z => z)
  simp only [callSpecialIfBound?, bindSpecialIfBound?]
  refine wpAny_holding (wpAny_bind (wpAny_bind (wpAny_bind (I.type.here ((looks_findIn X hs).here ?_)))))
  refine wpAny_bind (wpAny_askSetting (wpAny_ite ?_))
  split
  · exact wpAny_bind (wpAny_of_eq (PySem.F.cmp_object.ne.bind _) (wpAny_pure (by exact fin)))
  · exact wpAny_tryCatch (wpAny_bind (wpAny_of_eq (PySem.F.cmp_object.ne.bind _) (wpAny_pure (by exact fin))))
theorem own_ne {Q : Value → Shared → Prop} (hu : A.units + 1 < cLine) (X : K.In s.heap) (I : InstAt s.heap x ox C od) (J : InstAt s.heap y oy C oe) (hm : mroIn K C (.type "object") = some true)
    (hs : findIn K (.ref C) "__ne__" = some (some (.builtin "object.__ne__"))) (he : findIn K (.ref C) "__eq__" = some (some (.ref f))) (hf : isFn K (.ref f) = true)
    (hcall : wpAny (model prog w) A.in1 (call (.ref f) [.ref x, .ref y]) (fun v s' => ∃ b, v = .bool b ∧ Q (.bool (!b)) s') E s) : wpAny (model prog w) A (richCompare .NotEq (.ref x) (.ref y)) Q E s := by
  have one : wpAny (model prog w) A (tryCompare (.ref x) "__ne__" (.ref y)) (fun r s' => ∃ b, r = some (.bool (!b)) ∧ Q (.bool (!b)) s') E s := by
    unfold tryCompare
    refine wpAny_bind (ifBound_objNe X I hs (wpAny_call (codeAny_call_builtin PySem.F.cmp_object.ne.plain PySem.F.cmpEntry_ne (check_slot PySem.F.cmpKind_ne PySem.F.cmpSplit_ne (I.type.andThen (looks_mroIn X hm)) (PySem.F.cmpArgs_ne _ _)
      (neEntry (A := A.in1) hu X I he hf (wpAny_mono hcall (fun v s' z => ?_) fun _ _ e => e))))))
    obtain ⟨b, rfl, z⟩ := z
    exact ⟨b, rfl, wpAny_pure ⟨b, rfl, z⟩⟩
  unfold richCompare
  simp only [oneThing_ref]
  refine wpAny_holding (wpAny_bind (wpAny_cRoomFor (Nat.lt_of_succ_lt hu) ?_))
  rw [cmpInfo_NotEq]
  dsimp only
  refine wpAny_bind (I.type.here (wpAny_bind (J.type.here ?_)))
  simp only [bne_self_eq_false, Bool.false_eq_true, if_false]
  refine wpAny_bind (wpAny_pure ?_)
  simp only [Bool.false_eq_true, if_false]
  refine wpAny_bind (wpAny_mono one (fun r s' z => ?_) fun _ _ e => e)
  obtain ⟨b, rfl, hq⟩ := z
  exact wpAny_pure hq
end
end N640

set_option Elab.async false
set_option linter.all false
set_option maxRecDepth 100000
set_option maxHeartbeats 4000000
/-! The same as rules over the abstract heap; more rules. -/
namespace N640
open PySem PySem.Spec PyProof.Rows L2
open C8 (Cal Met Mak)
section
variable {X : Cx}
theorem call_own {n : Nat} {f : Addr} {fd : FuncData} {ps : List Str} {sp : Sp} (F : FnOk X.prog X.w X.K X.mg X.base CX0 n f fd ps sp) (hb : Binds X.K fd ps []) {A : Around} (hr : Room n A) (hfr : A.frames = X.A.frames)
    {pins : List (Addr × Obj)} {σ : L2.St} {H : Hp} {s : Shared} (I : Inv X pins σ H s) {vs : List V} {us : List Value} (r : Vals vs us) {Q : VK} (h : sp vs H Q E0) : wpAny (model X.prog X.w) A (call (.ref f) us) (EP X pins σ Q) X.xe s := by
  have e0 : Env0 X.prog X.w X.K X.mg X.base A X.stack s H := by
    have e := I.env0
    exact ⟨by rw [hfr]; exact e.frames, e.mod, e.bs, e.bsz, e.funs, e.frf, e.hok, e.bare⟩
  have hl := F.len _ _ _ _ h
  refine wpAny_call (codeAny_mono (F.run A X.stack s H ⟨us, []⟩ us vs _ E0 hr e0 (by
    have q := hb s us I.kIn (by rw [List.append_nil, ← r.length]; exact hl)
    rw [List.append_nil] at q
    exact q) r h) fun r s' hq => ?_)
  cases r with
  | error e => exact pass0 pins σ H s e s' I hq
  | ok fl =>
    cases fl with
    | ret w => exact I.after hq
    | next => exact False.elim hq
    | brk => exact False.elim hq
    | cont => exact False.elim hq
theorem back_of {pins : List (Addr × Obj)} {σ : L2.St} {Q : VK} {v : Value} {s' : Shared} (h : EP X pins σ Q v s') : PySem.W.CmpBack (EP X pins σ Q) v s' := by
  obtain ⟨z, H', I', rz, q⟩ := h
  cases v <;> first | exact ⟨z, H', I', rz, q⟩ | (cases z <;> first | (obtain ⟨_, e⟩ := rz; cases e) | cases rz)
/-- both operands are instances: of the class at C, of that at D -/
def rOwn (C D : Addr) (sp : Sp) : R2 := fun x y H Q => ∃ a dx fs b dy gs, x = .ref a ∧ y = .ref b ∧ H a = some (.ins C dx fs) ∧ H b = some (.ins D dy gs) ∧ sp [x, y] H Q E0
/-- the right operand is an int -/
def rOwnI (C : Addr) (sp : Sp) : R2 := fun x y H Q => ∃ a dx fs i, x = .ref a ∧ y = .int i ∧ H a = some (.ins C dx fs) ∧ sp [x, y] H Q E0
structure OwnB (P : Program) (w : World) (K : PySem.W.Frag) (mg : Str → Option Value) (base : Heap) (k : Nat) (C : Addr) (op : Operator) (sp : Sp) : Prop where
  ex : ∃ (f : Addr) (fd : FuncData) (ps : List Str), PySem.W.findIn K (.ref C) (PySem.dunder op.info.2) = some (some (.ref f)) ∧ PySem.W.isFn K (.ref f) = true ∧ FnOk P w K mg base CX0 k f fd ps sp ∧ Binds K fd ps []
  rf : ∃ g, PySem.W.findIn K (.ref C) (dunderR op.info.2) = some (some (.ref g))
  sf : PySem.W.selfFirst K C = true
variable {k j : Nat} {C D : Addr} {op : Operator} {sp sp2 : Sp}
theorem op_same (c : OwnB X.prog X.w X.K X.mg X.base k C op sp) (hr : Room j X.A) (hk : k ≤ j) : OpR X (binaryOp op) (rOwn C C sp) := by
  intro pins s σ H x y v u Q I rx ry h
  obtain ⟨a, dx, fs, b, dy, gs, rfl, rfl, ha, hb, q⟩ := h
  cases rx
  cases ry
  obtain ⟨f, fd, ps, hs, hf, F, B⟩ := c.ex
  obtain ⟨mA, O, _⟩ := ins_get I.hok ha
  obtain ⟨od, J, _⟩ := O.look
  obtain ⟨mB, O', _⟩ := ins_get I.hok hb
  obtain ⟨od', J', _⟩ := O'.look
  obtain ⟨m, hF⟩ := I.fr
  exact PySem.W.binop_K hF I.ok.mod.kin J J'.type c.sf hs hf (wpAny_mono (call_own F B (hr.mono hk) rfl I (show Vals [V.ref a, V.ref b] [Value.ref a, Value.ref b] from .cons rfl (.cons rfl .nil)) q) (fun v s' z => back_of z) fun _ _ e => e)
theorem op_two (c : OwnB X.prog X.w X.K X.mg X.base k C op sp) (d : OwnB X.prog X.w X.K X.mg X.base k D op sp2) (hsub : PySem.W.subIn X.K (.ref D) (.ref C) = some false) (hne : C ≠ D) (hr : Room j X.A) (hk : k ≤ j) : OpR X (binaryOp op) (rOwn C D sp) := by
  intro pins s σ H x y v u Q I rx ry h
  obtain ⟨a, dx, fs, b, dy, gs, rfl, rfl, ha, hb, q⟩ := h
  cases rx
  cases ry
  obtain ⟨f, fd, ps, hs, hf, F, B⟩ := c.ex
  obtain ⟨f2, fd2, ps2, hs2, _, _, _⟩ := d.ex
  obtain ⟨g, hg⟩ := c.rf
  obtain ⟨g2, hg2⟩ := d.rf
  obtain ⟨mA, O, _⟩ := ins_get I.hok ha
  obtain ⟨od, J, _⟩ := O.look
  obtain ⟨mB, O', _⟩ := ins_get I.hok hb
  obtain ⟨od', J', _⟩ := O'.look
  obtain ⟨m, hF⟩ := I.fr
  exact bin_two hF I.ok.mod.kin J J' c.sf d.sf hne hs hf hg (.inr ⟨g, rfl⟩) hs2 hg2 (.inr ⟨g2, rfl⟩) hsub (wpAny_mono (call_own F B (hr.mono hk) rfl I (show Vals [V.ref a, V.ref b] [Value.ref a, Value.ref b] from .cons rfl (.cons rfl .nil)) q) (fun v s' z => back_of z) fun _ _ e => e)
theorem op_int (c : OwnB X.prog X.w X.K X.mg X.base k C op sp) (hL : (PySem.W.findIn X.K (.type "int") (PySem.dunder op.info.2)).isSome = true) (hR : (PySem.W.findIn X.K (.type "int") (dunderR op.info.2)).isSome = true) (hsub : PySem.W.subIn X.K (.type "int") (.ref C) = some false)
    (hr : Room j X.A) (hk : k ≤ j) : OpR X (binaryOp op) (rOwnI C sp) := by
  intro pins s σ H x y v u Q I rx ry h
  obtain ⟨a, dx, fs, i, rfl, rfl, ha, q⟩ := h
  cases rx
  obtain ⟨t, rfl⟩ := (show ∃ t, u = Value.int i t from ry)
  obtain ⟨f, fd, ps, hs, hf, F, B⟩ := c.ex
  obtain ⟨g, hg⟩ := c.rf
  obtain ⟨fo, hfo⟩ := Option.isSome_iff_exists.mp hL
  obtain ⟨ro, hro⟩ := Option.isSome_iff_exists.mp hR
  obtain ⟨mA, O, _⟩ := ins_get I.hok ha
  obtain ⟨od, J, _⟩ := O.look
  obtain ⟨m, hF⟩ := I.fr
  exact PySem.W.ksp_binT hF I.ok.mod.kin J rfl c.sf hs hf hg (.inr ⟨g, rfl⟩) hfo hro hsub (wpAny_mono (call_own F B (hr.mono hk) rfl I (show Vals [V.ref a, V.int i] [Value.ref a, Value.int i t] from .cons rfl (.cons ⟨t, rfl⟩ .nil)) q) (fun v s' z => back_of z) fun _ _ e => e)
/-- x != y of two instances of the class at C, by the own == -/
def rOwnNe (C : Addr) (sp : Sp) : R2 := fun x y H Q => ∃ a dx fs b dy gs, x = .ref a ∧ y = .ref b ∧ H a = some (.ins C dx fs) ∧ H b = some (.ins C dy gs) ∧ sp [x, y] H (fun v H' => ∃ c, v = .bl c ∧ Q (.bl (!c)) H') E0
theorem op_ownNe {f : Addr} {fd : FuncData} {ps : List Str} (F : FnOk X.prog X.w X.K X.mg X.base CX0 k f fd ps sp) (B : Binds X.K fd ps []) (hs : PySem.W.findIn X.K (.ref C) "__eq__" = some (some (.ref f))) (hf : PySem.W.isFn X.K (.ref f) = true)
    (hn : PySem.W.findIn X.K (.ref C) "__ne__" = some (some (.builtin "object.__ne__"))) (hm : PySem.W.mroIn X.K C (.type "object") = some true) (hr : Room j X.A) (hk : k + 1 ≤ j) : OpR X (compareOp .NotEq) (rOwnNe C sp) := by
  intro pins s σ H x y v u Q I rx ry h
  obtain ⟨a, dx, fs, b, dy, gs, rfl, rfl, ha, hb, q⟩ := h
  cases rx
  cases ry
  obtain ⟨mA, O, _⟩ := ins_get I.hok ha
  obtain ⟨od, J, _⟩ := O.look
  obtain ⟨mB, O', _⟩ := ins_get I.hok hb
  obtain ⟨od', J', _⟩ := O'.look
  have r1 := hr.mono hk
  refine PySem.W.cmp_ofNotEq (own_ne (by have := r1.un; omega) I.kIn J J' hm hn hs hf (wpAny_mono (call_own F B r1.in1 rfl I (show Vals [V.ref a, V.ref b] [Value.ref a, Value.ref b] from .cons rfl (.cons rfl .nil)) q) (fun v s' z => ?_) fun _ _ e => e))
  obtain ⟨z, H', I', rz, c, rfl, q⟩ := z
  cases rz
  exact ⟨c, rfl, .bl (!c), H', I', rfl, q⟩
/-! // by any divisor but 0 -/
def CDivS (_ j : Int) : Prop := j ≠ 0 ∧ j.natAbs.log2 < 9000
theorem op_fdivS : OpR X (binaryOp .FloorDiv) (rI CDivS fun i j => .int (i.fdiv j)) := opI fun i j _ _ _ _ _ hc q => floordiv_int hc.1 q (.inl (PyProof.noPylong_of_log2 hc.2))
/-! calls -/
variable {x m : Str} {dvs : List V} {p pos apos kpos : Pos} {e o : Expr} {es : List Expr} {ta te : TE} {t : TA}
theorem pe_c0 (c : Cal X.prog X.w X.K X.mg X.base k x sp dvs) (hr : Room j X.A) (hk : k ≤ j) (hg : Gl X x) (hdb : (x == ("__debug__" : Str)) = false := by decide) : PE X (.Call (.Name x p) [] [] pos) (tCall sp dvs E0 tNil) := by
  obtain ⟨f, fd, ps, ds, F, hm, kp, b, d⟩ := c.ex
  exact pe_call0 F (hr.mono hk) hg hm kp b d pass0 hdb
/-- f(n=e) -/
theorem pe_kw1 {f : Addr} {fd : FuncData} {n : Str} (F : FnOk X.prog X.w X.K X.mg X.base CX0 k f fd [n] sp) (hm : X.mg x = some (.ref f)) (kp : PySem.W.keepIn X.K (.ref f) = true) (hb : ∀ (s : Shared) (u : Value), BindsTo s fd ⟨[], [(n, u)]⟩ [(n, u)])
    (hr : Room j X.A) (hk : k ≤ j) (hg : Gl X x) (he : PE X e te) (hdb : (x == ("__debug__" : Str)) = false := by decide) : PE X (.Call (.Name x p) [] [⟨some n, e, kpos⟩] pos) (tCall sp [] E0 (tCons te tNil)) := by
  refine ⟨fun pins s σ H Q I h => ?_⟩
  refine wpAny_Call_Name_kw (ld_glob I hg hm ?_ hdb)
  refine PySem.W.callWith_KW0 (h₀ := X.base) I.ok.mod.kin kp rfl (thn ((pk_cons (nm := some n) (kpos := kpos) he pk_nil).run pos pins s σ H _ I h) fun us s1 ⟨vs, H1, I1, r, q⟩ => ⟨I1.kIn, ?_⟩) rfl
  have q : sp (vs ++ []) H1 Q E0 := q
  rw [List.append_nil] at q
  have hl : vs.length = 1 := F.len _ _ _ _ q
  obtain ⟨u, rfl⟩ : ∃ u, us = [u] := by
    have e := r.length
    rw [hl] at e
    match us, e with
    | [u], _ => exact ⟨u, rfl⟩
  refine wpAny_call (codeAny_mono (F.run X.A X.stack s1 H1 ⟨[], [(n, u)]⟩ [u] vs Q E0 (hr.mono hk) I1.env0 (hb s1 u) r q) fun r s' hq => ?_)
  cases r with
  | error e => exact pass0 pins σ H1 s1 e s' I1 hq
  | ok fl =>
    cases fl with
    | ret w => exact I1.after hq
    | next => exact False.elim hq
    | brk => exact False.elim hq
    | cont => exact False.elim hq
end
/-! readings -/
section
variable {mu : Mu} {σ : L2.St} {G G' H : Hp} {ta tb te : TE} {P P1 P2 : Prd} {K : PySem.W.Frag} {C D : Addr} {R : Rq}
/-- the value is an instance of the class at C, known -/
def IsI (C : Addr) (v : V) (G : Hp) : Prop := ∃ a dx fs, v = .ref a ∧ G a = some (.ins C dx fs)
theorem evp_own [m : Mono P1] (ha : EvP mu ta σ G P1) (hb : EvP mu tb σ G P2) (h1 : ∀ v G, P1 v G → IsI C v G) (h2 : ∀ v G, P2 v G → IsI D v G) (hR : ∀ x y G1, Ex G G1 → P1 x G1 → P2 y G1 → R mu [x, y] G1 P) : EvP mu (tOp (rOwn C D (spP R)) ta tb) σ G P :=
  evp_op ha hb fun x y G1 e p1 p2 H hA Q q => by
    obtain ⟨a, dx, fs, e1, ga⟩ := h1 x G1 p1
    obtain ⟨b, dy, gs, e2, gb⟩ := h2 y G1 p2
    exact ⟨a, dx, fs, b, dy, gs, e1, e2, hA.ex _ _ ga, hA.ex _ _ gb, mu, G1, P, hA, hR x y G1 e p1 p2, q⟩
theorem evp_ownI [m : Mono P1] {i : Int} (ha : EvP mu ta σ G P1) (hb : EvP mu tb σ G (TZ i)) (h1 : ∀ v G, P1 v G → IsI C v G) (hR : ∀ x G1, Ex G G1 → P1 x G1 → R mu [x, .int i] G1 P) : EvP mu (tOp (rOwnI C (spP R)) ta tb) σ G P :=
  evp_op ha hb fun x y G1 e p1 p2 H hA Q q => by
    obtain ⟨a, dx, fs, e1, ga⟩ := h1 x G1 p1
    have e2 : y = .int i := p2
    subst e2
    exact ⟨a, dx, fs, i, e1, rfl, hA.ex _ _ ga, mu, G1, P, hA, hR x G1 e p1, q⟩
theorem evp_ownNe [m : Mono P1] {b : Bool} (ha : EvP mu ta σ G P1) (hb : EvP mu tb σ G P2) (h1 : ∀ v G, P1 v G → IsI C v G) (h2 : ∀ v G, P2 v G → IsI C v G) (hR : ∀ x y G1, Ex G G1 → P1 x G1 → P2 y G1 → R mu [x, y] G1 (TB b)) : EvP mu (tOp (rOwnNe C (spP R)) ta tb) σ G (TB (!b)) :=
  evp_op ha hb fun x y G1 e p1 p2 H hA Q q => by
    obtain ⟨a, dx, fs, e1, ga⟩ := h1 x G1 p1
    obtain ⟨c, dy, gs, e2, gb⟩ := h2 y G1 p2
    refine ⟨a, dx, fs, c, dy, gs, e1, e2, hA.ex _ _ ga, hA.ex _ _ gb, mu, G1, TB b, hA, hR x y G1 e p1 p2, fun v G' H' s p => ⟨b, p, q _ G' H' s rfl⟩⟩
end
end N640

set_option Elab.async false
set_option linter.all false
set_option maxRecDepth 100000
set_option maxHeartbeats 4000000
/-! What the derivations lean on. -/
namespace N640
open PySem PySem.Spec PyProof.Rows L2
/-- the written part and the module's names -/
structure Cxt (K : PySem.W.Frag) (mg : Str → Option Value) : Prop where
  T : Tx K
  g : ∀ (x : Str) (r : Option Value), PySem.W.nsIn K mainGlobals x = some r → mg x = r
theorem Cxt.r {K : PySem.W.Frag} {mg : Str → Option Value} (C : Cxt K mg) {x : Str} {a : Addr} (h : bGlo K x a = true) : mg x = some (.ref a) := C.g _ _ (He.eqO_ok h)
theorem Cxt.n {K : PySem.W.Frag} {mg : Str → Option Value} (C : Cxt K mg) {x : Str} (h : bFree K x = true) : mg x = none := C.g _ _ (He.eqO_ok h)
theorem Cxt.gcd {K : PySem.W.Frag} {mg : Str → Option Value} (C : Cxt K mg) : mg "gcd" = some (.builtin "math.gcd") := C.g _ _ (He.eqO_ok C.T.gcdB)
/-! readings of the built-in operators by name -/
abbrev rAddI : R2 := rI0 fun i j => .int (i + j)
abbrev rSubI : R2 := rI0 fun i j => .int (i - j)
abbrev rMulW : R2 := rI CMulW fun i j => .int (i * j)
abbrev rFdivW : R2 := rI CDivW fun i j => .int (i / j)
abbrev rFdivS : R2 := rI CDivS fun i j => .int (i.fdiv j)
abbrev rModI : R2 := rI (fun _ j => 0 < j) fun i j => .int (i % j)
abbrev rPowI : R2 := rI CPow fun i j => .int (i ^ j.toNat)
abbrev rNeg : V → Hp → VK → Prop := rU fun i => .int (-i)
abbrev rLtI : R2 := rI0 fun i j => .bl (decide (i < j))
abbrev rLeI : R2 := rI0 fun i j => .bl (decide (i ≤ j))
abbrev rGtI : R2 := rI0 fun i j => .bl (decide (j < i))
abbrev rGeI : R2 := rI0 fun i j => .bl (decide (j ≤ i))
abbrev rIsN : R2 := fun x y H Q => y = .non ∧ Q (.bl (decide (x = .non))) H
abbrev rNotNn : R2 := fun x y H Q => y = .non ∧ Q (.bl (!decide (x = .non))) H
abbrev rAbs1 : List V → Hp → VK → Prop := fun xs H Q => ∃ i, xs = [.int i] ∧ Q (.int (if i < 0 then -i else i)) H
abbrev rMax2 : List V → Hp → VK → Prop := fun xs H Q => ∃ i j, xs = [.int i, .int j] ∧ Q (.int (if j > i then j else i)) H
abbrev rMin2 : List V → Hp → VK → Prop := fun xs H Q => ∃ i j, xs = [.int i, .int j] ∧ Q (.int (if j < i then j else i)) H
abbrev rInt1 : List V → Hp → VK → Prop := fun xs H Q => (∃ i, xs = [.int i] ∧ Q (.int i) H) ∨ ∃ k, xs = [.bl k] ∧ Q (.int (if k then 1 else 0)) H
abbrev rDivmod : List V → Hp → VK → Prop := fun xs H Q => ∃ i j, xs = [.int i, .int j] ∧ CDivP i j ∧ ∀ p, H p = none → Q (.ref p) (upd H p (.tup [.int (i / j), .int (i % j)]))
section
variable {X : Cx} {k j : Nat} {C : Addr} {f n x : Str} {sp : Sp} {p pos apos cpos kpos : Pos} {e o : Expr} {es : List Expr} {ta te to : TE} {t : TA}
/-- a property with its promise -/
structure Prp (P : Program) (w : World) (K : PySem.W.Frag) (mg : Str → Option Value) (base : Heap) (k : Nat) (C : Addr) (f : Str) (sp : Sp) : Prop where
  ex : ∃ (q g : Addr) (fd : FuncData) (ps : List Str), Cls K C ∧ PropOf K C f q g ∧ FnOk P w K mg base CX0 k g fd ps sp ∧ Binds K fd ps []
theorem pe_pr (c : Prp X.prog X.w X.K X.mg X.base k C f sp) (hr : Room j X.A) (hk : k + 1 ≤ j) (he : PE X e ta) (hab : attributeBase e f X.env (eval e X.env) = eval e X.env) : PE X (.Attribute e f pos) (tProp C sp [] E0 ta) := by
  obtain ⟨q, g, fd, ps, c1, c2, F, B⟩ := c.ex
  exact pe_prop he c1 c2 F (hr.mono hk) B .nil pass0 hab
/-- an own == with its promise, for != -/
structure NeB (P : Program) (w : World) (K : PySem.W.Frag) (mg : Str → Option Value) (base : Heap) (k : Nat) (C : Addr) (sp : Sp) : Prop where
  ex : ∃ (f : Addr) (fd : FuncData) (ps : List Str), FnOk P w K mg base CX0 k f fd ps sp ∧ Binds K fd ps [] ∧ PySem.W.findIn K (.ref C) "__eq__" = some (some (.ref f)) ∧ PySem.W.isFn K (.ref f) = true ∧
    PySem.W.findIn K (.ref C) "__ne__" = some (some (.builtin "object.__ne__")) ∧ PySem.W.mroIn K C (.type "object") = some true
theorem op_neB (c : NeB X.prog X.w X.K X.mg X.base k C sp) (hr : Room j X.A) (hk : k + 1 ≤ j) : OpR X (compareOp .NotEq) (rOwnNe C sp) := by
  obtain ⟨f, fd, ps, F, B, h1, h2, h3, h4⟩ := c.ex
  exact op_ownNe F B h1 h2 h3 h4 hr hk
/-- a def of one parameter, called by its keyword -/
structure KwB (P : Program) (w : World) (K : PySem.W.Frag) (mg : Str → Option Value) (base : Heap) (k : Nat) (x n : Str) (sp : Sp) : Prop where
  ex : ∃ (f : Addr) (fd : FuncData), FnOk P w K mg base CX0 k f fd [n] sp ∧ mg x = some (.ref f) ∧ PySem.W.keepIn K (.ref f) = true ∧ ∀ (s : Shared) (u : Value), BindsTo s fd ⟨[], [(n, u)]⟩ [(n, u)]
theorem pe_kwB (c : KwB X.prog X.w X.K X.mg X.base k x n sp) (hr : Room j X.A) (hk : k ≤ j) (hg : Gl X x) (he : PE X e te) (hdb : (x == ("__debug__" : Str)) = false := by decide) : PE X (.Call (.Name x p) [] [⟨some n, e, kpos⟩] pos) (tCall sp [] E0 (tCons te tNil)) := by
  obtain ⟨f, fd, F, hm, kp, hb⟩ := c.ex
  exact pe_kw1 F hm kp hb hr hk hg he hdb
/-- a module's int -/
theorem pe_int_glob {i : Int} (h : ∃ t, X.mg x = some (.int i t)) (hg : Gl X x) (hd : (x == ("__debug__" : Str)) = false := by decide) : PE X (.Name x pos) (tC (.int i)) := by
  obtain ⟨t, ht⟩ := h
  exact pe_glob hg ht ⟨t, rfl⟩ hd
/-! calls that know what guards stand -/
structure CalG (P : Program) (w : World) (K : PySem.W.Frag) (mg : Str → Option Value) (base : Heap) (k : Nat) (x : Str) (sp : Sp) : Prop where
  ex : ∃ (f : Addr) (fd : FuncData) (ps : List Str), (∀ vs H Q E, sp vs H Q E → vs.length = ps.length) ∧ (∀ (A : Around) (outer : List Env) (s : Shared) (H : Hp) (args : Args) (us : List Value) (vs : List V) (Q : VK) (E : XK), A.guards = some [] → Room k A → Env0 P w K mg base A outer s H →
      BindsTo s fd args (ps.zip us) → Vals vs us → sp vs H Q E → codeAny (model P w) A (.call (.ref f) args) (L2.CR CX0 outer P w H s Q E) s) ∧ mg x = some (.ref f) ∧ PySem.W.keepIn K (.ref f) = true ∧ Binds K fd ps []
theorem pe_cG (c : CalG X.prog X.w X.K X.mg X.base k x sp) (hgd : X.A.guards = some []) (hr : Room j X.A) (hk : k ≤ j) (hg : Gl X x) (ha : PA X (e :: es) t)
    (hdb : (x == ("__debug__" : Str)) = false := by decide) (he : starEach (e :: es) X.env = (false, eval e X.env) :: starEach es X.env := by rfl) (hpl : (backTo pos (starEach es X.env)).any (·.1) = false := by rfl) :
    PE X (.Call (.Name x p) (e :: es) [] pos) (tCall sp [] E0 t) := by
  obtain ⟨f, fd, ps, hl, F, hm, kp, hb⟩ := c.ex
  refine ⟨fun pins s σ H Q I h => wpAny_Call_Name_kw (ld_glob I hg hm ?_ hdb)⟩
  refine PySem.W.callWith_K (h₀ := X.base) I.ok.mod.kin kp (thn (ha.run pos pins s σ H _ I h) fun us s1 z => ?_) he hpl
  obtain ⟨vs, H1, I1, r, q⟩ := z
  have q : sp (vs ++ []) H1 Q E0 := q
  rw [List.append_nil] at q
  have hb1 := hb s1 us I1.kIn (by rw [List.append_nil, ← r.length]; exact hl _ _ _ _ q)
  rw [List.append_nil] at hb1
  refine ⟨I1.kIn, wpAny_call (codeAny_mono (F X.A X.stack s1 H1 ⟨us, []⟩ us vs Q E0 hgd (hr.mono hk) I1.env0 hb1 r q) fun r s' hq => ?_)⟩
  cases r with
  | error e => exact pass0 pins σ H1 s1 e s' I1 hq
  | ok fl =>
    cases fl with
    | ret w => exact I1.after hq
    | next => exact False.elim hq
    | brk => exact False.elim hq
    | cont => exact False.elim hq
/-- repr of a list of plain data -/
def rReprL (K : PySem.W.Frag) : List V → Hp → VK → Prop := fun xs H Q => ∃ (a : Addr) (d : PyData), xs = [.ref a] ∧ Dp K H (.ref a) d ∧ d.showable = true ∧ d.hasDict = false ∧ d.depth ≤ 40 ∧ d.shown.length ≤ sizeLine ∧ Q (.str d.shown) H
theorem call_reprL (hgd : X.A.guards = some []) (hu : X.A.units + 64 < cLine) : CallR X (.builtin "repr") (rReprL X.K) := by
  intro pins s σ H xs us Q I r h
  obtain ⟨a, d, rfl, D, h1, h2, h3, h4, q⟩ := h
  obtain ⟨u, rfl, ru⟩ := vals1 r
  obtain rfl : u = Value.ref a := ru
  obtain ⟨as, z⟩ := Dp.reads I d _ _ D rfl
  exact repr_of_reads' z h1 (fun e => by rw [h2] at e; cases e) hgd (by omega) (fun b o e => e) (fun h' u tk k => ⟨.str d.shown, H, I.kept (t' := tk) k, ⟨u, rfl⟩, q⟩) h4
theorem pe_app (ho : PE X o to) (ha : PE X e te) (hbase : attributeBase o "append" X.env (eval o X.env) = eval o X.env := by rfl)
    (hfew : ((backTo cpos (starEach [e] X.env)).all (fun x => !x.1) && (backToKw cpos (keywordEach [] X.env)).all (fun x => x.1.isSome) && decide (([e] : List Expr).length + ([] : List Keyword).length + (if ([] : List Keyword).isEmpty then 0 else 1) < 30)) = true := by rfl)
    (hline : (apos.endLine == cpos.line) = true := by rfl) (hs : starEach [e] X.env = (false, eval e X.env) :: starEach [] X.env := by rfl) : PE X (.Call (.Attribute o "append" apos) [e] [] cpos) (tBM X.K "list" rAppend to (tCons te tNil)) :=
  pe_bm PySem.F.plainAttrs_list PySem.F.slot_list_append PySem.F.type_list_append mt_append ho (pa_cons ha pa_nil hs) hbase hfew hline hs rfl
theorem pe_ext (ho : PE X o to) (ha : PE X e te) (hbase : attributeBase o "extend" X.env (eval o X.env) = eval o X.env := by rfl)
    (hfew : ((backTo cpos (starEach [e] X.env)).all (fun x => !x.1) && (backToKw cpos (keywordEach [] X.env)).all (fun x => x.1.isSome) && decide (([e] : List Expr).length + ([] : List Keyword).length + (if ([] : List Keyword).isEmpty then 0 else 1) < 30)) = true := by rfl)
    (hline : (apos.endLine == cpos.line) = true := by rfl) (hs : starEach [e] X.env = (false, eval e X.env) :: starEach [] X.env := by rfl) : PE X (.Call (.Attribute o "extend" apos) [e] [] cpos) (tBM X.K "list" rExtend to (tCons te tNil)) :=
  pe_bm PySem.F.plainAttrs_list PySem.F.slot_list_extend PySem.F.type_list_extend mt_extend ho (pa_cons ha pa_nil hs) hbase hfew hline hs rfl
end
theorem Cxt.most {K : PySem.W.Frag} {mg : Str → Option Value} (C : Cxt K mg) : ∃ t, mg "MOST_ROWS" = some (.int 8 t) := by
  have h : (match PySem.W.nsIn K mainGlobals "MOST_ROWS" with
    | some (some (.int j _)) => decide (j = 8)
    | _ => false) = true := C.T.most
  cases e : PySem.W.nsIn K mainGlobals "MOST_ROWS" with
  | none => rw [e] at h; cases h
  | some r =>
    rw [e] at h
    cases r with
    | none => cases h
    | some v =>
      cases v with
      | int i t =>
        have ei : i = 8 := of_decide_eq_true h
        exact ⟨t, by rw [C.g _ _ e, ei]⟩
      | _ => cases h
theorem cxt_of {K : PySem.W.Frag} {mg : Str → Option Value} {h : Heap} (X : K.In h) (G : h.Ns mainGlobals mg) (T : Tx K) : Cxt K mg := ⟨T, fun x r e => by
  cases r with
  | none => exact PySem.W.mg_none_of X G e
  | some u => exact PySem.W.mg_of X G e⟩
end N640

set_option Elab.async false
set_option linter.all false
set_option maxRecDepth 100000
set_option maxHeartbeats 4000000
/-! Derivations (printed by gen_der.py). -/
namespace N640
open PySem PySem.Spec PyProof.Rows L2
variable {P : Program} {w : World} {K : PySem.W.Frag} {mg : Str → Option Value} {base : Heap} {j : Nat}
abbrev n_is_integer : List Str := ["value"]
abbrev p_is_integer : List Str := ["value"]
theorem sc_is_integer : FnScope n_is_integer p_is_integer (defScope d_is_integer.st) := ⟨rfl, rfl, rfl, by decide +kernel, rfl, by decide +kernel, by decide +kernel⟩
def t_is_integer (K : PySem.W.Frag) : TS := (tRet (tAndV (tCB (rIsi K) (tCons (tVar 0) (tCons (tC (.ty "int")) tNil))) (tNotV (tCB (rIsi K) (tCons (tVar 0) (tCons (tC (.ty "bool")) tNil))))))
theorem der_is_integer (C : Cxt K mg) (cdv : Value) (A : Around) (outer : List Env) (s : Shared) (H : Hp) (E : XK) (hr : Room (j + 1) (A.deeper (envOfC d_is_integer.ql (defScope d_is_integer.st) s.heap.objs.size d_is_integer.ad cdv))) :
    PSs (cxOf CX0 P w K mg base n_is_integer d_is_integer.ql (defScope d_is_integer.st) d_is_integer.ad cdv A outer s H E).nox (defBody d_is_integer.st) (t_is_integer K) := by
  have nd : (n_is_integer).Nodup := by decide
  exact (pss_one (ps_ret (pe_and (pe_callB call_isi rfl (C.n C.T.f_isinstance) PyProof.Rows.boot_isinstance (pa_cons (pe_var (i := 0) rfl (.inl rfl)) (pa_cons (pe_bltn (v := .ty "int") (u := .type "int") rfl (C.n C.T.f_int) PyProof.Rows.boot_int rfl) pa_nil))) (pe_one (pe_not (pe_callB call_isi rfl (C.n C.T.f_isinstance) PyProof.Rows.boot_isinstance (pa_cons (pe_var (i := 0) rfl (.inl rfl)) (pa_cons (pe_bltn (v := .ty "bool") (u := .type "bool") rfl (C.n C.T.f_bool) PyProof.Rows.boot_bool rfl) pa_nil))))))))
abbrev n_is_count : List Str := ["value"]
abbrev p_is_count : List Str := ["value"]
theorem sc_is_count : FnScope n_is_count p_is_count (defScope d_is_count.st) := ⟨rfl, rfl, rfl, by decide +kernel, rfl, by decide +kernel, by decide +kernel⟩
def t_is_count (K : PySem.W.Frag) (s_is_integer : Sp) : TS := (tRet (tAndV (tCall s_is_integer [] E0 (tCons (tVar 0) tNil)) (tOp rGeI (tVar 0) (tC (.int 0)))))
theorem der_is_count (C : Cxt K mg) {s_is_integer : Sp} (c_is_integer : C8.Cal P w K mg base j "is_integer" s_is_integer []) (cdv : Value) (A : Around) (outer : List Env) (s : Shared) (H : Hp) (E : XK) (hr : Room (j + 1) (A.deeper (envOfC d_is_count.ql (defScope d_is_count.st) s.heap.objs.size d_is_count.ad cdv))) :
    PSs (cxOf CX0 P w K mg base n_is_count d_is_count.ql (defScope d_is_count.st) d_is_count.ad cdv A outer s H E).nox (defBody d_is_count.st) (t_is_count K s_is_integer) := by
  have nd : (n_is_count).Nodup := by decide
  exact (pss_one (ps_ret (pe_and (C8.pe_c c_is_integer hr (Nat.le_succ _) rfl (pa_cons (pe_var (i := 0) rfl (.inl rfl)) pa_nil)) (pe_one (pe_cmpR op_ge (pe_var (i := 0) rfl (.inl rfl)) pe_int (by rfl))))))
abbrev n_is_list : List Str := ["value"]
abbrev p_is_list : List Str := ["value"]
theorem sc_is_list : FnScope n_is_list p_is_list (defScope d_is_list.st) := ⟨rfl, rfl, rfl, by decide +kernel, rfl, by decide +kernel, by decide +kernel⟩
def t_is_list (K : PySem.W.Frag) : TS := (tRet (tCB (rIsiT K) (tCons (tVar 0) (tCons (tTup (tCons (tC (.ty "list")) (tCons (tC (.ty "tuple")) tNil))) tNil))))
theorem der_is_list (C : Cxt K mg) (cdv : Value) (A : Around) (outer : List Env) (s : Shared) (H : Hp) (E : XK) (hr : Room (j + 1) (A.deeper (envOfC d_is_list.ql (defScope d_is_list.st) s.heap.objs.size d_is_list.ad cdv))) :
    PSs (cxOf CX0 P w K mg base n_is_list d_is_list.ql (defScope d_is_list.st) d_is_list.ad cdv A outer s H E).nox (defBody d_is_list.st) (t_is_list K) := by
  have nd : (n_is_list).Nodup := by decide
  exact (pss_one (ps_ret (pe_callB call_isiT rfl (C.n C.T.f_isinstance) PyProof.Rows.boot_isinstance (pa_cons (pe_var (i := 0) rfl (.inl rfl)) (pa_cons (pe_tup (pa_cons (pe_bltn (v := .ty "list") (u := .type "list") rfl (C.n C.T.f_list) PyProof.Rows.boot_list rfl) (pa_cons (pe_bltn (v := .ty "tuple") (u := .type "tuple") rfl (C.n C.T.f_tuple) PyProof.Rows.boot_tuple rfl) pa_nil))) pa_nil)))))
abbrev n_common_part : List Str := ["one", "other"]
abbrev p_common_part : List Str := ["one", "other"]
theorem sc_common_part : FnScope n_common_part p_common_part (defScope d_common_part.st) := ⟨rfl, rfl, rfl, by decide +kernel, rfl, by decide +kernel, by decide +kernel⟩
def t_common_part (K : PySem.W.Frag) : TS := (tRet (tCB rGcd (tCons (tVar 0) (tCons (tVar 1) tNil))))
theorem der_common_part (C : Cxt K mg) (cdv : Value) (A : Around) (outer : List Env) (s : Shared) (H : Hp) (E : XK) (hr : Room (j + 1) (A.deeper (envOfC d_common_part.ql (defScope d_common_part.st) s.heap.objs.size d_common_part.ad cdv))) :
    PSs (cxOf CX0 P w K mg base n_common_part d_common_part.ql (defScope d_common_part.st) d_common_part.ad cdv A outer s H E).nox (defBody d_common_part.st) (t_common_part K) := by
  have nd : (n_common_part).Nodup := by decide
  exact (pss_one (ps_ret (pe_callBfun cr_gcd rfl (C.gcd) (pa_cons (pe_var (i := 0) rfl (.inl rfl)) (pa_cons (pe_var (i := 1) rfl (.inl rfl)) pa_nil)))))
abbrev n_Ratio_init : List Str := ["self", "top", "bottom", "common_one"]
abbrev p_Ratio_init : List Str := ["self", "top", "bottom"]
theorem sc_Ratio_init : FnScope n_Ratio_init p_Ratio_init (defScope d_Ratio_init.st) := ⟨rfl, rfl, rfl, by decide +kernel, rfl, by decide +kernel, by decide +kernel⟩
def t_Ratio_init (K : PySem.W.Frag) (s_is_integer : Sp) (s_common_part : Sp) : TS := (tSeq (tIfS (tNot (tB (tCall s_is_integer [] E0 (tCons (tVar 1) tNil)))) tNever tNext) (tSeq (tIfS (tOr (tNot (tB (tCall s_is_integer [] E0 (tCons (tVar 2) tNil)))) (tTest (tOp rEq (tVar 2) (tC (.int 0))))) tNever tNext) (tSeq (tAsg (tCall s_common_part [] E0 (tCons (tVar 1) (tCons (tVar 2) tNil))) (gName 3)) (tSeq (tIfS (tTest (tOp rLtI (tVar 2) (tC (.int 0)))) (tAsg (tOp rSubI (tC (.int 0)) (tVar 3)) (gName 3)) tNext) (tSeq (sFld K (tVar 0) (tOp rFdivS (tVar 1) (tVar 3)) "own_top") (sFld K (tVar 0) (tOp rFdivS (tVar 2) (tVar 3)) "own_bottom"))))))
theorem der_Ratio_init (C : Cxt K mg) {s_is_integer : Sp} {s_common_part : Sp} (c_is_integer : C8.Cal P w K mg base j "is_integer" s_is_integer []) (c_common_part : C8.Cal P w K mg base j "common_part" s_common_part []) (cdv : Value) (A : Around) (outer : List Env) (s : Shared) (H : Hp) (E : XK) (hr : Room (j + 1) (A.deeper (envOfC d_Ratio_init.ql (defScope d_Ratio_init.st) s.heap.objs.size d_Ratio_init.ad cdv))) :
    PSs (cxOf CX0 P w K mg base n_Ratio_init d_Ratio_init.ql (defScope d_Ratio_init.st) d_Ratio_init.ad cdv A outer s H E).nox (defBody d_Ratio_init.st) (t_Ratio_init K s_is_integer s_common_part) := by
  have nd : (n_Ratio_init).Nodup := by decide
  exact (pss_cons (ps_if (pt_not (pt_val (C8.pe_c c_is_integer hr (Nat.le_succ _) rfl (pa_cons (pe_var (i := 1) rfl (.inl rfl)) pa_nil)))) (pss_one ps_never) pss_nil) (pss_cons (ps_if (PW.pt (pw_or (pt_not (pt_val (C8.pe_c c_is_integer hr (Nat.le_succ _) rfl (pa_cons (pe_var (i := 2) rfl (.inl rfl)) pa_nil)))) (pw_or1 (pt_cmpR op_eq (pe_var (i := 2) rfl (.inl rfl)) pe_int (by rfl))))) (pss_one ps_never) pss_nil) (pss_cons (ps_set (i := 3) nd rfl (.inl rfl) (C8.pe_c c_common_part hr (Nat.le_succ _) rfl (pa_cons (pe_var (i := 1) rfl (.inl rfl)) (pa_cons (pe_var (i := 2) rfl (.inl rfl)) pa_nil))) rfl (.inr rfl)) (pss_cons (ps_if (pt_cmpR op_lt (pe_var (i := 2) rfl (.inl rfl)) pe_int (by rfl)) (pss_one (ps_set (i := 3) nd rfl (.inl rfl) (pe_op op_sub pe_int (pe_var (i := 3) rfl (.inl rfl))) rfl (.inr rfl))) pss_nil) (pss_cons (ps_fld (pe_var (i := 0) rfl (.inl rfl)) (pe_op op_fdivS (pe_var (i := 1) rfl (.inl rfl)) (pe_var (i := 3) rfl (.inl rfl))) rfl) (pss_one (ps_fld (pe_var (i := 0) rfl (.inl rfl)) (pe_op op_fdivS (pe_var (i := 2) rfl (.inl rfl)) (pe_var (i := 3) rfl (.inl rfl))) rfl)))))))
abbrev n_Ratio_sign : List Str := ["self"]
abbrev p_Ratio_sign : List Str := ["self"]
theorem sc_Ratio_sign : FnScope n_Ratio_sign p_Ratio_sign (defScope d_Ratio_sign.st) := ⟨rfl, rfl, rfl, by decide +kernel, rfl, by decide +kernel, by decide +kernel⟩
def t_Ratio_sign (K : PySem.W.Frag) : TS := (tRet (tOp rSubI (tCB (rInt1) (tCons (tOp rGtI (tFld K (tVar 0) "own_top") (tC (.int 0))) tNil)) (tCB (rInt1) (tCons (tOp rLtI (tFld K (tVar 0) "own_top") (tC (.int 0))) tNil))))
theorem der_Ratio_sign (C : Cxt K mg) (cdv : Value) (A : Around) (outer : List Env) (s : Shared) (H : Hp) (E : XK) (hr : Room (j + 1) (A.deeper (envOfC d_Ratio_sign.ql (defScope d_Ratio_sign.st) s.heap.objs.size d_Ratio_sign.ad cdv))) :
    PSs (cxOf CX0 P w K mg base n_Ratio_sign d_Ratio_sign.ql (defScope d_Ratio_sign.st) d_Ratio_sign.ad cdv A outer s H E).nox (defBody d_Ratio_sign.st) (t_Ratio_sign K) := by
  have nd : (n_Ratio_sign).Nodup := by decide
  exact (pss_one (ps_ret (pe_op op_sub (pe_callTy call_int1 rfl (C.n C.T.f_int) PyProof.Rows.boot_int (pa_cons (pe_cmpR op_gt (pe_fld (pe_var (i := 0) rfl (.inl rfl)) rfl) pe_int (by rfl)) pa_nil)) (pe_callTy call_int1 rfl (C.n C.T.f_int) PyProof.Rows.boot_int (pa_cons (pe_cmpR op_lt (pe_fld (pe_var (i := 0) rfl (.inl rfl)) rfl) pe_int (by rfl)) pa_nil)))))
abbrev n_Ratio_add : List Str := ["self", "other", "top", "bottom"]
abbrev p_Ratio_add : List Str := ["self", "other"]
theorem sc_Ratio_add : FnScope n_Ratio_add p_Ratio_add (defScope d_Ratio_add.st) := ⟨rfl, rfl, rfl, by decide +kernel, rfl, by decide +kernel, by decide +kernel⟩
def t_Ratio_add (K : PySem.W.Frag) (s_told_pair : Sp) (s_mk_Ratio : Sp) : TS := (tSeq (tAsg (tCall s_told_pair [] E0 (tCons (tVar 1) tNil)) (gTup K 2 (gCons (gName 2) (gCons (gName 3) gNil)))) (tRet (tMake CR s_mk_Ratio [] E0 (tCons (tOp rAddI (tOp rMulW (tFld K (tVar 0) "own_top") (tVar 3)) (tOp rMulW (tVar 2) (tFld K (tVar 0) "own_bottom"))) (tCons (tOp rMulW (tFld K (tVar 0) "own_bottom") (tVar 3)) tNil)))))
theorem der_Ratio_add (C : Cxt K mg) {s_told_pair : Sp} {s_mk_Ratio : Sp} (c_told_pair : C8.Cal P w K mg base j "told_pair" s_told_pair []) (c_mk_Ratio_0 : C8.Mak P w K mg base j "Ratio" CR s_mk_Ratio []) (cdv : Value) (A : Around) (outer : List Env) (s : Shared) (H : Hp) (E : XK) (hr : Room (j + 1) (A.deeper (envOfC d_Ratio_add.ql (defScope d_Ratio_add.st) s.heap.objs.size d_Ratio_add.ad cdv))) :
    PSs (cxOf CX0 P w K mg base n_Ratio_add d_Ratio_add.ql (defScope d_Ratio_add.st) d_Ratio_add.ad cdv A outer s H E).nox (defBody d_Ratio_add.st) (t_Ratio_add K s_told_pair s_mk_Ratio) := by
  have nd : (n_Ratio_add).Nodup := by decide
  exact (pss_cons (ps_asg (C8.pe_c c_told_pair hr (Nat.le_succ _) rfl (pa_cons (pe_var (i := 1) rfl (.inl rfl)) pa_nil)) (pg_tup rfl (pgs_cons (pg_name (i := 2) nd rfl (.inl rfl) (.inr rfl)) (pgs_cons (pg_name (i := 3) nd rfl (.inl rfl) (.inr rfl)) pgs_nil)))) (pss_one (ps_ret (C8.pe_mk c_mk_Ratio_0 hr (Nat.le_refl _) rfl (pa_cons (pe_op op_add (pe_op op_mulW (pe_fld (pe_var (i := 0) rfl (.inl rfl)) rfl) (pe_var (i := 3) rfl (.inl rfl))) (pe_op op_mulW (pe_var (i := 2) rfl (.inl rfl)) (pe_fld (pe_var (i := 0) rfl (.inl rfl)) rfl))) (pa_cons (pe_op op_mulW (pe_fld (pe_var (i := 0) rfl (.inl rfl)) rfl) (pe_var (i := 3) rfl (.inl rfl))) pa_nil))))))
abbrev n_Ratio_mul : List Str := ["self", "other", "top", "bottom"]
abbrev p_Ratio_mul : List Str := ["self", "other"]
theorem sc_Ratio_mul : FnScope n_Ratio_mul p_Ratio_mul (defScope d_Ratio_mul.st) := ⟨rfl, rfl, rfl, by decide +kernel, rfl, by decide +kernel, by decide +kernel⟩
def t_Ratio_mul (K : PySem.W.Frag) (s_told_pair : Sp) (s_mk_Ratio : Sp) : TS := (tSeq (tAsg (tCall s_told_pair [] E0 (tCons (tVar 1) tNil)) (gTup K 2 (gCons (gName 2) (gCons (gName 3) gNil)))) (tRet (tMake CR s_mk_Ratio [] E0 (tCons (tOp rMulW (tFld K (tVar 0) "own_top") (tVar 2)) (tCons (tOp rMulW (tFld K (tVar 0) "own_bottom") (tVar 3)) tNil)))))
theorem der_Ratio_mul (C : Cxt K mg) {s_told_pair : Sp} {s_mk_Ratio : Sp} (c_told_pair : C8.Cal P w K mg base j "told_pair" s_told_pair []) (c_mk_Ratio_0 : C8.Mak P w K mg base j "Ratio" CR s_mk_Ratio []) (cdv : Value) (A : Around) (outer : List Env) (s : Shared) (H : Hp) (E : XK) (hr : Room (j + 1) (A.deeper (envOfC d_Ratio_mul.ql (defScope d_Ratio_mul.st) s.heap.objs.size d_Ratio_mul.ad cdv))) :
    PSs (cxOf CX0 P w K mg base n_Ratio_mul d_Ratio_mul.ql (defScope d_Ratio_mul.st) d_Ratio_mul.ad cdv A outer s H E).nox (defBody d_Ratio_mul.st) (t_Ratio_mul K s_told_pair s_mk_Ratio) := by
  have nd : (n_Ratio_mul).Nodup := by decide
  exact (pss_cons (ps_asg (C8.pe_c c_told_pair hr (Nat.le_succ _) rfl (pa_cons (pe_var (i := 1) rfl (.inl rfl)) pa_nil)) (pg_tup rfl (pgs_cons (pg_name (i := 2) nd rfl (.inl rfl) (.inr rfl)) (pgs_cons (pg_name (i := 3) nd rfl (.inl rfl) (.inr rfl)) pgs_nil)))) (pss_one (ps_ret (C8.pe_mk c_mk_Ratio_0 hr (Nat.le_refl _) rfl (pa_cons (pe_op op_mulW (pe_fld (pe_var (i := 0) rfl (.inl rfl)) rfl) (pe_var (i := 2) rfl (.inl rfl))) (pa_cons (pe_op op_mulW (pe_fld (pe_var (i := 0) rfl (.inl rfl)) rfl) (pe_var (i := 3) rfl (.inl rfl))) pa_nil))))))
abbrev n_Ratio_over : List Str := ["self", "ratio", "top", "bottom"]
abbrev p_Ratio_over : List Str := ["self", "ratio"]
theorem sc_Ratio_over : FnScope n_Ratio_over p_Ratio_over (defScope d_Ratio_over.st) := ⟨rfl, rfl, rfl, by decide +kernel, rfl, by decide +kernel, by decide +kernel⟩
def t_Ratio_over (K : PySem.W.Frag) (s_told_pair : Sp) (s_mk_Ratio : Sp) : TS := (tSeq (tAsg (tCall s_told_pair [] E0 (tCons (tVar 1) tNil)) (gTup K 2 (gCons (gName 2) (gCons (gName 3) gNil)))) (tSeq (tIfS (tTest (tOp rEq (tVar 2) (tC (.int 0)))) tNever tNext) (tRet (tMake CR s_mk_Ratio [] E0 (tCons (tOp rMulW (tFld K (tVar 0) "own_top") (tVar 3)) (tCons (tOp rMulW (tFld K (tVar 0) "own_bottom") (tVar 2)) tNil))))))
theorem der_Ratio_over (C : Cxt K mg) {s_told_pair : Sp} {s_mk_Ratio : Sp} (c_told_pair : C8.Cal P w K mg base j "told_pair" s_told_pair []) (c_mk_Ratio_0 : C8.Mak P w K mg base j "Ratio" CR s_mk_Ratio []) (cdv : Value) (A : Around) (outer : List Env) (s : Shared) (H : Hp) (E : XK) (hr : Room (j + 1) (A.deeper (envOfC d_Ratio_over.ql (defScope d_Ratio_over.st) s.heap.objs.size d_Ratio_over.ad cdv))) :
    PSs (cxOf CX0 P w K mg base n_Ratio_over d_Ratio_over.ql (defScope d_Ratio_over.st) d_Ratio_over.ad cdv A outer s H E).nox (defBody d_Ratio_over.st) (t_Ratio_over K s_told_pair s_mk_Ratio) := by
  have nd : (n_Ratio_over).Nodup := by decide
  exact (pss_cons (ps_asg (C8.pe_c c_told_pair hr (Nat.le_succ _) rfl (pa_cons (pe_var (i := 1) rfl (.inl rfl)) pa_nil)) (pg_tup rfl (pgs_cons (pg_name (i := 2) nd rfl (.inl rfl) (.inr rfl)) (pgs_cons (pg_name (i := 3) nd rfl (.inl rfl) (.inr rfl)) pgs_nil)))) (pss_cons (ps_if (pt_cmpR op_eq (pe_var (i := 2) rfl (.inl rfl)) pe_int (by rfl)) (pss_one ps_never) pss_nil) (pss_one (ps_ret (C8.pe_mk c_mk_Ratio_0 hr (Nat.le_refl _) rfl (pa_cons (pe_op op_mulW (pe_fld (pe_var (i := 0) rfl (.inl rfl)) rfl) (pe_var (i := 3) rfl (.inl rfl))) (pa_cons (pe_op op_mulW (pe_fld (pe_var (i := 0) rfl (.inl rfl)) rfl) (pe_var (i := 2) rfl (.inl rfl))) pa_nil)))))))
abbrev n_Ratio_eq : List Str := ["self", "other"]
abbrev p_Ratio_eq : List Str := ["self", "other"]
theorem sc_Ratio_eq : FnScope n_Ratio_eq p_Ratio_eq (defScope d_Ratio_eq.st) := ⟨rfl, rfl, rfl, by decide +kernel, rfl, by decide +kernel, by decide +kernel⟩
def t_Ratio_eq (K : PySem.W.Frag) : TS := (tSeq (tIfS (tNot (tB (tCB (rIsi K) (tCons (tVar 1) (tCons (tC (.ref CR)) tNil))))) (tRet (tC (.bl false))) tNext) (tRet (tAndV (tOp rEq (tFld K (tVar 0) "own_top") (tFld K (tVar 1) "own_top")) (tOp rEq (tFld K (tVar 0) "own_bottom") (tFld K (tVar 1) "own_bottom")))))
theorem der_Ratio_eq (C : Cxt K mg) (cdv : Value) (A : Around) (outer : List Env) (s : Shared) (H : Hp) (E : XK) (hr : Room (j + 1) (A.deeper (envOfC d_Ratio_eq.ql (defScope d_Ratio_eq.st) s.heap.objs.size d_Ratio_eq.ad cdv))) :
    PSs (cxOf CX0 P w K mg base n_Ratio_eq d_Ratio_eq.ql (defScope d_Ratio_eq.st) d_Ratio_eq.ad cdv A outer s H E).nox (defBody d_Ratio_eq.st) (t_Ratio_eq K) := by
  have nd : (n_Ratio_eq).Nodup := by decide
  exact (pss_cons (ps_if (pt_not (pt_val (pe_callB call_isi rfl (C.n C.T.f_isinstance) PyProof.Rows.boot_isinstance (pa_cons (pe_var (i := 1) rfl (.inl rfl)) (pa_cons (pe_glob (v := .ref CR) rfl (C.r C.T.gloR) rfl) pa_nil))))) (pss_one (ps_ret pe_bl)) pss_nil) (pss_one (ps_ret (pe_and (pe_cmpR op_eq (pe_fld (pe_var (i := 0) rfl (.inl rfl)) rfl) (pe_fld (pe_var (i := 1) rfl (.inl rfl)) rfl) (by rfl)) (pe_one (pe_cmpR op_eq (pe_fld (pe_var (i := 0) rfl (.inl rfl)) rfl) (pe_fld (pe_var (i := 1) rfl (.inl rfl)) rfl) (by rfl)))))))
abbrev n_told_pair : List Str := ["value"]
abbrev p_told_pair : List Str := ["value"]
theorem sc_told_pair : FnScope n_told_pair p_told_pair (defScope d_told_pair.st) := ⟨rfl, rfl, rfl, by decide +kernel, rfl, by decide +kernel, by decide +kernel⟩
def t_told_pair (K : PySem.W.Frag) (s_is_integer : Sp) : TS := (tSeq (tIfS (tB (tCB (rIsi K) (tCons (tVar 0) (tCons (tC (.ref CR)) tNil)))) (tRet (tTup (tCons (tFld K (tVar 0) "own_top") (tCons (tFld K (tVar 0) "own_bottom") tNil)))) tNext) (tSeq (tIfS (tNot (tB (tCall s_is_integer [] E0 (tCons (tVar 0) tNil)))) tNever tNext) (tRet (tTup (tCons (tVar 0) (tCons (tC (.int 1)) tNil))))))
theorem der_told_pair (C : Cxt K mg) {s_is_integer : Sp} (c_is_integer : C8.Cal P w K mg base j "is_integer" s_is_integer []) (cdv : Value) (A : Around) (outer : List Env) (s : Shared) (H : Hp) (E : XK) (hr : Room (j + 1) (A.deeper (envOfC d_told_pair.ql (defScope d_told_pair.st) s.heap.objs.size d_told_pair.ad cdv))) :
    PSs (cxOf CX0 P w K mg base n_told_pair d_told_pair.ql (defScope d_told_pair.st) d_told_pair.ad cdv A outer s H E).nox (defBody d_told_pair.st) (t_told_pair K s_is_integer) := by
  have nd : (n_told_pair).Nodup := by decide
  exact (pss_cons (ps_if (pt_val (pe_callB call_isi rfl (C.n C.T.f_isinstance) PyProof.Rows.boot_isinstance (pa_cons (pe_var (i := 0) rfl (.inl rfl)) (pa_cons (pe_glob (v := .ref CR) rfl (C.r C.T.gloR) rfl) pa_nil)))) (pss_one (ps_ret (pe_tup (pa_cons (pe_fld (pe_var (i := 0) rfl (.inl rfl)) rfl) (pa_cons (pe_fld (pe_var (i := 0) rfl (.inl rfl)) rfl) pa_nil))))) pss_nil) (pss_cons (ps_if (pt_not (pt_val (C8.pe_c c_is_integer hr (Nat.le_succ _) rfl (pa_cons (pe_var (i := 0) rfl (.inl rfl)) pa_nil)))) (pss_one ps_never) pss_nil) (pss_one (ps_ret (pe_tup (pa_cons (pe_var (i := 0) rfl (.inl rfl)) (pa_cons pe_int pa_nil)))))))
abbrev n_Parts_init : List Str := ["self", "left", "right", "low"]
abbrev p_Parts_init : List Str := ["self", "left", "right", "low"]
theorem sc_Parts_init : FnScope n_Parts_init p_Parts_init (defScope d_Parts_init.st) := ⟨rfl, rfl, rfl, by decide +kernel, rfl, by decide +kernel, by decide +kernel⟩
def t_Parts_init (K : PySem.W.Frag) : TS := (tSeq (sFld K (tVar 0) (tVar 1) "own_left") (tSeq (sFld K (tVar 0) (tVar 2) "own_right") (sFld K (tVar 0) (tVar 3) "own_below")))
theorem der_Parts_init (C : Cxt K mg) (cdv : Value) (A : Around) (outer : List Env) (s : Shared) (H : Hp) (E : XK) (hr : Room (j + 1) (A.deeper (envOfC d_Parts_init.ql (defScope d_Parts_init.st) s.heap.objs.size d_Parts_init.ad cdv))) :
    PSs (cxOf CX0 P w K mg base n_Parts_init d_Parts_init.ql (defScope d_Parts_init.st) d_Parts_init.ad cdv A outer s H E).nox (defBody d_Parts_init.st) (t_Parts_init K) := by
  have nd : (n_Parts_init).Nodup := by decide
  exact (pss_cons (ps_fld (pe_var (i := 0) rfl (.inl rfl)) (pe_var (i := 1) rfl (.inl rfl)) rfl) (pss_cons (ps_fld (pe_var (i := 0) rfl (.inl rfl)) (pe_var (i := 2) rfl (.inl rfl)) rfl) (pss_one (ps_fld (pe_var (i := 0) rfl (.inl rfl)) (pe_var (i := 3) rfl (.inl rfl)) rfl))))
abbrev n_Twin_init : List Str := ["self", "plain", "side", "left", "right", "most", "shared_part"]
abbrev p_Twin_init : List Str := ["self", "plain", "side"]
theorem sc_Twin_init : FnScope n_Twin_init p_Twin_init (defScope d_Twin_init.st) := ⟨rfl, rfl, rfl, by decide +kernel, rfl, by decide +kernel, by decide +kernel⟩
def t_Twin_init (K : PySem.W.Frag) (s_handed_parts : Sp) (s_common_part : Sp) : TS := (tSeq (tAsg (tCall s_handed_parts [] E0 (tCons (tVar 1) (tCons (tVar 2) tNil))) (gTup K 3 (gCons (gName 3) (gCons (gName 4) (gCons (gName 5) gNil))))) (tSeq (tAsg (tCall s_common_part [] E0 (tCons (tCall s_common_part [] E0 (tCons (tVar 3) (tCons (tVar 5) tNil))) (tCons (tVar 4) tNil))) (gName 6)) (tSeq (sFld K (tVar 0) (tOp rFdivW (tVar 3) (tVar 6)) "own_plain") (tSeq (sFld K (tVar 0) (tOp rFdivW (tVar 4) (tVar 6)) "own_side") (sFld K (tVar 0) (tOp rFdivW (tVar 5) (tVar 6)) "own_low")))))
theorem der_Twin_init (C : Cxt K mg) {s_handed_parts : Sp} {s_common_part : Sp} (c_handed_parts : C8.Cal P w K mg base j "handed_parts" s_handed_parts []) (c_common_part : C8.Cal P w K mg base j "common_part" s_common_part []) (cdv : Value) (A : Around) (outer : List Env) (s : Shared) (H : Hp) (E : XK) (hr : Room (j + 1) (A.deeper (envOfC d_Twin_init.ql (defScope d_Twin_init.st) s.heap.objs.size d_Twin_init.ad cdv))) :
    PSs (cxOf CX0 P w K mg base n_Twin_init d_Twin_init.ql (defScope d_Twin_init.st) d_Twin_init.ad cdv A outer s H E).nox (defBody d_Twin_init.st) (t_Twin_init K s_handed_parts s_common_part) := by
  have nd : (n_Twin_init).Nodup := by decide
  exact (pss_cons (ps_asg (C8.pe_c c_handed_parts hr (Nat.le_succ _) rfl (pa_cons (pe_var (i := 1) rfl (.inl rfl)) (pa_cons (pe_var (i := 2) rfl (.inl rfl)) pa_nil))) (pg_tup rfl (pgs_cons (pg_name (i := 3) nd rfl (.inl rfl) (.inr rfl)) (pgs_cons (pg_name (i := 4) nd rfl (.inl rfl) (.inr rfl)) (pgs_cons (pg_name (i := 5) nd rfl (.inl rfl) (.inr rfl)) pgs_nil))))) (pss_cons (ps_set (i := 6) nd rfl (.inl rfl) (C8.pe_c c_common_part hr (Nat.le_succ _) rfl (pa_cons (C8.pe_c c_common_part hr (Nat.le_succ _) rfl (pa_cons (pe_var (i := 3) rfl (.inl rfl)) (pa_cons (pe_var (i := 5) rfl (.inl rfl)) pa_nil))) (pa_cons (pe_var (i := 4) rfl (.inl rfl)) pa_nil))) rfl (.inr rfl)) (pss_cons (ps_fld (pe_var (i := 0) rfl (.inl rfl)) (pe_op op_fdivW (pe_var (i := 3) rfl (.inl rfl)) (pe_var (i := 6) rfl (.inl rfl))) rfl) (pss_cons (ps_fld (pe_var (i := 0) rfl (.inl rfl)) (pe_op op_fdivW (pe_var (i := 4) rfl (.inl rfl)) (pe_var (i := 6) rfl (.inl rfl))) rfl) (pss_one (ps_fld (pe_var (i := 0) rfl (.inl rfl)) (pe_op op_fdivW (pe_var (i := 5) rfl (.inl rfl)) (pe_var (i := 6) rfl (.inl rfl))) rfl))))))
abbrev n_Twin_plain : List Str := ["self"]
abbrev p_Twin_plain : List Str := ["self"]
theorem sc_Twin_plain : FnScope n_Twin_plain p_Twin_plain (defScope d_Twin_plain.st) := ⟨rfl, rfl, rfl, by decide +kernel, rfl, by decide +kernel, by decide +kernel⟩
def t_Twin_plain (K : PySem.W.Frag) (s_mk_Ratio : Sp) : TS := (tRet (tMake CR s_mk_Ratio [] E0 (tCons (tFld K (tVar 0) "own_plain") (tCons (tFld K (tVar 0) "own_low") tNil))))
theorem der_Twin_plain (C : Cxt K mg) {s_mk_Ratio : Sp} (c_mk_Ratio_0 : C8.Mak P w K mg base j "Ratio" CR s_mk_Ratio []) (cdv : Value) (A : Around) (outer : List Env) (s : Shared) (H : Hp) (E : XK) (hr : Room (j + 1) (A.deeper (envOfC d_Twin_plain.ql (defScope d_Twin_plain.st) s.heap.objs.size d_Twin_plain.ad cdv))) :
    PSs (cxOf CX0 P w K mg base n_Twin_plain d_Twin_plain.ql (defScope d_Twin_plain.st) d_Twin_plain.ad cdv A outer s H E).nox (defBody d_Twin_plain.st) (t_Twin_plain K s_mk_Ratio) := by
  have nd : (n_Twin_plain).Nodup := by decide
  exact (pss_one (ps_ret (C8.pe_mk c_mk_Ratio_0 hr (Nat.le_refl _) rfl (pa_cons (pe_fld (pe_var (i := 0) rfl (.inl rfl)) rfl) (pa_cons (pe_fld (pe_var (i := 0) rfl (.inl rfl)) rfl) pa_nil)))))
abbrev n_Twin_is_nought : List Str := ["self"]
abbrev p_Twin_is_nought : List Str := ["self"]
theorem sc_Twin_is_nought : FnScope n_Twin_is_nought p_Twin_is_nought (defScope d_Twin_is_nought.st) := ⟨rfl, rfl, rfl, by decide +kernel, rfl, by decide +kernel, by decide +kernel⟩
def t_Twin_is_nought (K : PySem.W.Frag) : TS := (tRet (tAndV (tOp rEq (tFld K (tVar 0) "own_plain") (tC (.int 0))) (tOp rEq (tFld K (tVar 0) "own_side") (tC (.int 0)))))
theorem der_Twin_is_nought (C : Cxt K mg) (cdv : Value) (A : Around) (outer : List Env) (s : Shared) (H : Hp) (E : XK) (hr : Room (j + 1) (A.deeper (envOfC d_Twin_is_nought.ql (defScope d_Twin_is_nought.st) s.heap.objs.size d_Twin_is_nought.ad cdv))) :
    PSs (cxOf CX0 P w K mg base n_Twin_is_nought d_Twin_is_nought.ql (defScope d_Twin_is_nought.st) d_Twin_is_nought.ad cdv A outer s H E).nox (defBody d_Twin_is_nought.st) (t_Twin_is_nought K) := by
  have nd : (n_Twin_is_nought).Nodup := by decide
  exact (pss_one (ps_ret (pe_and (pe_cmpR op_eq (pe_fld (pe_var (i := 0) rfl (.inl rfl)) rfl) pe_int (by rfl)) (pe_one (pe_cmpR op_eq (pe_fld (pe_var (i := 0) rfl (.inl rfl)) rfl) pe_int (by rfl))))))
abbrev n_Twin_add : List Str := ["self", "other", "left", "right", "low", "plain_one", "side_one"]
abbrev p_Twin_add : List Str := ["self", "other"]
theorem sc_Twin_add : FnScope n_Twin_add p_Twin_add (defScope d_Twin_add.st) := ⟨rfl, rfl, rfl, by decide +kernel, rfl, by decide +kernel, by decide +kernel⟩
def t_Twin_add (K : PySem.W.Frag) (s_told_parts : Sp) (s_by_parts : Sp) : TS := (tSeq (tAsg (tCall s_told_parts [] E0 (tCons (tVar 1) tNil)) (gTup K 3 (gCons (gName 2) (gCons (gName 3) (gCons (gName 4) gNil))))) (tSeq (tPar 5 6 (tCons (tOp rAddI (tOp rMulW (tFld K (tVar 0) "own_plain") (tVar 4)) (tOp rMulW (tVar 2) (tFld K (tVar 0) "own_low"))) (tCons (tOp rAddI (tOp rMulW (tFld K (tVar 0) "own_side") (tVar 4)) (tOp rMulW (tVar 3) (tFld K (tVar 0) "own_low"))) tNil))) (tRet (tCall s_by_parts [] E0 (tCons (tVar 5) (tCons (tVar 6) (tCons (tOp rMulW (tFld K (tVar 0) "own_low") (tVar 4)) tNil)))))))
theorem der_Twin_add (C : Cxt K mg) {s_told_parts : Sp} {s_by_parts : Sp} (c_told_parts : C8.Cal P w K mg base j "told_parts" s_told_parts []) (c_by_parts : C8.Cal P w K mg base j "by_parts" s_by_parts []) (cdv : Value) (A : Around) (outer : List Env) (s : Shared) (H : Hp) (E : XK) (hr : Room (j + 1) (A.deeper (envOfC d_Twin_add.ql (defScope d_Twin_add.st) s.heap.objs.size d_Twin_add.ad cdv))) :
    PSs (cxOf CX0 P w K mg base n_Twin_add d_Twin_add.ql (defScope d_Twin_add.st) d_Twin_add.ad cdv A outer s H E).nox (defBody d_Twin_add.st) (t_Twin_add K s_told_parts s_by_parts) := by
  have nd : (n_Twin_add).Nodup := by decide
  exact (pss_cons (ps_asg (C8.pe_c c_told_parts hr (Nat.le_succ _) rfl (pa_cons (pe_var (i := 1) rfl (.inl rfl)) pa_nil)) (pg_tup rfl (pgs_cons (pg_name (i := 2) nd rfl (.inl rfl) (.inr rfl)) (pgs_cons (pg_name (i := 3) nd rfl (.inl rfl) (.inr rfl)) (pgs_cons (pg_name (i := 4) nd rfl (.inl rfl) (.inr rfl)) pgs_nil))))) (pss_cons (ps_par (i := 5) (j := 6) rfl nd rfl rfl (by decide) rfl rfl (pa_cons (pe_op op_add (pe_op op_mulW (pe_fld (pe_var (i := 0) rfl (.inl rfl)) rfl) (pe_var (i := 4) rfl (.inl rfl))) (pe_op op_mulW (pe_var (i := 2) rfl (.inl rfl)) (pe_fld (pe_var (i := 0) rfl (.inl rfl)) rfl))) (pa_cons (pe_op op_add (pe_op op_mulW (pe_fld (pe_var (i := 0) rfl (.inl rfl)) rfl) (pe_var (i := 4) rfl (.inl rfl))) (pe_op op_mulW (pe_var (i := 3) rfl (.inl rfl)) (pe_fld (pe_var (i := 0) rfl (.inl rfl)) rfl))) pa_nil)) rfl) (pss_one (ps_ret (C8.pe_c c_by_parts hr (Nat.le_succ _) rfl (pa_cons (pe_var (i := 5) rfl (.inl rfl)) (pa_cons (pe_var (i := 6) rfl (.inl rfl)) (pa_cons (pe_op op_mulW (pe_fld (pe_var (i := 0) rfl (.inl rfl)) rfl) (pe_var (i := 4) rfl (.inl rfl))) pa_nil))))))))
abbrev n_Twin_sub : List Str := ["self", "other", "left", "right", "low", "plain_one", "side_one"]
abbrev p_Twin_sub : List Str := ["self", "other"]
theorem sc_Twin_sub : FnScope n_Twin_sub p_Twin_sub (defScope d_Twin_sub.st) := ⟨rfl, rfl, rfl, by decide +kernel, rfl, by decide +kernel, by decide +kernel⟩
def t_Twin_sub (K : PySem.W.Frag) (s_told_parts : Sp) (s_by_parts : Sp) : TS := (tSeq (tAsg (tCall s_told_parts [] E0 (tCons (tVar 1) tNil)) (gTup K 3 (gCons (gName 2) (gCons (gName 3) (gCons (gName 4) gNil))))) (tSeq (tPar 5 6 (tCons (tOp rSubI (tOp rMulW (tFld K (tVar 0) "own_plain") (tVar 4)) (tOp rMulW (tVar 2) (tFld K (tVar 0) "own_low"))) (tCons (tOp rSubI (tOp rMulW (tFld K (tVar 0) "own_side") (tVar 4)) (tOp rMulW (tVar 3) (tFld K (tVar 0) "own_low"))) tNil))) (tRet (tCall s_by_parts [] E0 (tCons (tVar 5) (tCons (tVar 6) (tCons (tOp rMulW (tFld K (tVar 0) "own_low") (tVar 4)) tNil)))))))
theorem der_Twin_sub (C : Cxt K mg) {s_told_parts : Sp} {s_by_parts : Sp} (c_told_parts : C8.Cal P w K mg base j "told_parts" s_told_parts []) (c_by_parts : C8.Cal P w K mg base j "by_parts" s_by_parts []) (cdv : Value) (A : Around) (outer : List Env) (s : Shared) (H : Hp) (E : XK) (hr : Room (j + 1) (A.deeper (envOfC d_Twin_sub.ql (defScope d_Twin_sub.st) s.heap.objs.size d_Twin_sub.ad cdv))) :
    PSs (cxOf CX0 P w K mg base n_Twin_sub d_Twin_sub.ql (defScope d_Twin_sub.st) d_Twin_sub.ad cdv A outer s H E).nox (defBody d_Twin_sub.st) (t_Twin_sub K s_told_parts s_by_parts) := by
  have nd : (n_Twin_sub).Nodup := by decide
  exact (pss_cons (ps_asg (C8.pe_c c_told_parts hr (Nat.le_succ _) rfl (pa_cons (pe_var (i := 1) rfl (.inl rfl)) pa_nil)) (pg_tup rfl (pgs_cons (pg_name (i := 2) nd rfl (.inl rfl) (.inr rfl)) (pgs_cons (pg_name (i := 3) nd rfl (.inl rfl) (.inr rfl)) (pgs_cons (pg_name (i := 4) nd rfl (.inl rfl) (.inr rfl)) pgs_nil))))) (pss_cons (ps_par (i := 5) (j := 6) rfl nd rfl rfl (by decide) rfl rfl (pa_cons (pe_op op_sub (pe_op op_mulW (pe_fld (pe_var (i := 0) rfl (.inl rfl)) rfl) (pe_var (i := 4) rfl (.inl rfl))) (pe_op op_mulW (pe_var (i := 2) rfl (.inl rfl)) (pe_fld (pe_var (i := 0) rfl (.inl rfl)) rfl))) (pa_cons (pe_op op_sub (pe_op op_mulW (pe_fld (pe_var (i := 0) rfl (.inl rfl)) rfl) (pe_var (i := 4) rfl (.inl rfl))) (pe_op op_mulW (pe_var (i := 3) rfl (.inl rfl)) (pe_fld (pe_var (i := 0) rfl (.inl rfl)) rfl))) pa_nil)) rfl) (pss_one (ps_ret (C8.pe_c c_by_parts hr (Nat.le_succ _) rfl (pa_cons (pe_var (i := 5) rfl (.inl rfl)) (pa_cons (pe_var (i := 6) rfl (.inl rfl)) (pa_cons (pe_op op_mulW (pe_fld (pe_var (i := 0) rfl (.inl rfl)) rfl) (pe_var (i := 4) rfl (.inl rfl))) pa_nil))))))))
abbrev n_Twin_mul : List Str := ["self", "other", "left", "right", "low", "plain_one"]
abbrev p_Twin_mul : List Str := ["self", "other"]
theorem sc_Twin_mul : FnScope n_Twin_mul p_Twin_mul (defScope d_Twin_mul.st) := ⟨rfl, rfl, rfl, by decide +kernel, rfl, by decide +kernel, by decide +kernel⟩
def t_Twin_mul (K : PySem.W.Frag) (s_told_parts : Sp) (s_by_parts : Sp) : TS := (tSeq (tAsg (tCall s_told_parts [] E0 (tCons (tVar 1) tNil)) (gTup K 3 (gCons (gName 2) (gCons (gName 3) (gCons (gName 4) gNil))))) (tSeq (tAsg (tOp rSubI (tOp rMulW (tFld K (tVar 0) "own_plain") (tVar 2)) (tOp rMulW (tFld K (tVar 0) "own_side") (tVar 3))) (gName 5)) (tRet (tCall s_by_parts [] E0 (tCons (tVar 5) (tCons (tOp rAddI (tOp rMulW (tFld K (tVar 0) "own_plain") (tVar 3)) (tOp rMulW (tFld K (tVar 0) "own_side") (tVar 2))) (tCons (tOp rMulW (tFld K (tVar 0) "own_low") (tVar 4)) tNil)))))))
theorem der_Twin_mul (C : Cxt K mg) {s_told_parts : Sp} {s_by_parts : Sp} (c_told_parts : C8.Cal P w K mg base j "told_parts" s_told_parts []) (c_by_parts : C8.Cal P w K mg base j "by_parts" s_by_parts []) (cdv : Value) (A : Around) (outer : List Env) (s : Shared) (H : Hp) (E : XK) (hr : Room (j + 1) (A.deeper (envOfC d_Twin_mul.ql (defScope d_Twin_mul.st) s.heap.objs.size d_Twin_mul.ad cdv))) :
    PSs (cxOf CX0 P w K mg base n_Twin_mul d_Twin_mul.ql (defScope d_Twin_mul.st) d_Twin_mul.ad cdv A outer s H E).nox (defBody d_Twin_mul.st) (t_Twin_mul K s_told_parts s_by_parts) := by
  have nd : (n_Twin_mul).Nodup := by decide
  exact (pss_cons (ps_asg (C8.pe_c c_told_parts hr (Nat.le_succ _) rfl (pa_cons (pe_var (i := 1) rfl (.inl rfl)) pa_nil)) (pg_tup rfl (pgs_cons (pg_name (i := 2) nd rfl (.inl rfl) (.inr rfl)) (pgs_cons (pg_name (i := 3) nd rfl (.inl rfl) (.inr rfl)) (pgs_cons (pg_name (i := 4) nd rfl (.inl rfl) (.inr rfl)) pgs_nil))))) (pss_cons (ps_set (i := 5) nd rfl (.inl rfl) (pe_op op_sub (pe_op op_mulW (pe_fld (pe_var (i := 0) rfl (.inl rfl)) rfl) (pe_var (i := 2) rfl (.inl rfl))) (pe_op op_mulW (pe_fld (pe_var (i := 0) rfl (.inl rfl)) rfl) (pe_var (i := 3) rfl (.inl rfl)))) rfl (.inr rfl)) (pss_one (ps_ret (C8.pe_c c_by_parts hr (Nat.le_succ _) rfl (pa_cons (pe_var (i := 5) rfl (.inl rfl)) (pa_cons (pe_op op_add (pe_op op_mulW (pe_fld (pe_var (i := 0) rfl (.inl rfl)) rfl) (pe_var (i := 3) rfl (.inl rfl))) (pe_op op_mulW (pe_fld (pe_var (i := 0) rfl (.inl rfl)) rfl) (pe_var (i := 2) rfl (.inl rfl)))) (pa_cons (pe_op op_mulW (pe_fld (pe_var (i := 0) rfl (.inl rfl)) rfl) (pe_var (i := 4) rfl (.inl rfl))) pa_nil))))))))
abbrev n_Twin_over : List Str := ["self", "number", "left", "right", "low", "most", "plain_one"]
abbrev p_Twin_over : List Str := ["self", "number"]
theorem sc_Twin_over : FnScope n_Twin_over p_Twin_over (defScope d_Twin_over.st) := ⟨rfl, rfl, rfl, by decide +kernel, rfl, by decide +kernel, by decide +kernel⟩
def t_Twin_over (K : PySem.W.Frag) (s_told_parts : Sp) (s_by_parts : Sp) : TS := (tSeq (tAsg (tCall s_told_parts [] E0 (tCons (tVar 1) tNil)) (gTup K 3 (gCons (gName 2) (gCons (gName 3) (gCons (gName 4) gNil))))) (tSeq (tAsg (tOp rAddI (tOp rMulW (tVar 2) (tVar 2)) (tOp rMulW (tVar 3) (tVar 3))) (gName 5)) (tSeq (tIfS (tTest (tOp rEq (tVar 5) (tC (.int 0)))) tNever tNext) (tSeq (tAsg (tOp rMulW (tOp rAddI (tOp rMulW (tFld K (tVar 0) "own_plain") (tVar 2)) (tOp rMulW (tFld K (tVar 0) "own_side") (tVar 3))) (tVar 4)) (gName 6)) (tRet (tCall s_by_parts [] E0 (tCons (tVar 6) (tCons (tOp rMulW (tOp rSubI (tOp rMulW (tFld K (tVar 0) "own_side") (tVar 2)) (tOp rMulW (tFld K (tVar 0) "own_plain") (tVar 3))) (tVar 4)) (tCons (tOp rMulW (tFld K (tVar 0) "own_low") (tVar 5)) tNil)))))))))
theorem der_Twin_over (C : Cxt K mg) {s_told_parts : Sp} {s_by_parts : Sp} (c_told_parts : C8.Cal P w K mg base j "told_parts" s_told_parts []) (c_by_parts : C8.Cal P w K mg base j "by_parts" s_by_parts []) (cdv : Value) (A : Around) (outer : List Env) (s : Shared) (H : Hp) (E : XK) (hr : Room (j + 1) (A.deeper (envOfC d_Twin_over.ql (defScope d_Twin_over.st) s.heap.objs.size d_Twin_over.ad cdv))) :
    PSs (cxOf CX0 P w K mg base n_Twin_over d_Twin_over.ql (defScope d_Twin_over.st) d_Twin_over.ad cdv A outer s H E).nox (defBody d_Twin_over.st) (t_Twin_over K s_told_parts s_by_parts) := by
  have nd : (n_Twin_over).Nodup := by decide
  exact (pss_cons (ps_asg (C8.pe_c c_told_parts hr (Nat.le_succ _) rfl (pa_cons (pe_var (i := 1) rfl (.inl rfl)) pa_nil)) (pg_tup rfl (pgs_cons (pg_name (i := 2) nd rfl (.inl rfl) (.inr rfl)) (pgs_cons (pg_name (i := 3) nd rfl (.inl rfl) (.inr rfl)) (pgs_cons (pg_name (i := 4) nd rfl (.inl rfl) (.inr rfl)) pgs_nil))))) (pss_cons (ps_set (i := 5) nd rfl (.inl rfl) (pe_op op_add (pe_op op_mulW (pe_var (i := 2) rfl (.inl rfl)) (pe_var (i := 2) rfl (.inl rfl))) (pe_op op_mulW (pe_var (i := 3) rfl (.inl rfl)) (pe_var (i := 3) rfl (.inl rfl)))) rfl (.inr rfl)) (pss_cons (ps_if (pt_cmpR op_eq (pe_var (i := 5) rfl (.inl rfl)) pe_int (by rfl)) (pss_one ps_never) pss_nil) (pss_cons (ps_set (i := 6) nd rfl (.inl rfl) (pe_op op_mulW (pe_op op_add (pe_op op_mulW (pe_fld (pe_var (i := 0) rfl (.inl rfl)) rfl) (pe_var (i := 2) rfl (.inl rfl))) (pe_op op_mulW (pe_fld (pe_var (i := 0) rfl (.inl rfl)) rfl) (pe_var (i := 3) rfl (.inl rfl)))) (pe_var (i := 4) rfl (.inl rfl))) rfl (.inr rfl)) (pss_one (ps_ret (C8.pe_c c_by_parts hr (Nat.le_succ _) rfl (pa_cons (pe_var (i := 6) rfl (.inl rfl)) (pa_cons (pe_op op_mulW (pe_op op_sub (pe_op op_mulW (pe_fld (pe_var (i := 0) rfl (.inl rfl)) rfl) (pe_var (i := 2) rfl (.inl rfl))) (pe_op op_mulW (pe_fld (pe_var (i := 0) rfl (.inl rfl)) rfl) (pe_var (i := 3) rfl (.inl rfl)))) (pe_var (i := 4) rfl (.inl rfl))) (pa_cons (pe_op op_mulW (pe_fld (pe_var (i := 0) rfl (.inl rfl)) rfl) (pe_var (i := 5) rfl (.inl rfl))) pa_nil))))))))))
abbrev n_Twin_mirror : List Str := ["self"]
abbrev p_Twin_mirror : List Str := ["self"]
theorem sc_Twin_mirror : FnScope n_Twin_mirror p_Twin_mirror (defScope d_Twin_mirror.st) := ⟨rfl, rfl, rfl, by decide +kernel, rfl, by decide +kernel, by decide +kernel⟩
def t_Twin_mirror (K : PySem.W.Frag) (s_by_parts : Sp) : TS := (tRet (tCall s_by_parts [] E0 (tCons (tFld K (tVar 0) "own_plain") (tCons (tOp rSubI (tC (.int 0)) (tFld K (tVar 0) "own_side")) (tCons (tFld K (tVar 0) "own_low") tNil)))))
theorem der_Twin_mirror (C : Cxt K mg) {s_by_parts : Sp} (c_by_parts : C8.Cal P w K mg base j "by_parts" s_by_parts []) (cdv : Value) (A : Around) (outer : List Env) (s : Shared) (H : Hp) (E : XK) (hr : Room (j + 1) (A.deeper (envOfC d_Twin_mirror.ql (defScope d_Twin_mirror.st) s.heap.objs.size d_Twin_mirror.ad cdv))) :
    PSs (cxOf CX0 P w K mg base n_Twin_mirror d_Twin_mirror.ql (defScope d_Twin_mirror.st) d_Twin_mirror.ad cdv A outer s H E).nox (defBody d_Twin_mirror.st) (t_Twin_mirror K s_by_parts) := by
  have nd : (n_Twin_mirror).Nodup := by decide
  exact (pss_one (ps_ret (C8.pe_c c_by_parts hr (Nat.le_succ _) rfl (pa_cons (pe_fld (pe_var (i := 0) rfl (.inl rfl)) rfl) (pa_cons (pe_op op_sub pe_int (pe_fld (pe_var (i := 0) rfl (.inl rfl)) rfl)) (pa_cons (pe_fld (pe_var (i := 0) rfl (.inl rfl)) rfl) pa_nil))))))
abbrev n_Twin_size : List Str := ["self"]
abbrev p_Twin_size : List Str := ["self"]
theorem sc_Twin_size : FnScope n_Twin_size p_Twin_size (defScope d_Twin_size.st) := ⟨rfl, rfl, rfl, by decide +kernel, rfl, by decide +kernel, by decide +kernel⟩
def t_Twin_size (K : PySem.W.Frag) (s_mk_Ratio : Sp) : TS := (tRet (tMake CR s_mk_Ratio [] E0 (tCons (tOp rAddI (tOp rMulW (tFld K (tVar 0) "own_plain") (tFld K (tVar 0) "own_plain")) (tOp rMulW (tFld K (tVar 0) "own_side") (tFld K (tVar 0) "own_side"))) (tCons (tOp rMulW (tFld K (tVar 0) "own_low") (tFld K (tVar 0) "own_low")) tNil))))
theorem der_Twin_size (C : Cxt K mg) {s_mk_Ratio : Sp} (c_mk_Ratio_0 : C8.Mak P w K mg base j "Ratio" CR s_mk_Ratio []) (cdv : Value) (A : Around) (outer : List Env) (s : Shared) (H : Hp) (E : XK) (hr : Room (j + 1) (A.deeper (envOfC d_Twin_size.ql (defScope d_Twin_size.st) s.heap.objs.size d_Twin_size.ad cdv))) :
    PSs (cxOf CX0 P w K mg base n_Twin_size d_Twin_size.ql (defScope d_Twin_size.st) d_Twin_size.ad cdv A outer s H E).nox (defBody d_Twin_size.st) (t_Twin_size K s_mk_Ratio) := by
  have nd : (n_Twin_size).Nodup := by decide
  exact (pss_one (ps_ret (C8.pe_mk c_mk_Ratio_0 hr (Nat.le_refl _) rfl (pa_cons (pe_op op_add (pe_op op_mulW (pe_fld (pe_var (i := 0) rfl (.inl rfl)) rfl) (pe_fld (pe_var (i := 0) rfl (.inl rfl)) rfl)) (pe_op op_mulW (pe_fld (pe_var (i := 0) rfl (.inl rfl)) rfl) (pe_fld (pe_var (i := 0) rfl (.inl rfl)) rfl))) (pa_cons (pe_op op_mulW (pe_fld (pe_var (i := 0) rfl (.inl rfl)) rfl) (pe_fld (pe_var (i := 0) rfl (.inl rfl)) rfl)) pa_nil)))))
abbrev n_Twin_eq : List Str := ["self", "other"]
abbrev p_Twin_eq : List Str := ["self", "other"]
theorem sc_Twin_eq : FnScope n_Twin_eq p_Twin_eq (defScope d_Twin_eq.st) := ⟨rfl, rfl, rfl, by decide +kernel, rfl, by decide +kernel, by decide +kernel⟩
def t_Twin_eq (K : PySem.W.Frag) : TS := (tSeq (tIfS (tNot (tB (tCB (rIsi K) (tCons (tVar 1) (tCons (tC (.ref CT)) tNil))))) (tRet (tC (.bl false))) tNext) (tRet (tAndV (tOp rEq (tFld K (tVar 0) "own_plain") (tFld K (tVar 1) "own_plain")) (tAndV (tOp rEq (tFld K (tVar 0) "own_side") (tFld K (tVar 1) "own_side")) (tOp rEq (tFld K (tVar 0) "own_low") (tFld K (tVar 1) "own_low"))))))
theorem der_Twin_eq (C : Cxt K mg) (cdv : Value) (A : Around) (outer : List Env) (s : Shared) (H : Hp) (E : XK) (hr : Room (j + 1) (A.deeper (envOfC d_Twin_eq.ql (defScope d_Twin_eq.st) s.heap.objs.size d_Twin_eq.ad cdv))) :
    PSs (cxOf CX0 P w K mg base n_Twin_eq d_Twin_eq.ql (defScope d_Twin_eq.st) d_Twin_eq.ad cdv A outer s H E).nox (defBody d_Twin_eq.st) (t_Twin_eq K) := by
  have nd : (n_Twin_eq).Nodup := by decide
  exact (pss_cons (ps_if (pt_not (pt_val (pe_callB call_isi rfl (C.n C.T.f_isinstance) PyProof.Rows.boot_isinstance (pa_cons (pe_var (i := 1) rfl (.inl rfl)) (pa_cons (pe_glob (v := .ref CT) rfl (C.r C.T.gloT) rfl) pa_nil))))) (pss_one (ps_ret pe_bl)) pss_nil) (pss_one (ps_ret (pe_and (pe_cmpR op_eq (pe_fld (pe_var (i := 0) rfl (.inl rfl)) rfl) (pe_fld (pe_var (i := 1) rfl (.inl rfl)) rfl) (by rfl)) (pe_and (pe_cmpR op_eq (pe_fld (pe_var (i := 0) rfl (.inl rfl)) rfl) (pe_fld (pe_var (i := 1) rfl (.inl rfl)) rfl) (by rfl)) (pe_one (pe_cmpR op_eq (pe_fld (pe_var (i := 0) rfl (.inl rfl)) rfl) (pe_fld (pe_var (i := 1) rfl (.inl rfl)) rfl) (by rfl))))))))
abbrev n_handed_parts : List Str := ["plain", "side", "left", "below", "right", "under"]
abbrev p_handed_parts : List Str := ["plain", "side"]
theorem sc_handed_parts : FnScope n_handed_parts p_handed_parts (defScope d_handed_parts.st) := ⟨rfl, rfl, rfl, by decide +kernel, rfl, by decide +kernel, by decide +kernel⟩
def t_handed_parts (K : PySem.W.Frag) (s_told_pair : Sp) : TS := (tSeq (tIfS (tB (tCB (rIsi K) (tCons (tVar 0) (tCons (tC (.ref CP)) tNil)))) (tRet (tTup (tCons (tFld K (tVar 0) "own_left") (tCons (tFld K (tVar 0) "own_right") (tCons (tFld K (tVar 0) "own_below") tNil))))) tNext) (tSeq (tAsg (tCall s_told_pair [] E0 (tCons (tVar 0) tNil)) (gTup K 2 (gCons (gName 2) (gCons (gName 3) gNil)))) (tSeq (tAsg (tCall s_told_pair [] E0 (tCons (tVar 1) tNil)) (gTup K 2 (gCons (gName 4) (gCons (gName 5) gNil)))) (tRet (tTup (tCons (tOp rMulW (tVar 2) (tVar 5)) (tCons (tOp rMulW (tVar 4) (tVar 3)) (tCons (tOp rMulW (tVar 3) (tVar 5)) tNil))))))))
theorem der_handed_parts (C : Cxt K mg) {s_told_pair : Sp} (c_told_pair : C8.Cal P w K mg base j "told_pair" s_told_pair []) (cdv : Value) (A : Around) (outer : List Env) (s : Shared) (H : Hp) (E : XK) (hr : Room (j + 1) (A.deeper (envOfC d_handed_parts.ql (defScope d_handed_parts.st) s.heap.objs.size d_handed_parts.ad cdv))) :
    PSs (cxOf CX0 P w K mg base n_handed_parts d_handed_parts.ql (defScope d_handed_parts.st) d_handed_parts.ad cdv A outer s H E).nox (defBody d_handed_parts.st) (t_handed_parts K s_told_pair) := by
  have nd : (n_handed_parts).Nodup := by decide
  exact (pss_cons (ps_if (pt_val (pe_callB call_isi rfl (C.n C.T.f_isinstance) PyProof.Rows.boot_isinstance (pa_cons (pe_var (i := 0) rfl (.inl rfl)) (pa_cons (pe_glob (v := .ref CP) rfl (C.r C.T.gloP) rfl) pa_nil)))) (pss_one (ps_ret (pe_tup (pa_cons (pe_fld (pe_var (i := 0) rfl (.inl rfl)) rfl) (pa_cons (pe_fld (pe_var (i := 0) rfl (.inl rfl)) rfl) (pa_cons (pe_fld (pe_var (i := 0) rfl (.inl rfl)) rfl) pa_nil)))))) pss_nil) (pss_cons (ps_asg (C8.pe_c c_told_pair hr (Nat.le_succ _) rfl (pa_cons (pe_var (i := 0) rfl (.inl rfl)) pa_nil)) (pg_tup rfl (pgs_cons (pg_name (i := 2) nd rfl (.inl rfl) (.inr rfl)) (pgs_cons (pg_name (i := 3) nd rfl (.inl rfl) (.inr rfl)) pgs_nil)))) (pss_cons (ps_asg (C8.pe_c c_told_pair hr (Nat.le_succ _) rfl (pa_cons (pe_var (i := 1) rfl (.inl rfl)) pa_nil)) (pg_tup rfl (pgs_cons (pg_name (i := 4) nd rfl (.inl rfl) (.inr rfl)) (pgs_cons (pg_name (i := 5) nd rfl (.inl rfl) (.inr rfl)) pgs_nil)))) (pss_one (ps_ret (pe_tup (pa_cons (pe_op op_mulW (pe_var (i := 2) rfl (.inl rfl)) (pe_var (i := 5) rfl (.inl rfl))) (pa_cons (pe_op op_mulW (pe_var (i := 4) rfl (.inl rfl)) (pe_var (i := 3) rfl (.inl rfl))) (pa_cons (pe_op op_mulW (pe_var (i := 3) rfl (.inl rfl)) (pe_var (i := 5) rfl (.inl rfl))) pa_nil)))))))))
abbrev n_by_parts : List Str := ["left", "right", "low"]
abbrev p_by_parts : List Str := ["left", "right", "low"]
theorem sc_by_parts : FnScope n_by_parts p_by_parts (defScope d_by_parts.st) := ⟨rfl, rfl, rfl, by decide +kernel, rfl, by decide +kernel, by decide +kernel⟩
def t_by_parts (K : PySem.W.Frag) (s_mk_Twin : Sp) (s_mk_Parts : Sp) : TS := (tRet (tMake CT s_mk_Twin [.int 0] E0 (tCons (tMake CP s_mk_Parts [] E0 (tCons (tVar 0) (tCons (tVar 1) (tCons (tVar 2) tNil)))) tNil)))
theorem der_by_parts (C : Cxt K mg) {s_mk_Twin : Sp} {s_mk_Parts : Sp} (c_mk_Twin_1 : C8.Mak P w K mg base j "Twin" CT s_mk_Twin [.int 0]) (c_mk_Parts_0 : C8.Mak P w K mg base j "Parts" CP s_mk_Parts []) (cdv : Value) (A : Around) (outer : List Env) (s : Shared) (H : Hp) (E : XK) (hr : Room (j + 1) (A.deeper (envOfC d_by_parts.ql (defScope d_by_parts.st) s.heap.objs.size d_by_parts.ad cdv))) :
    PSs (cxOf CX0 P w K mg base n_by_parts d_by_parts.ql (defScope d_by_parts.st) d_by_parts.ad cdv A outer s H E).nox (defBody d_by_parts.st) (t_by_parts K s_mk_Twin s_mk_Parts) := by
  have nd : (n_by_parts).Nodup := by decide
  exact (pss_one (ps_ret (C8.pe_mk c_mk_Twin_1 hr (Nat.le_refl _) rfl (pa_cons (C8.pe_mk c_mk_Parts_0 hr (Nat.le_refl _) rfl (pa_cons (pe_var (i := 0) rfl (.inl rfl)) (pa_cons (pe_var (i := 1) rfl (.inl rfl)) (pa_cons (pe_var (i := 2) rfl (.inl rfl)) pa_nil)))) pa_nil))))
abbrev n_told_parts : List Str := ["value"]
abbrev p_told_parts : List Str := ["value"]
theorem sc_told_parts : FnScope n_told_parts p_told_parts (defScope d_told_parts.st) := ⟨rfl, rfl, rfl, by decide +kernel, rfl, by decide +kernel, by decide +kernel⟩
def t_told_parts (K : PySem.W.Frag) (s_is_integer : Sp) : TS := (tSeq (tIfS (tB (tCB (rIsi K) (tCons (tVar 0) (tCons (tC (.ref CT)) tNil)))) (tRet (tTup (tCons (tFld K (tVar 0) "own_plain") (tCons (tFld K (tVar 0) "own_side") (tCons (tFld K (tVar 0) "own_low") tNil))))) tNext) (tSeq (tIfS (tB (tCB (rIsi K) (tCons (tVar 0) (tCons (tC (.ref CR)) tNil)))) (tRet (tTup (tCons (tFld K (tVar 0) "own_top") (tCons (tC (.int 0)) (tCons (tFld K (tVar 0) "own_bottom") tNil))))) tNext) (tSeq (tIfS (tNot (tB (tCall s_is_integer [] E0 (tCons (tVar 0) tNil)))) tNever tNext) (tRet (tTup (tCons (tVar 0) (tCons (tC (.int 0)) (tCons (tC (.int 1)) tNil))))))))
theorem der_told_parts (C : Cxt K mg) {s_is_integer : Sp} (c_is_integer : C8.Cal P w K mg base j "is_integer" s_is_integer []) (cdv : Value) (A : Around) (outer : List Env) (s : Shared) (H : Hp) (E : XK) (hr : Room (j + 1) (A.deeper (envOfC d_told_parts.ql (defScope d_told_parts.st) s.heap.objs.size d_told_parts.ad cdv))) :
    PSs (cxOf CX0 P w K mg base n_told_parts d_told_parts.ql (defScope d_told_parts.st) d_told_parts.ad cdv A outer s H E).nox (defBody d_told_parts.st) (t_told_parts K s_is_integer) := by
  have nd : (n_told_parts).Nodup := by decide
  exact (pss_cons (ps_if (pt_val (pe_callB call_isi rfl (C.n C.T.f_isinstance) PyProof.Rows.boot_isinstance (pa_cons (pe_var (i := 0) rfl (.inl rfl)) (pa_cons (pe_glob (v := .ref CT) rfl (C.r C.T.gloT) rfl) pa_nil)))) (pss_one (ps_ret (pe_tup (pa_cons (pe_fld (pe_var (i := 0) rfl (.inl rfl)) rfl) (pa_cons (pe_fld (pe_var (i := 0) rfl (.inl rfl)) rfl) (pa_cons (pe_fld (pe_var (i := 0) rfl (.inl rfl)) rfl) pa_nil)))))) pss_nil) (pss_cons (ps_if (pt_val (pe_callB call_isi rfl (C.n C.T.f_isinstance) PyProof.Rows.boot_isinstance (pa_cons (pe_var (i := 0) rfl (.inl rfl)) (pa_cons (pe_glob (v := .ref CR) rfl (C.r C.T.gloR) rfl) pa_nil)))) (pss_one (ps_ret (pe_tup (pa_cons (pe_fld (pe_var (i := 0) rfl (.inl rfl)) rfl) (pa_cons pe_int (pa_cons (pe_fld (pe_var (i := 0) rfl (.inl rfl)) rfl) pa_nil)))))) pss_nil) (pss_cons (ps_if (pt_not (pt_val (C8.pe_c c_is_integer hr (Nat.le_succ _) rfl (pa_cons (pe_var (i := 0) rfl (.inl rfl)) pa_nil)))) (pss_one ps_never) pss_nil) (pss_one (ps_ret (pe_tup (pa_cons (pe_var (i := 0) rfl (.inl rfl)) (pa_cons pe_int (pa_cons pe_int pa_nil)))))))))
abbrev n_nought : List Str := []
abbrev p_nought : List Str := []
theorem sc_nought : FnScope n_nought p_nought (defScope d_nought.st) := ⟨rfl, rfl, rfl, by decide +kernel, rfl, by decide +kernel, by decide +kernel⟩
def t_nought (K : PySem.W.Frag) (s_mk_Twin : Sp) : TS := (tRet (tMake CT s_mk_Twin [.int 0] E0 (tCons (tC (.int 0)) tNil)))
theorem der_nought (C : Cxt K mg) {s_mk_Twin : Sp} (c_mk_Twin_1 : C8.Mak P w K mg base j "Twin" CT s_mk_Twin [.int 0]) (cdv : Value) (A : Around) (outer : List Env) (s : Shared) (H : Hp) (E : XK) (hr : Room (j + 1) (A.deeper (envOfC d_nought.ql (defScope d_nought.st) s.heap.objs.size d_nought.ad cdv))) :
    PSs (cxOf CX0 P w K mg base n_nought d_nought.ql (defScope d_nought.st) d_nought.ad cdv A outer s H E).nox (defBody d_nought.st) (t_nought K s_mk_Twin) := by
  have nd : (n_nought).Nodup := by decide
  exact (pss_one (ps_ret (C8.pe_mk c_mk_Twin_1 hr (Nat.le_refl _) rfl (pa_cons pe_int pa_nil))))
abbrev n_one : List Str := []
abbrev p_one : List Str := []
theorem sc_one : FnScope n_one p_one (defScope d_one.st) := ⟨rfl, rfl, rfl, by decide +kernel, rfl, by decide +kernel, by decide +kernel⟩
def t_one (K : PySem.W.Frag) (s_mk_Twin : Sp) : TS := (tRet (tMake CT s_mk_Twin [.int 0] E0 (tCons (tC (.int 1)) tNil)))
theorem der_one (C : Cxt K mg) {s_mk_Twin : Sp} (c_mk_Twin_1 : C8.Mak P w K mg base j "Twin" CT s_mk_Twin [.int 0]) (cdv : Value) (A : Around) (outer : List Env) (s : Shared) (H : Hp) (E : XK) (hr : Room (j + 1) (A.deeper (envOfC d_one.ql (defScope d_one.st) s.heap.objs.size d_one.ad cdv))) :
    PSs (cxOf CX0 P w K mg base n_one d_one.ql (defScope d_one.st) d_one.ad cdv A outer s H E).nox (defBody d_one.st) (t_one K s_mk_Twin) := by
  have nd : (n_one).Nodup := by decide
  exact (pss_one (ps_ret (C8.pe_mk c_mk_Twin_1 hr (Nat.le_refl _) rfl (pa_cons pe_int pa_nil))))
abbrev n_is_value : List Str := ["value"]
abbrev p_is_value : List Str := ["value"]
theorem sc_is_value : FnScope n_is_value p_is_value (defScope d_is_value.st) := ⟨rfl, rfl, rfl, by decide +kernel, rfl, by decide +kernel, by decide +kernel⟩
def t_is_value (K : PySem.W.Frag) (s_is_integer : Sp) : TS := (tRet (tOrV (tCall s_is_integer [] E0 (tCons (tVar 0) tNil)) (tCB (rIsiT K) (tCons (tVar 0) (tCons (tTup (tCons (tC (.ref CR)) (tCons (tC (.ref CT)) tNil))) tNil)))))
theorem der_is_value (C : Cxt K mg) {s_is_integer : Sp} (c_is_integer : C8.Cal P w K mg base j "is_integer" s_is_integer []) (cdv : Value) (A : Around) (outer : List Env) (s : Shared) (H : Hp) (E : XK) (hr : Room (j + 1) (A.deeper (envOfC d_is_value.ql (defScope d_is_value.st) s.heap.objs.size d_is_value.ad cdv))) :
    PSs (cxOf CX0 P w K mg base n_is_value d_is_value.ql (defScope d_is_value.st) d_is_value.ad cdv A outer s H E).nox (defBody d_is_value.st) (t_is_value K s_is_integer) := by
  have nd : (n_is_value).Nodup := by decide
  exact (pss_one (ps_ret (pe_or (C8.pe_c c_is_integer hr (Nat.le_succ _) rfl (pa_cons (pe_var (i := 0) rfl (.inl rfl)) pa_nil)) (pe_one (pe_callB call_isiT rfl (C.n C.T.f_isinstance) PyProof.Rows.boot_isinstance (pa_cons (pe_var (i := 0) rfl (.inl rfl)) (pa_cons (pe_tup (pa_cons (pe_glob (v := .ref CR) rfl (C.r C.T.gloR) rfl) (pa_cons (pe_glob (v := .ref CT) rfl (C.r C.T.gloT) rfl) pa_nil))) pa_nil)))))))
abbrev n_twin_of : List Str := ["value"]
abbrev p_twin_of : List Str := ["value"]
theorem sc_twin_of : FnScope n_twin_of p_twin_of (defScope d_twin_of.st) := ⟨rfl, rfl, rfl, by decide +kernel, rfl, by decide +kernel, by decide +kernel⟩
def t_twin_of (K : PySem.W.Frag) (s_mk_Twin : Sp) : TS := (tRet (tIf (tB (tCB (rIsi K) (tCons (tVar 0) (tCons (tC (.ref CT)) tNil)))) (tVar 0) (tMake CT s_mk_Twin [.int 0] E0 (tCons (tVar 0) tNil))))
theorem der_twin_of (C : Cxt K mg) {s_mk_Twin : Sp} (c_mk_Twin_1 : C8.Mak P w K mg base j "Twin" CT s_mk_Twin [.int 0]) (cdv : Value) (A : Around) (outer : List Env) (s : Shared) (H : Hp) (E : XK) (hr : Room (j + 1) (A.deeper (envOfC d_twin_of.ql (defScope d_twin_of.st) s.heap.objs.size d_twin_of.ad cdv))) :
    PSs (cxOf CX0 P w K mg base n_twin_of d_twin_of.ql (defScope d_twin_of.st) d_twin_of.ad cdv A outer s H E).nox (defBody d_twin_of.st) (t_twin_of K s_mk_Twin) := by
  have nd : (n_twin_of).Nodup := by decide
  exact (pss_one (ps_ret (pe_ifExp (pt_val (pe_callB call_isi rfl (C.n C.T.f_isinstance) PyProof.Rows.boot_isinstance (pa_cons (pe_var (i := 0) rfl (.inl rfl)) (pa_cons (pe_glob (v := .ref CT) rfl (C.r C.T.gloT) rfl) pa_nil)))) (pe_var (i := 0) rfl (.inl rfl)) (C8.pe_mk c_mk_Twin_1 hr (Nat.le_refl _) rfl (pa_cons (pe_var (i := 0) rfl (.inl rfl)) pa_nil)))))
abbrev n_product_sum : List Str := ["ones", "others", "found", "left", "right"]
abbrev p_product_sum : List Str := ["ones", "others"]
theorem sc_product_sum : FnScope n_product_sum p_product_sum (defScope d_product_sum.st) := ⟨rfl, rfl, rfl, by decide +kernel, rfl, by decide +kernel, by decide +kernel⟩
def t_product_sum (K : PySem.W.Frag) (s_mk_Twin : Sp) (s_op_CT_Mult : Sp) (s_op_CT_Add : Sp) : TS := (tSeq (tAsg (tMake CT s_mk_Twin [.int 0] E0 (tCons (tC (.int 0)) tNil)) (gName 2)) (tSeq (tFor (iZip K (tCons (tVar 0) (tCons (tVar 1) tNil))) (gTup K 2 (gCons (gName 3) (gCons (gName 4) gNil))) (tAsg (tOp (rOwn CT CT s_op_CT_Add) (tVar 2) (tOp (rOwn CT CT s_op_CT_Mult) (tVar 3) (tVar 4))) (gName 2))) (tRet (tVar 2))))
theorem der_product_sum (C : Cxt K mg) {s_mk_Twin : Sp} {s_op_CT_Mult : Sp} {s_op_CT_Add : Sp} (c_mk_Twin_1 : C8.Mak P w K mg base j "Twin" CT s_mk_Twin [.int 0]) (c_op_CT_Mult : OwnB P w K mg base j CT .Mult s_op_CT_Mult) (c_op_CT_Add : OwnB P w K mg base j CT .Add s_op_CT_Add) (cdv : Value) (A : Around) (outer : List Env) (s : Shared) (H : Hp) (E : XK) (hr : Room (j + 1) (A.deeper (envOfC d_product_sum.ql (defScope d_product_sum.st) s.heap.objs.size d_product_sum.ad cdv))) :
    PSs (cxOf CX0 P w K mg base n_product_sum d_product_sum.ql (defScope d_product_sum.st) d_product_sum.ad cdv A outer s H E).nox (defBody d_product_sum.st) (t_product_sum K s_mk_Twin s_op_CT_Mult s_op_CT_Add) := by
  have nd : (n_product_sum).Nodup := by decide
  exact (pss_cons (ps_set (i := 2) nd rfl (.inl rfl) (C8.pe_mk c_mk_Twin_1 hr (Nat.le_refl _) rfl (pa_cons pe_int pa_nil)) rfl (.inr rfl)) (pss_cons (ps_for PassesOwn.never rfl (pi_zip rfl (C.n C.T.f_zip) (pa_cons (pe_var (i := 0) rfl (.inl rfl)) (pa_cons (pe_var (i := 1) rfl (.inl rfl)) pa_nil))) (pg_tup rfl (pgs_cons (pg_name (i := 3) nd rfl (.inl rfl) (.inr rfl)) (pgs_cons (pg_name (i := 4) nd rfl (.inl rfl) (.inr rfl)) pgs_nil))) (pss_one (ps_set (i := 2) nd rfl (.inl rfl) (pe_op (op_same c_op_CT_Add hr (Nat.le_succ _)) (pe_var (i := 2) rfl (.inl rfl)) (pe_op (op_same c_op_CT_Mult hr (Nat.le_succ _)) (pe_var (i := 3) rfl (.inl rfl)) (pe_var (i := 4) rfl (.inl rfl)))) rfl (.inr rfl)))) (pss_one (ps_ret (pe_var (i := 2) rfl (.inl rfl))))))
end N640

set_option Elab.async false
set_option linter.all false
set_option maxRecDepth 100000
set_option maxHeartbeats 4000000
/-! Derivations (printed by gen_der.py). -/
namespace N640
open PySem PySem.Spec PyProof.Rows L2
variable {P : Program} {w : World} {K : PySem.W.Frag} {mg : Str → Option Value} {base : Heap} {j : Nat}
abbrev n_are_values : List Str := ["value", "many", "one"]
abbrev p_are_values : List Str := ["value", "many"]
theorem sc_are_values : FnScope n_are_values p_are_values (defScope d_are_values.st) := ⟨rfl, rfl, rfl, by decide +kernel, rfl, by decide +kernel, by decide +kernel⟩
def t_are_values (K : PySem.W.Frag) (s_is_list : Sp) (s_is_value : Sp) : TS := (tRet (tAndV (tCall s_is_list [] E0 (tCons (tVar 0) tNil)) (tAndV (tOp rEq (tCB (rLenN K) (tCons (tVar 0) tNil)) (tVar 1)) (tCB (rAll K) (tCons (tLc (iSeq K (tVar 0)) (gName 2) tYes (tCall s_is_value [] E0 (tCons (tVar 2) tNil)) [2]) tNil)))))
theorem der_are_values (C : Cxt K mg) {s_is_list : Sp} {s_is_value : Sp} (c_is_list : C8.Cal P w K mg base j "is_list" s_is_list []) (c_is_value : C8.Cal P w K mg base j "is_value" s_is_value []) (cdv : Value) (A : Around) (outer : List Env) (s : Shared) (H : Hp) (E : XK) (hr : Room (j + 1) (A.deeper (envOfC d_are_values.ql (defScope d_are_values.st) s.heap.objs.size d_are_values.ad cdv))) :
    PSs (cxOf CX0 P w K mg base n_are_values d_are_values.ql (defScope d_are_values.st) d_are_values.ad cdv A outer s H E).nox (defBody d_are_values.st) (t_are_values K s_is_list s_is_value) := by
  have nd : (n_are_values).Nodup := by decide
  exact (pss_one (ps_ret (pe_and (C8.pe_c c_is_list hr (Nat.le_succ _) rfl (pa_cons (pe_var (i := 0) rfl (.inl rfl)) pa_nil)) (pe_and (pe_cmpR op_eq (pe_callB call_len_seq rfl (C.n C.T.f_len) PySem.boot_len (pa_cons (pe_var (i := 0) rfl (.inl rfl)) pa_nil)) (pe_var (i := 1) rfl (.inl rfl)) (by rfl)) (pe_one (pe_callB (cr_all rfl) rfl (C.n C.T.f_all) PyProof.Rows.boot_all (pa_cons (pe_lc (own := [("one", 2)]) rfl nd (pi_seq (pi_list (pe_var (i := 0) rfl (.inl rfl))) (pi_tup (pe_var (i := 0) rfl (.inl rfl)))) (blkOk_by (by kernel_rfl)) (fun _ _ _ _ _ => (pg_name (i := 2) nd rfl (.inl rfl) (.inr rfl))) (fun _ _ _ _ _ => pts_nil) (fun _ _ _ _ _ => (C8.pe_c c_is_value hr (Nat.le_succ _) rfl (pa_cons (pe_var (i := 2) rfl (.inl rfl)) pa_nil)))) pa_nil)))))))
abbrev n_is_mirrored : List Str := ["twins", "near", "row", "far"]
abbrev p_is_mirrored : List Str := ["twins"]
theorem sc_is_mirrored : FnScope n_is_mirrored p_is_mirrored (defScope d_is_mirrored.st) := ⟨rfl, rfl, rfl, by decide +kernel, rfl, by decide +kernel, by decide +kernel⟩
def t_is_mirrored (K : PySem.W.Frag) (s_ne_CT : Sp) (s_mt_CT_mirror : Sp) : TS := (tSeq (tFor (iEnum K (tCons (tVar 0) tNil)) (gTup K 2 (gCons (gName 1) (gCons (gName 2) gNil))) (tFor (iRng1 (tCons (tOp rAddI (tVar 1) (tC (.int 1))) tNil)) (gName 3) (tIfS (tTest (tOp (rOwnNe CT s_ne_CT) (tOp (rIxL K) (tVar 2) (tVar 3)) (tMeth CT "mirror" s_mt_CT_mirror [] E0 (tOp (rIxL K) (tOp (rIxL K) (tVar 0) (tVar 3)) (tVar 1)) tNil))) (tRet (tC (.bl false))) tNext))) (tRet (tC (.bl true))))
theorem der_is_mirrored (C : Cxt K mg) {s_ne_CT : Sp} {s_mt_CT_mirror : Sp} (c_ne_CT : NeB P w K mg base j CT s_ne_CT) (c_mt_CT_mirror : C8.Met P w K mg base j CT "mirror" s_mt_CT_mirror []) (cdv : Value) (A : Around) (outer : List Env) (s : Shared) (H : Hp) (E : XK) (hr : Room (j + 1) (A.deeper (envOfC d_is_mirrored.ql (defScope d_is_mirrored.st) s.heap.objs.size d_is_mirrored.ad cdv))) :
    PSs (cxOf CX0 P w K mg base n_is_mirrored d_is_mirrored.ql (defScope d_is_mirrored.st) d_is_mirrored.ad cdv A outer s H E).nox (defBody d_is_mirrored.st) (t_is_mirrored K s_ne_CT s_mt_CT_mirror) := by
  have nd : (n_is_mirrored).Nodup := by decide
  exact (pss_cons (ps_for PassesOwn.never rfl (pi_enum rfl (C.n C.T.f_enumerate) (pa_cons (pe_var (i := 0) rfl (.inl rfl)) pa_nil)) (pg_tup rfl (pgs_cons (pg_name (i := 1) nd rfl (.inl rfl) (.inr rfl)) (pgs_cons (pg_name (i := 2) nd rfl (.inl rfl) (.inr rfl)) pgs_nil))) (pss_one (ps_for PassesOwn.never rfl (pi_range1 rfl (C.n C.T.f_range) (pa_cons (pe_op op_add (pe_var (i := 1) rfl (.inl rfl)) pe_int) pa_nil)) (pg_name (i := 3) nd rfl (.inl rfl) (.inr rfl)) (pss_one (ps_if (pt_cmpR (op_neB c_ne_CT hr (Nat.le_refl _)) (pe_ix ix_list (pe_var (i := 2) rfl (.inl rfl)) (pe_var (i := 3) rfl (.inl rfl)) (fun _ _ => rfl)) (C8.pe_mt0 c_mt_CT_mirror hr (Nat.le_succ _) (pe_ix ix_list (pe_ix ix_list (pe_var (i := 0) rfl (.inl rfl)) (pe_var (i := 3) rfl (.inl rfl)) (fun _ _ => rfl)) (pe_var (i := 1) rfl (.inl rfl)) (fun _ _ => rfl))) (by rfl)) (pss_one (ps_ret pe_bl)) pss_nil))))) (pss_one (ps_ret pe_bl)))
abbrev n_told_table : List Str := ["value", "twins", "row", "one"]
abbrev p_told_table : List Str := ["value"]
theorem sc_told_table : FnScope n_told_table p_told_table (defScope d_told_table.st) := ⟨rfl, rfl, rfl, by decide +kernel, rfl, by decide +kernel, by decide +kernel⟩
def t_told_table (K : PySem.W.Frag) (s_is_list : Sp) (s_are_values : Sp) (s_twin_of : Sp) (s_is_mirrored : Sp) : TS := (tSeq (tIfS (tOr (tNot (tB (tCall s_is_list [] E0 (tCons (tVar 0) tNil)))) (tNot (tTest (tChain rLeI rLeI (tC (.int 1)) (tCB (rLenN K) (tCons (tVar 0) tNil)) (tC (.int 8)))))) (tRet (tC .non)) tNext) (tSeq (tIfS (tNot (tB (tCB (rAll K) (tCons (tLc (iSeq K (tVar 0)) (gName 2) tYes (tCall s_are_values [] E0 (tCons (tVar 2) (tCons (tCB (rLenN K) (tCons (tVar 0) tNil)) tNil))) [2]) tNil)))) (tRet (tC .non)) tNext) (tSeq (tAsg (tLc (iSeq K (tVar 0)) (gName 2) tYes (tLc (iSeq K (tVar 2)) (gName 3) tYes (tCall s_twin_of [] E0 (tCons (tVar 3) tNil)) [3]) [2]) (gName 1)) (tRet (tIf (tB (tCall s_is_mirrored [] E0 (tCons (tVar 1) tNil))) (tVar 1) (tC .non))))))
theorem der_told_table (C : Cxt K mg) {s_is_list : Sp} {s_are_values : Sp} {s_twin_of : Sp} {s_is_mirrored : Sp} (c_is_list : C8.Cal P w K mg base j "is_list" s_is_list []) (c_are_values : C8.Cal P w K mg base j "are_values" s_are_values []) (c_twin_of : C8.Cal P w K mg base j "twin_of" s_twin_of []) (c_is_mirrored : C8.Cal P w K mg base j "is_mirrored" s_is_mirrored []) (cdv : Value) (A : Around) (outer : List Env) (s : Shared) (H : Hp) (E : XK) (hr : Room (j + 1) (A.deeper (envOfC d_told_table.ql (defScope d_told_table.st) s.heap.objs.size d_told_table.ad cdv))) :
    PSs (cxOf CX0 P w K mg base n_told_table d_told_table.ql (defScope d_told_table.st) d_told_table.ad cdv A outer s H E).nox (defBody d_told_table.st) (t_told_table K s_is_list s_are_values s_twin_of s_is_mirrored) := by
  have nd : (n_told_table).Nodup := by decide
  exact (pss_cons (ps_if (PW.pt (pw_or (pt_not (pt_val (C8.pe_c c_is_list hr (Nat.le_succ _) rfl (pa_cons (pe_var (i := 0) rfl (.inr (.inl rfl))) pa_nil)))) (pw_or1 (pt_not (pt_chain op_le op_le pe_int (pe_callB call_len_seq rfl (C.n C.T.f_len) PySem.boot_len (pa_cons (pe_var (i := 0) rfl (.inr (.inl rfl))) pa_nil)) (pe_int_glob C.most rfl)))))) (pss_one (ps_ret pe_non)) pss_nil) (pss_cons (ps_if (pt_not (pt_val (pe_callB (cr_all rfl) rfl (C.n C.T.f_all) PyProof.Rows.boot_all (pa_cons (pe_lc (own := [("row", 2)]) rfl nd (pi_seq (pi_list (pe_var (i := 0) rfl (.inr (.inl rfl)))) (pi_tup (pe_var (i := 0) rfl (.inr (.inl rfl))))) (blkOk_by (by kernel_rfl)) (fun _ _ _ _ _ => (pg_name (i := 2) nd rfl (.inl rfl) (.inr rfl))) (fun _ _ _ _ _ => pts_nil) (fun _ _ _ _ _ => (C8.pe_c c_are_values hr (Nat.le_succ _) rfl (pa_cons (pe_var (i := 2) rfl (.inl rfl)) (pa_cons (pe_callB call_len_seq rfl (C.n C.T.f_len) PySem.boot_len (pa_cons (pe_var (i := 0) rfl (.inr (.inl rfl))) pa_nil)) pa_nil))))) pa_nil)))) (pss_one (ps_ret pe_non)) pss_nil) (pss_cons (ps_setLc (i := 1) (own := [("row", 2)]) rfl nd rfl rfl (sw_true rfl rfl rfl (by decide +kernel)) (pi_seq (pi_list (pe_var (i := 0) rfl (.inr (.inl rfl)))) (pi_tup (pe_var (i := 0) rfl (.inr (.inl rfl))))) (blkOk_by (by kernel_rfl)) (fun _ _ _ _ _ => (pg_name (i := 2) nd rfl (.inl rfl) (.inr rfl))) (fun _ _ _ _ _ => pts_nil) (fun _ _ _ _ _ => (pe_lc (own := [("one", 3)]) rfl nd (pi_seq (pi_list (pe_var (i := 2) rfl (.inl rfl))) (pi_tup (pe_var (i := 2) rfl (.inl rfl)))) (blkOk_by (by kernel_rfl)) (fun _ _ _ _ _ => (pg_name (i := 3) nd rfl (.inl rfl) (.inr rfl))) (fun _ _ _ _ _ => pts_nil) (fun _ _ _ _ _ => (C8.pe_c c_twin_of hr (Nat.le_succ _) rfl (pa_cons (pe_var (i := 3) rfl (.inl rfl)) pa_nil)))))) (pss_one (ps_ret (pe_ifExp (pt_val (C8.pe_c c_is_mirrored hr (Nat.le_succ _) rfl (pa_cons (pe_var (i := 1) rfl (.inl rfl)) pa_nil))) (pe_var (i := 1) rfl (.inl rfl)) pe_non))))))
abbrev n_want_table : List Str := ["value", "found"]
abbrev p_want_table : List Str := ["value"]
theorem sc_want_table : FnScope n_want_table p_want_table (defScope d_want_table.st) := ⟨rfl, rfl, rfl, by decide +kernel, rfl, by decide +kernel, by decide +kernel⟩
def t_want_table (K : PySem.W.Frag) (s_told_table : Sp) : TS := (tSeq (tAsg (tCall s_told_table [] E0 (tCons (tVar 0) tNil)) (gName 1)) (tSeq (tIfS (tTest (tOp rIsN (tVar 1) (tC .non))) tNever tNext) (tRet (tVar 1))))
theorem der_want_table (C : Cxt K mg) {s_told_table : Sp} (c_told_table : C8.Cal P w K mg base j "told_table" s_told_table []) (cdv : Value) (A : Around) (outer : List Env) (s : Shared) (H : Hp) (E : XK) (hr : Room (j + 1) (A.deeper (envOfC d_want_table.ql (defScope d_want_table.st) s.heap.objs.size d_want_table.ad cdv))) :
    PSs (cxOf CX0 P w K mg base n_want_table d_want_table.ql (defScope d_want_table.st) d_want_table.ad cdv A outer s H E).nox (defBody d_want_table.st) (t_want_table K s_told_table) := by
  have nd : (n_want_table).Nodup := by decide
  exact (pss_cons (ps_set (i := 1) nd rfl (.inl rfl) (C8.pe_c c_told_table hr (Nat.le_succ _) rfl (pa_cons (pe_var (i := 0) rfl (.inl rfl)) pa_nil)) rfl (.inr rfl)) (pss_cons (ps_if (pt_cmpR op_isN (pe_var (i := 1) rfl (.inl rfl)) pe_non (by rfl)) (pss_one ps_never) pss_nil) (pss_one (ps_ret (pe_var (i := 1) rfl (.inl rfl))))))
abbrev n_pair_form : List Str := ["twins", "weights", "others", "mirrors", "one", "row"]
abbrev p_pair_form : List Str := ["twins", "weights", "others"]
theorem sc_pair_form : FnScope n_pair_form p_pair_form (defScope d_pair_form.st) := ⟨rfl, rfl, rfl, by decide +kernel, rfl, by decide +kernel, by decide +kernel⟩
def t_pair_form (K : PySem.W.Frag) (s_mt_CT_mirror : Sp) (s_product_sum : Sp) : TS := (tSeq (tAsg (tLc (iList K (tVar 2)) (gName 4) tYes (tMeth CT "mirror" s_mt_CT_mirror [] E0 (tVar 4) tNil) [4]) (gName 3)) (tRet (tCall s_product_sum [] E0 (tCons (tVar 1) (tCons (tLc (iList K (tVar 0)) (gName 5) tYes (tCall s_product_sum [] E0 (tCons (tVar 5) (tCons (tVar 3) tNil))) [5]) tNil)))))
theorem der_pair_form (C : Cxt K mg) {s_mt_CT_mirror : Sp} {s_product_sum : Sp} (c_mt_CT_mirror : C8.Met P w K mg base j CT "mirror" s_mt_CT_mirror []) (c_product_sum : C8.Cal P w K mg base j "product_sum" s_product_sum []) (cdv : Value) (A : Around) (outer : List Env) (s : Shared) (H : Hp) (E : XK) (hr : Room (j + 1) (A.deeper (envOfC d_pair_form.ql (defScope d_pair_form.st) s.heap.objs.size d_pair_form.ad cdv))) :
    PSs (cxOf CX0 P w K mg base n_pair_form d_pair_form.ql (defScope d_pair_form.st) d_pair_form.ad cdv A outer s H E).nox (defBody d_pair_form.st) (t_pair_form K s_mt_CT_mirror s_product_sum) := by
  have nd : (n_pair_form).Nodup := by decide
  exact (pss_cons (ps_set (i := 3) nd rfl (.inr rfl) (pe_lc (own := [("one", 4)]) rfl nd (pi_list (pe_var (i := 2) rfl (.inl rfl))) (blkOk_by (by kernel_rfl)) (fun _ _ _ _ _ => (pg_name (i := 4) nd rfl (.inl rfl) (.inr rfl))) (fun _ _ _ _ _ => pts_nil) (fun _ _ _ _ _ => (C8.pe_mt0 c_mt_CT_mirror hr (Nat.le_succ _) (pe_var (i := 4) rfl (.inl rfl))))) rfl (.inl rfl)) (pss_one (ps_ret (C8.pe_c c_product_sum hr (Nat.le_succ _) rfl (pa_cons (pe_var (i := 1) rfl (.inl rfl)) (pa_cons (pe_lc (own := [("row", 5)]) rfl nd (pi_list (pe_var (i := 0) rfl (.inl rfl))) (blkOk_by (by kernel_rfl)) (fun _ _ _ _ _ => (pg_name (i := 5) nd rfl (.inl rfl) (.inr rfl))) (fun _ _ _ _ _ => pts_nil) (fun _ _ _ _ _ => (C8.pe_c c_product_sum hr (Nat.le_succ _) rfl (pa_cons (pe_var (i := 5) rfl (.inl rfl)) (pa_cons (pe_var (i := 3) rfl (.inr (.inl rfl))) pa_nil))))) pa_nil))))))
abbrev n_form_of : List Str := ["twins", "weights"]
abbrev p_form_of : List Str := ["twins", "weights"]
theorem sc_form_of : FnScope n_form_of p_form_of (defScope d_form_of.st) := ⟨rfl, rfl, rfl, by decide +kernel, rfl, by decide +kernel, by decide +kernel⟩
def t_form_of (K : PySem.W.Frag) (s_pair_form : Sp) (s_pr_CT_plain : Sp) : TS := (tRet (tProp CT s_pr_CT_plain [] E0 (tCall s_pair_form [] E0 (tCons (tVar 0) (tCons (tVar 1) (tCons (tVar 1) tNil))))))
theorem der_form_of (C : Cxt K mg) {s_pair_form : Sp} {s_pr_CT_plain : Sp} (c_pair_form : C8.Cal P w K mg base j "pair_form" s_pair_form []) (c_pr_CT_plain : Prp P w K mg base j CT "plain" s_pr_CT_plain) (cdv : Value) (A : Around) (outer : List Env) (s : Shared) (H : Hp) (E : XK) (hr : Room (j + 1) (A.deeper (envOfC d_form_of.ql (defScope d_form_of.st) s.heap.objs.size d_form_of.ad cdv))) :
    PSs (cxOf CX0 P w K mg base n_form_of d_form_of.ql (defScope d_form_of.st) d_form_of.ad cdv A outer s H E).nox (defBody d_form_of.st) (t_form_of K s_pair_form s_pr_CT_plain) := by
  have nd : (n_form_of).Nodup := by decide
  exact (pss_one (ps_ret (pe_pr c_pr_CT_plain hr (Nat.le_refl _) (C8.pe_c c_pair_form hr (Nat.le_succ _) rfl (pa_cons (pe_var (i := 0) rfl (.inl rfl)) (pa_cons (pe_var (i := 1) rfl (.inl rfl)) (pa_cons (pe_var (i := 1) rfl (.inl rfl)) pa_nil)))) rfl)))
abbrev n_picked_of : List Str := ["twins", "positions", "near", "far"]
abbrev p_picked_of : List Str := ["twins", "positions"]
theorem sc_picked_of : FnScope n_picked_of p_picked_of (defScope d_picked_of.st) := ⟨rfl, rfl, rfl, by decide +kernel, rfl, by decide +kernel, by decide +kernel⟩
def t_picked_of (K : PySem.W.Frag) : TS := (tRet (tLc (iList K (tVar 1)) (gName 2) tYes (tLc (iList K (tVar 1)) (gName 3) tYes (tOp (rIxL K) (tOp (rIxL K) (tVar 0) (tVar 2)) (tVar 3)) [3]) [2]))
theorem der_picked_of (C : Cxt K mg) (cdv : Value) (A : Around) (outer : List Env) (s : Shared) (H : Hp) (E : XK) (hr : Room (j + 1) (A.deeper (envOfC d_picked_of.ql (defScope d_picked_of.st) s.heap.objs.size d_picked_of.ad cdv))) :
    PSs (cxOf CX0 P w K mg base n_picked_of d_picked_of.ql (defScope d_picked_of.st) d_picked_of.ad cdv A outer s H E).nox (defBody d_picked_of.st) (t_picked_of K) := by
  have nd : (n_picked_of).Nodup := by decide
  exact (pss_one (ps_ret (pe_lc (own := [("near", 2)]) rfl nd (pi_list (pe_var (i := 1) rfl (.inr (.inl rfl)))) (blkOk_by (by kernel_rfl)) (fun _ _ _ _ _ => (pg_name (i := 2) nd rfl (.inr rfl) (.inl rfl))) (fun _ _ _ _ _ => pts_nil) (fun _ _ _ _ _ => (pe_lc (own := [("far", 3)]) rfl nd (pi_list (pe_var (i := 1) rfl (.inr (.inl rfl)))) (blkOk_by (by kernel_rfl)) (fun _ _ _ _ _ => (pg_name (i := 3) nd rfl (.inl rfl) (.inr rfl))) (fun _ _ _ _ _ => pts_nil) (fun _ _ _ _ _ => (pe_ix ix_list (pe_ix ix_list (pe_var (i := 0) rfl (.inr (.inl rfl))) (pe_var (i := 2) rfl (.inr (.inl rfl))) (fun _ _ => rfl)) (pe_var (i := 3) rfl (.inl rfl)) (fun _ _ => rfl))))))))
abbrev n_are_positions : List Str := ["value", "many", "one", "far", "near"]
abbrev p_are_positions : List Str := ["value", "many"]
theorem sc_are_positions : FnScope n_are_positions p_are_positions (defScope d_are_positions.st) := ⟨rfl, rfl, rfl, by decide +kernel, rfl, by decide +kernel, by decide +kernel⟩
def t_are_positions (K : PySem.W.Frag) (s_is_list : Sp) (s_is_count : Sp) : TS := (tSeq (tIfS (tOr (tNot (tB (tCall s_is_list [] E0 (tCons (tVar 0) tNil)))) (tOr (tTest (tOp rEq (tCB (rLenN K) (tCons (tVar 0) tNil)) (tC (.int 0)))) (tNot (tB (tCB (rAll K) (tCons (tLc (iList K (tVar 0)) (gName 2) tYes (tAndV (tCall s_is_count [] E0 (tCons (tVar 2) tNil)) (tOp rLtI (tVar 2) (tVar 1))) [2]) tNil)))))) (tRet (tC (.bl false))) tNext) (tRet (tCB (rAll K) (tCons (tLc2 (iRng1 (tCons (tCB (rLenN K) (tCons (tVar 0) tNil)) tNil)) (gName 3) tYes (iRng1 (tCons (tVar 3) tNil)) (gName 4) tYes (tOp rNe (tOp (rIxL K) (tVar 0) (tVar 4)) (tOp (rIxL K) (tVar 0) (tVar 3))) [3, 4] [4]) tNil))))
theorem der_are_positions (C : Cxt K mg) {s_is_list : Sp} {s_is_count : Sp} (c_is_list : C8.Cal P w K mg base j "is_list" s_is_list []) (c_is_count : C8.Cal P w K mg base j "is_count" s_is_count []) (cdv : Value) (A : Around) (outer : List Env) (s : Shared) (H : Hp) (E : XK) (hr : Room (j + 1) (A.deeper (envOfC d_are_positions.ql (defScope d_are_positions.st) s.heap.objs.size d_are_positions.ad cdv))) :
    PSs (cxOf CX0 P w K mg base n_are_positions d_are_positions.ql (defScope d_are_positions.st) d_are_positions.ad cdv A outer s H E).nox (defBody d_are_positions.st) (t_are_positions K s_is_list s_is_count) := by
  have nd : (n_are_positions).Nodup := by decide
  exact (pss_cons (ps_if (PW.pt (pw_or (pt_not (pt_val (C8.pe_c c_is_list hr (Nat.le_succ _) rfl (pa_cons (pe_var (i := 0) rfl (.inr (.inl rfl))) pa_nil)))) (pw_or (pt_cmpR op_eq (pe_callB call_len_seq rfl (C.n C.T.f_len) PySem.boot_len (pa_cons (pe_var (i := 0) rfl (.inr (.inl rfl))) pa_nil)) pe_int (by rfl)) (pw_or1 (pt_not (pt_val (pe_callB (cr_all rfl) rfl (C.n C.T.f_all) PyProof.Rows.boot_all (pa_cons (pe_lc (own := [("one", 2)]) rfl nd (pi_list (pe_var (i := 0) rfl (.inr (.inl rfl)))) (blkOk_by (by kernel_rfl)) (fun _ _ _ _ _ => (pg_name (i := 2) nd rfl (.inl rfl) (.inr rfl))) (fun _ _ _ _ _ => pts_nil) (fun _ _ _ _ _ => (pe_and (C8.pe_c c_is_count hr (Nat.le_succ _) rfl (pa_cons (pe_var (i := 2) rfl (.inl rfl)) pa_nil)) (pe_one (pe_cmpR op_lt (pe_var (i := 2) rfl (.inl rfl)) (pe_var (i := 1) rfl (.inr (.inl rfl))) (by rfl)))))) pa_nil)))))))) (pss_one (ps_ret pe_bl)) pss_nil) (pss_one (ps_ret (pe_callB (cr_all rfl) rfl (C.n C.T.f_all) PyProof.Rows.boot_all (pa_cons (pe_lc2 (own := [("far", 3), ("near", 4)]) (vs1 := [4]) rfl nd (pi_range1 rfl (C.n C.T.f_range) (pa_cons (pe_callB call_len_seq rfl (C.n C.T.f_len) PySem.boot_len (pa_cons (pe_var (i := 0) rfl (.inr (.inl rfl))) pa_nil)) pa_nil)) (blkOk_by (by kernel_rfl)) (by decide) (fun _ _ _ _ _ => (pg_name (i := 3) nd rfl (.inl rfl) (.inr rfl))) (fun _ _ _ _ _ => pts_nil) (fun _ _ _ _ _ => (pi_range1 rfl (C.n C.T.f_range) (pa_cons (pe_var (i := 3) rfl (.inl rfl)) pa_nil))) (fun _ _ _ _ _ => (pg_name (i := 4) nd rfl (.inl rfl) (.inr rfl))) (fun _ _ _ _ _ => pts_nil) (fun _ _ _ _ _ => (pe_cmpR op_ne (pe_ix ix_list (pe_var (i := 0) rfl (.inr (.inl rfl))) (pe_var (i := 4) rfl (.inl rfl)) (fun _ _ => rfl)) (pe_ix ix_list (pe_var (i := 0) rfl (.inr (.inl rfl))) (pe_var (i := 3) rfl (.inl rfl)) (fun _ _ => rfl)) (by rfl)))) pa_nil)))))
abbrev n_picked : List Str := ["table", "positions", "twins"]
abbrev p_picked : List Str := ["table", "positions"]
theorem sc_picked : FnScope n_picked p_picked (defScope d_picked.st) := ⟨rfl, rfl, rfl, by decide +kernel, rfl, by decide +kernel, by decide +kernel⟩
def t_picked (K : PySem.W.Frag) (s_want_table : Sp) (s_are_positions : Sp) (s_picked_of : Sp) : TS := (tSeq (tAsg (tCall s_want_table [] E0 (tCons (tVar 0) tNil)) (gName 2)) (tSeq (tIfS (tNot (tB (tCall s_are_positions [] E0 (tCons (tVar 1) (tCons (tCB (rLenN K) (tCons (tVar 2) tNil)) tNil))))) tNever tNext) (tRet (tCall s_picked_of [] E0 (tCons (tVar 2) (tCons (tVar 1) tNil))))))
theorem der_picked (C : Cxt K mg) {s_want_table : Sp} {s_are_positions : Sp} {s_picked_of : Sp} (c_want_table : C8.Cal P w K mg base j "want_table" s_want_table []) (c_are_positions : C8.Cal P w K mg base j "are_positions" s_are_positions []) (c_picked_of : C8.Cal P w K mg base j "picked_of" s_picked_of []) (cdv : Value) (A : Around) (outer : List Env) (s : Shared) (H : Hp) (E : XK) (hr : Room (j + 1) (A.deeper (envOfC d_picked.ql (defScope d_picked.st) s.heap.objs.size d_picked.ad cdv))) :
    PSs (cxOf CX0 P w K mg base n_picked d_picked.ql (defScope d_picked.st) d_picked.ad cdv A outer s H E).nox (defBody d_picked.st) (t_picked K s_want_table s_are_positions s_picked_of) := by
  have nd : (n_picked).Nodup := by decide
  exact (pss_cons (ps_set (i := 2) nd rfl (.inl rfl) (C8.pe_c c_want_table hr (Nat.le_succ _) rfl (pa_cons (pe_var (i := 0) rfl (.inl rfl)) pa_nil)) rfl (.inr rfl)) (pss_cons (ps_if (pt_not (pt_val (C8.pe_c c_are_positions hr (Nat.le_succ _) rfl (pa_cons (pe_var (i := 1) rfl (.inl rfl)) (pa_cons (pe_callB call_len_seq rfl (C.n C.T.f_len) PySem.boot_len (pa_cons (pe_var (i := 2) rfl (.inl rfl)) pa_nil)) pa_nil))))) (pss_one ps_never) pss_nil) (pss_one (ps_ret (C8.pe_c c_picked_of hr (Nat.le_succ _) rfl (pa_cons (pe_var (i := 2) rfl (.inl rfl)) (pa_cons (pe_var (i := 1) rfl (.inl rfl)) pa_nil)))))))
abbrev n_Walk_init : List Str := ["self", "twins", "many", "row", "near", "far"]
abbrev p_Walk_init : List Str := ["self", "twins"]
theorem sc_Walk_init : FnScope n_Walk_init p_Walk_init (defScope d_Walk_init.st) := ⟨rfl, rfl, rfl, by decide +kernel, rfl, by decide +kernel, by decide +kernel⟩
def t_Walk_init (K : PySem.W.Frag) (s_one : Sp) (s_nought : Sp) : TS := (tSeq (tAsg (tCB (rLenN K) (tCons (tVar 1) tNil)) (gName 2)) (tSeq (sFld K (tVar 0) (tLc (iList K (tVar 1)) (gName 3) tYes (tCB (rListN K) (tCons (tVar 3) tNil)) [3]) "own_values") (tSeq (sFld K (tVar 0) (tLc (iRng1 (tCons (tVar 2) tNil)) (gName 4) tYes (tLc (iRng1 (tCons (tVar 2) tNil)) (gName 5) tYes (tIf (tTest (tOp rEq (tVar 4) (tVar 5))) (tCall s_one [] E0 tNil) (tCall s_nought [] E0 tNil)) [5]) [4]) "own_weights") (sFld K (tVar 0) (tLstRg (tRg1 (tVar 2))) "own_left"))))
theorem der_Walk_init (C : Cxt K mg) {s_one : Sp} {s_nought : Sp} (c_one : C8.Cal P w K mg base j "one" s_one []) (c_nought : C8.Cal P w K mg base j "nought" s_nought []) (cdv : Value) (A : Around) (outer : List Env) (s : Shared) (H : Hp) (E : XK) (hr : Room (j + 1) (A.deeper (envOfC d_Walk_init.ql (defScope d_Walk_init.st) s.heap.objs.size d_Walk_init.ad cdv))) :
    PSs (cxOf CX0 P w K mg base n_Walk_init d_Walk_init.ql (defScope d_Walk_init.st) d_Walk_init.ad cdv A outer s H E).nox (defBody d_Walk_init.st) (t_Walk_init K s_one s_nought) := by
  have nd : (n_Walk_init).Nodup := by decide
  exact (pss_cons (ps_set (i := 2) nd rfl (.inr rfl) (pe_callB call_len_seq rfl (C.n C.T.f_len) PySem.boot_len (pa_cons (pe_var (i := 1) rfl (.inl rfl)) pa_nil)) rfl (.inl rfl)) (pss_cons (ps_fld (pe_var (i := 0) rfl (.inl rfl)) (pe_lc (own := [("row", 3)]) rfl nd (pi_list (pe_var (i := 1) rfl (.inl rfl))) (blkOk_by (by kernel_rfl)) (fun _ _ _ _ _ => (pg_name (i := 3) nd rfl (.inl rfl) (.inr rfl))) (fun _ _ _ _ _ => pts_nil) (fun _ _ _ _ _ => (pe_callTy call_list_of rfl (C.n C.T.f_list) PyProof.Rows.boot_list (pa_cons (pe_var (i := 3) rfl (.inl rfl)) pa_nil)))) rfl) (pss_cons (ps_fld (pe_var (i := 0) rfl (.inl rfl)) (pe_lc (own := [("near", 4)]) rfl nd (pi_range1 rfl (C.n C.T.f_range) (pa_cons (pe_var (i := 2) rfl (.inr (.inl rfl))) pa_nil)) (blkOk_by (by kernel_rfl)) (fun _ _ _ _ _ => (pg_name (i := 4) nd rfl (.inr rfl) (.inl rfl))) (fun _ _ _ _ _ => pts_nil) (fun _ _ _ _ _ => (pe_lc (own := [("far", 5)]) rfl nd (pi_range1 rfl (C.n C.T.f_range) (pa_cons (pe_var (i := 2) rfl (.inr (.inl rfl))) pa_nil)) (blkOk_by (by kernel_rfl)) (fun _ _ _ _ _ => (pg_name (i := 5) nd rfl (.inl rfl) (.inr rfl))) (fun _ _ _ _ _ => pts_nil) (fun _ _ _ _ _ => (pe_ifExp (pt_cmpR op_eq (pe_var (i := 4) rfl (.inr (.inl rfl))) (pe_var (i := 5) rfl (.inl rfl)) (by rfl)) (pe_c0 c_one hr (Nat.le_succ _) rfl) (pe_c0 c_nought hr (Nat.le_succ _) rfl)))))) rfl) (pss_one (ps_fld (pe_var (i := 0) rfl (.inl rfl)) (pe_listRg rfl rfl (C.n C.T.f_list) (prg_1 rfl (C.n C.T.f_range) (pe_var (i := 2) rfl (.inr (.inl rfl))))) rfl)))))
abbrev n_Walk_middle : List Str := ["self", "place"]
abbrev p_Walk_middle : List Str := ["self", "place"]
theorem sc_Walk_middle : FnScope n_Walk_middle p_Walk_middle (defScope d_Walk_middle.st) := ⟨rfl, rfl, rfl, by decide +kernel, rfl, by decide +kernel, by decide +kernel⟩
def t_Walk_middle (K : PySem.W.Frag) (s_pr_CT_plain : Sp) : TS := (tRet (tProp CT s_pr_CT_plain [] E0 (tOp (rIxL K) (tOp (rIxL K) (tFld K (tVar 0) "own_values") (tVar 1)) (tVar 1))))
theorem der_Walk_middle (C : Cxt K mg) {s_pr_CT_plain : Sp} (c_pr_CT_plain : Prp P w K mg base j CT "plain" s_pr_CT_plain) (cdv : Value) (A : Around) (outer : List Env) (s : Shared) (H : Hp) (E : XK) (hr : Room (j + 1) (A.deeper (envOfC d_Walk_middle.ql (defScope d_Walk_middle.st) s.heap.objs.size d_Walk_middle.ad cdv))) :
    PSs (cxOf CX0 P w K mg base n_Walk_middle d_Walk_middle.ql (defScope d_Walk_middle.st) d_Walk_middle.ad cdv A outer s H E).nox (defBody d_Walk_middle.st) (t_Walk_middle K s_pr_CT_plain) := by
  have nd : (n_Walk_middle).Nodup := by decide
  exact (pss_one (ps_ret (pe_pr c_pr_CT_plain hr (Nat.le_refl _) (pe_ix ix_list (pe_ix ix_list (pe_fld (pe_var (i := 0) rfl (.inl rfl)) rfl) (pe_var (i := 1) rfl (.inl rfl)) (fun _ _ => rfl)) (pe_var (i := 1) rfl (.inl rfl)) (fun _ _ => rfl)) rfl)))
abbrev n_Walk_first_with : List Str := ["self", "sign", "place"]
abbrev p_Walk_first_with : List Str := ["self", "sign"]
theorem sc_Walk_first_with : FnScope n_Walk_first_with p_Walk_first_with (defScope d_Walk_first_with.st) := ⟨rfl, rfl, rfl, by decide +kernel, rfl, by decide +kernel, by decide +kernel⟩
def t_Walk_first_with (K : PySem.W.Frag) (s_mt_CW_middle : Sp) (s_pr_CR_sign : Sp) : TS := (tSeq (tFor (iList K (tFld K (tVar 0) "own_left")) (gName 2) (tIfS (tTest (tOp rEq (tProp CR s_pr_CR_sign [] E0 (tMeth CW "middle" s_mt_CW_middle [] E0 (tVar 0) (tCons (tVar 2) tNil))) (tVar 1))) (tRet (tVar 2)) tNext)) (tRet (tC .non)))
theorem der_Walk_first_with (C : Cxt K mg) {s_mt_CW_middle : Sp} {s_pr_CR_sign : Sp} (c_mt_CW_middle : C8.Met P w K mg base j CW "middle" s_mt_CW_middle []) (c_pr_CR_sign : Prp P w K mg base j CR "sign" s_pr_CR_sign) (cdv : Value) (A : Around) (outer : List Env) (s : Shared) (H : Hp) (E : XK) (hr : Room (j + 1) (A.deeper (envOfC d_Walk_first_with.ql (defScope d_Walk_first_with.st) s.heap.objs.size d_Walk_first_with.ad cdv))) :
    PSs (cxOf CX0 P w K mg base n_Walk_first_with d_Walk_first_with.ql (defScope d_Walk_first_with.st) d_Walk_first_with.ad cdv A outer s H E).nox (defBody d_Walk_first_with.st) (t_Walk_first_with K s_mt_CW_middle s_pr_CR_sign) := by
  have nd : (n_Walk_first_with).Nodup := by decide
  exact (pss_cons (ps_for PassesOwn.never rfl (pi_list (pe_fld (pe_var (i := 0) rfl (.inl rfl)) rfl)) (pg_name (i := 2) nd rfl (.inl rfl) (.inr rfl)) (pss_one (ps_if (pt_cmpR op_eq (pe_pr c_pr_CR_sign hr (Nat.le_refl _) (C8.pe_mt c_mt_CW_middle hr (Nat.le_succ _) (pe_var (i := 0) rfl (.inl rfl)) (pa_cons (pe_var (i := 2) rfl (.inl rfl)) pa_nil)) rfl) (pe_var (i := 1) rfl (.inl rfl)) (by rfl)) (pss_one (ps_ret (pe_var (i := 2) rfl (.inl rfl)))) pss_nil))) (pss_one (ps_ret pe_non)))
abbrev n_Walk_first_beside : List Str := ["self", "near", "far"]
abbrev p_Walk_first_beside : List Str := ["self"]
theorem sc_Walk_first_beside : FnScope n_Walk_first_beside p_Walk_first_beside (defScope d_Walk_first_beside.st) := ⟨rfl, rfl, rfl, by decide +kernel, rfl, by decide +kernel, by decide +kernel⟩
def t_Walk_first_beside (K : PySem.W.Frag) (s_mt_CW_middle : Sp) (s_pr_CR_sign : Sp) (s_pr_CT_is_nought : Sp) : TS := (tSeq (tFor (iList K (tFld K (tVar 0) "own_left")) (gName 1) (tFor (iList K (tFld K (tVar 0) "own_left")) (gName 2) (tIfS (tAnd (tTest (tOp rEq (tProp CR s_pr_CR_sign [] E0 (tMeth CW "middle" s_mt_CW_middle [] E0 (tVar 0) (tCons (tVar 1) tNil))) (tC (.int 0)))) (tNot (tB (tProp CT s_pr_CT_is_nought [] E0 (tOp (rIxL K) (tOp (rIxL K) (tFld K (tVar 0) "own_values") (tVar 1)) (tVar 2)))))) (tRet (tTup (tCons (tVar 1) (tCons (tVar 2) tNil)))) tNext))) (tRet (tC .non)))
theorem der_Walk_first_beside (C : Cxt K mg) {s_mt_CW_middle : Sp} {s_pr_CR_sign : Sp} {s_pr_CT_is_nought : Sp} (c_mt_CW_middle : C8.Met P w K mg base j CW "middle" s_mt_CW_middle []) (c_pr_CR_sign : Prp P w K mg base j CR "sign" s_pr_CR_sign) (c_pr_CT_is_nought : Prp P w K mg base j CT "is_nought" s_pr_CT_is_nought) (cdv : Value) (A : Around) (outer : List Env) (s : Shared) (H : Hp) (E : XK) (hr : Room (j + 1) (A.deeper (envOfC d_Walk_first_beside.ql (defScope d_Walk_first_beside.st) s.heap.objs.size d_Walk_first_beside.ad cdv))) :
    PSs (cxOf CX0 P w K mg base n_Walk_first_beside d_Walk_first_beside.ql (defScope d_Walk_first_beside.st) d_Walk_first_beside.ad cdv A outer s H E).nox (defBody d_Walk_first_beside.st) (t_Walk_first_beside K s_mt_CW_middle s_pr_CR_sign s_pr_CT_is_nought) := by
  have nd : (n_Walk_first_beside).Nodup := by decide
  exact (pss_cons (ps_for PassesOwn.never rfl (pi_list (pe_fld (pe_var (i := 0) rfl (.inl rfl)) rfl)) (pg_name (i := 1) nd rfl (.inl rfl) (.inr rfl)) (pss_one (ps_for PassesOwn.never rfl (pi_list (pe_fld (pe_var (i := 0) rfl (.inl rfl)) rfl)) (pg_name (i := 2) nd rfl (.inl rfl) (.inr rfl)) (pss_one (ps_if (PW.pt (pw_and (pt_cmpR op_eq (pe_pr c_pr_CR_sign hr (Nat.le_refl _) (C8.pe_mt c_mt_CW_middle hr (Nat.le_succ _) (pe_var (i := 0) rfl (.inl rfl)) (pa_cons (pe_var (i := 1) rfl (.inl rfl)) pa_nil)) rfl) pe_int (by rfl)) (pw_and1 (pt_not (pt_val (pe_pr c_pr_CT_is_nought hr (Nat.le_refl _) (pe_ix ix_list (pe_ix ix_list (pe_fld (pe_var (i := 0) rfl (.inl rfl)) rfl) (pe_var (i := 1) rfl (.inl rfl)) (fun _ _ => rfl)) (pe_var (i := 2) rfl (.inl rfl)) (fun _ _ => rfl)) rfl)))))) (pss_one (ps_ret (pe_tup (pa_cons (pe_var (i := 1) rfl (.inl rfl)) (pa_cons (pe_var (i := 2) rfl (.inl rfl)) pa_nil))))) pss_nil))))) (pss_one (ps_ret pe_non)))
abbrev n_Walk_column : List Str := ["self", "place", "own", "many", "at"]
abbrev p_Walk_column : List Str := ["self", "place"]
theorem sc_Walk_column : FnScope n_Walk_column p_Walk_column (defScope d_Walk_column.st) := ⟨rfl, rfl, rfl, by decide +kernel, rfl, by decide +kernel, by decide +kernel⟩
def t_Walk_column (K : PySem.W.Frag) (s_mt_CT_over : Sp) (s_nought : Sp) : TS := (tSeq (tAsg (tOp (rIxL K) (tOp (rIxL K) (tFld K (tVar 0) "own_values") (tVar 1)) (tVar 1)) (gName 2)) (tSeq (tAsg (tCB (rLenN K) (tCons (tFld K (tVar 0) "own_values") tNil)) (gName 3)) (tRet (tLc (iRng1 (tCons (tVar 3) tNil)) (gName 4) tYes (tIf (tTest (tOp (rIn K false) (tVar 4) (tFld K (tVar 0) "own_left"))) (tMeth CT "over" s_mt_CT_over [] E0 (tOp (rIxL K) (tOp (rIxL K) (tFld K (tVar 0) "own_values") (tVar 4)) (tVar 1)) (tCons (tVar 2) tNil)) (tCall s_nought [] E0 tNil)) [4]))))
theorem der_Walk_column (C : Cxt K mg) {s_mt_CT_over : Sp} {s_nought : Sp} (c_mt_CT_over : C8.Met P w K mg base j CT "over" s_mt_CT_over []) (c_nought : C8.Cal P w K mg base j "nought" s_nought []) (cdv : Value) (A : Around) (outer : List Env) (s : Shared) (H : Hp) (E : XK) (hr : Room (j + 1) (A.deeper (envOfC d_Walk_column.ql (defScope d_Walk_column.st) s.heap.objs.size d_Walk_column.ad cdv))) :
    PSs (cxOf CX0 P w K mg base n_Walk_column d_Walk_column.ql (defScope d_Walk_column.st) d_Walk_column.ad cdv A outer s H E).nox (defBody d_Walk_column.st) (t_Walk_column K s_mt_CT_over s_nought) := by
  have nd : (n_Walk_column).Nodup := by decide
  exact (pss_cons (ps_set (i := 2) nd rfl (.inr rfl) (pe_ix ix_list (pe_ix ix_list (pe_fld (pe_var (i := 0) rfl (.inr (.inl rfl))) rfl) (pe_var (i := 1) rfl (.inr (.inl rfl))) (fun _ _ => rfl)) (pe_var (i := 1) rfl (.inr (.inl rfl))) (fun _ _ => rfl)) rfl (.inl rfl)) (pss_cons (ps_set (i := 3) nd rfl (.inl rfl) (pe_callB call_len_seq rfl (C.n C.T.f_len) PySem.boot_len (pa_cons (pe_fld (pe_var (i := 0) rfl (.inr (.inl rfl))) rfl) pa_nil)) rfl (.inr rfl)) (pss_one (ps_ret (pe_lc (own := [("at", 4)]) rfl nd (pi_range1 rfl (C.n C.T.f_range) (pa_cons (pe_var (i := 3) rfl (.inl rfl)) pa_nil)) (blkOk_by (by kernel_rfl)) (fun _ _ _ _ _ => (pg_name (i := 4) nd rfl (.inl rfl) (.inr rfl))) (fun _ _ _ _ _ => pts_nil) (fun _ _ _ _ _ => (pe_ifExp (pt_cmpR op_in_seq (pe_var (i := 4) rfl (.inl rfl)) (pe_fld (pe_var (i := 0) rfl (.inr (.inl rfl))) rfl) (by rfl)) (C8.pe_mt c_mt_CT_over hr (Nat.le_succ _) (pe_ix ix_list (pe_ix ix_list (pe_fld (pe_var (i := 0) rfl (.inr (.inl rfl))) rfl) (pe_var (i := 4) rfl (.inl rfl)) (fun _ _ => rfl)) (pe_var (i := 1) rfl (.inr (.inl rfl))) (fun _ _ => rfl)) (pa_cons (pe_var (i := 2) rfl (.inr (.inl rfl))) pa_nil)) (pe_c0 c_nought hr (Nat.le_succ _) rfl))))))))
abbrev n_Walk_take : List Str := ["self", "place", "quotients", "row", "at"]
abbrev p_Walk_take : List Str := ["self", "place"]
theorem sc_Walk_take : FnScope n_Walk_take p_Walk_take (defScope d_Walk_take.st) := ⟨rfl, rfl, rfl, by decide +kernel, rfl, by decide +kernel, by decide +kernel⟩
def t_Walk_take (K : PySem.W.Frag) (s_mt_CW_column : Sp) (s_pr_CT_is_nought : Sp) (s_less_times : Sp) : TS := (tSeq (tPar 2 3 (tCons (tMeth CW "column" s_mt_CW_column [] E0 (tVar 0) (tCons (tVar 1) tNil)) (tCons (tOp (rIxL K) (tFld K (tVar 0) "own_values") (tVar 1)) tNil))) (tSeq (sFld K (tVar 0) (tLc (iList K (tFld K (tVar 0) "own_left")) (gName 4) (tTest (tOp rNe (tVar 4) (tVar 1))) (tVar 4) [4]) "own_left") (tFor (iList K (tFld K (tVar 0) "own_left")) (gName 4) (tIfS (tNot (tB (tProp CT s_pr_CT_is_nought [] E0 (tOp (rIxL K) (tVar 2) (tVar 4))))) (tSeq (tAsg (tCall s_less_times [] E0 (tCons (tOp (rIxL K) (tFld K (tVar 0) "own_values") (tVar 4)) (tCons (tOp (rIxL K) (tVar 2) (tVar 4)) (tCons (tVar 3) tNil)))) (gSub (tFld K (tVar 0) "own_values") (tVar 4) rSetL)) (tAsg (tCall s_less_times [] E0 (tCons (tOp (rIxL K) (tFld K (tVar 0) "own_weights") (tVar 4)) (tCons (tOp (rIxL K) (tVar 2) (tVar 4)) (tCons (tOp (rIxL K) (tFld K (tVar 0) "own_weights") (tVar 1)) tNil)))) (gSub (tFld K (tVar 0) "own_weights") (tVar 4) rSetL))) tNext))))
theorem der_Walk_take (C : Cxt K mg) {s_mt_CW_column : Sp} {s_pr_CT_is_nought : Sp} {s_less_times : Sp} (c_mt_CW_column : C8.Met P w K mg base j CW "column" s_mt_CW_column []) (c_pr_CT_is_nought : Prp P w K mg base j CT "is_nought" s_pr_CT_is_nought) (c_less_times : C8.Cal P w K mg base j "less_times" s_less_times []) (cdv : Value) (A : Around) (outer : List Env) (s : Shared) (H : Hp) (E : XK) (hr : Room (j + 1) (A.deeper (envOfC d_Walk_take.ql (defScope d_Walk_take.st) s.heap.objs.size d_Walk_take.ad cdv))) :
    PSs (cxOf CX0 P w K mg base n_Walk_take d_Walk_take.ql (defScope d_Walk_take.st) d_Walk_take.ad cdv A outer s H E).nox (defBody d_Walk_take.st) (t_Walk_take K s_mt_CW_column s_pr_CT_is_nought s_less_times) := by
  have nd : (n_Walk_take).Nodup := by decide
  exact (pss_cons (ps_par (i := 2) (j := 3) rfl nd rfl rfl (by decide) rfl rfl (pa_cons (C8.pe_mt c_mt_CW_column hr (Nat.le_succ _) (pe_var (i := 0) rfl (.inl rfl)) (pa_cons (pe_var (i := 1) rfl (.inr (.inl rfl))) pa_nil)) (pa_cons (pe_ix ix_list (pe_fld (pe_var (i := 0) rfl (.inl rfl)) rfl) (pe_var (i := 1) rfl (.inr (.inl rfl))) (fun _ _ => rfl)) pa_nil)) rfl) (pss_cons (ps_fld (pe_var (i := 0) rfl (.inl rfl)) (pe_lc (own := [("at", 4)]) rfl nd (pi_list (pe_fld (pe_var (i := 0) rfl (.inl rfl)) rfl)) (blkOk_by (by kernel_rfl)) (fun _ _ _ _ _ => (pg_name (i := 4) nd rfl (.inl rfl) (.inr rfl))) (fun _ _ _ _ _ => (pts_one (pt_cmpR op_ne (pe_var (i := 4) rfl (.inl rfl)) (pe_var (i := 1) rfl (.inr (.inl rfl))) (by rfl)))) (fun _ _ _ _ _ => (pe_var (i := 4) rfl (.inl rfl)))) rfl) (pss_one (ps_for PassesOwn.never rfl (pi_list (pe_fld (pe_var (i := 0) rfl (.inl rfl)) rfl)) (pg_name (i := 4) nd rfl (.inl rfl) (.inr rfl)) (pss_one (ps_if (pt_not (pt_val (pe_pr c_pr_CT_is_nought hr (Nat.le_refl _) (pe_ix ix_list (pe_var (i := 2) rfl (.inl rfl)) (pe_var (i := 4) rfl (.inl rfl)) (fun _ _ => rfl)) rfl))) (pss_cons (ps_asg (C8.pe_c c_less_times hr (Nat.le_succ _) rfl (pa_cons (pe_ix ix_list (pe_fld (pe_var (i := 0) rfl (.inl rfl)) rfl) (pe_var (i := 4) rfl (.inl rfl)) (fun _ _ => rfl)) (pa_cons (pe_ix ix_list (pe_var (i := 2) rfl (.inl rfl)) (pe_var (i := 4) rfl (.inl rfl)) (fun _ _ => rfl)) (pa_cons (pe_var (i := 3) rfl (.inl rfl)) pa_nil)))) (pg_sub (pe_fld (pe_var (i := 0) rfl (.inl rfl)) rfl) (pe_var (i := 4) rfl (.inl rfl)) set_list)) (pss_one (ps_asg (C8.pe_c c_less_times hr (Nat.le_succ _) rfl (pa_cons (pe_ix ix_list (pe_fld (pe_var (i := 0) rfl (.inl rfl)) rfl) (pe_var (i := 4) rfl (.inl rfl)) (fun _ _ => rfl)) (pa_cons (pe_ix ix_list (pe_var (i := 2) rfl (.inl rfl)) (pe_var (i := 4) rfl (.inl rfl)) (fun _ _ => rfl)) (pa_cons (pe_ix ix_list (pe_fld (pe_var (i := 0) rfl (.inl rfl)) rfl) (pe_var (i := 1) rfl (.inr (.inl rfl))) (fun _ _ => rfl)) pa_nil)))) (pg_sub (pe_fld (pe_var (i := 0) rfl (.inl rfl)) rfl) (pe_var (i := 4) rfl (.inl rfl)) set_list)))) pss_nil))))))
abbrev n_less_times : List Str := ["row", "twin", "other", "near", "far"]
abbrev p_less_times : List Str := ["row", "twin", "other"]
theorem sc_less_times : FnScope n_less_times p_less_times (defScope d_less_times.st) := ⟨rfl, rfl, rfl, by decide +kernel, rfl, by decide +kernel, by decide +kernel⟩
def t_less_times (K : PySem.W.Frag) (s_op_CT_Mult : Sp) (s_op_CT_Sub : Sp) : TS := (tRet (tLc (iZip K (tCons (tVar 0) (tCons (tVar 2) tNil))) (gTup K 2 (gCons (gName 3) (gCons (gName 4) gNil))) tYes (tOp (rOwn CT CT s_op_CT_Sub) (tVar 3) (tOp (rOwn CT CT s_op_CT_Mult) (tVar 1) (tVar 4))) [3, 4]))
theorem der_less_times (C : Cxt K mg) {s_op_CT_Mult : Sp} {s_op_CT_Sub : Sp} (c_op_CT_Mult : OwnB P w K mg base j CT .Mult s_op_CT_Mult) (c_op_CT_Sub : OwnB P w K mg base j CT .Sub s_op_CT_Sub) (cdv : Value) (A : Around) (outer : List Env) (s : Shared) (H : Hp) (E : XK) (hr : Room (j + 1) (A.deeper (envOfC d_less_times.ql (defScope d_less_times.st) s.heap.objs.size d_less_times.ad cdv))) :
    PSs (cxOf CX0 P w K mg base n_less_times d_less_times.ql (defScope d_less_times.st) d_less_times.ad cdv A outer s H E).nox (defBody d_less_times.st) (t_less_times K s_op_CT_Mult s_op_CT_Sub) := by
  have nd : (n_less_times).Nodup := by decide
  exact (pss_one (ps_ret (pe_lc (own := [("near", 3), ("far", 4)]) rfl nd (pi_zip rfl (C.n C.T.f_zip) (pa_cons (pe_var (i := 0) rfl (.inl rfl)) (pa_cons (pe_var (i := 2) rfl (.inl rfl)) pa_nil))) (blkOk_by (by kernel_rfl)) (fun _ _ _ _ _ => (pg_tup rfl (pgs_cons (pg_name (i := 3) nd rfl (.inl rfl) (.inr rfl)) (pgs_cons (pg_name (i := 4) nd rfl (.inl rfl) (.inr rfl)) pgs_nil)))) (fun _ _ _ _ _ => pts_nil) (fun _ _ _ _ _ => (pe_op (op_same c_op_CT_Sub hr (Nat.le_succ _)) (pe_var (i := 3) rfl (.inl rfl)) (pe_op (op_same c_op_CT_Mult hr (Nat.le_succ _)) (pe_var (i := 1) rfl (.inr (.inl rfl))) (pe_var (i := 4) rfl (.inl rfl))))))))
abbrev n_squares_of : List Str := ["twins", "walk", "found", "place"]
abbrev p_squares_of : List Str := ["twins"]
theorem sc_squares_of : FnScope n_squares_of p_squares_of (defScope d_squares_of.st) := ⟨rfl, rfl, rfl, by decide +kernel, rfl, by decide +kernel, by decide +kernel⟩
def t_squares_of (K : PySem.W.Frag) (s_mk_Walk : Sp) (s_mt_CW_first_with : Sp) (s_mt_CW_column : Sp) (s_mt_CW_middle : Sp) (s_mt_CW_take : Sp) (s_mt_CW_first_beside : Sp) : TS := (tSeq (tPar 1 2 (tCons (tMake CW s_mk_Walk [] E0 (tCons (tVar 0) tNil)) (tCons (tLst tNil) tNil))) (tSeq (tAsg (tMeth CW "first_with" s_mt_CW_first_with [] E0 (tVar 1) (tCons (tC (.int 1)) tNil)) (gName 3)) (tSeq (tWhile (tAnd (tTest (tOp rNotNn (tVar 3) (tC .non))) (tTest (tOp rIsN (tMeth CW "first_with" s_mt_CW_first_with [] E0 (tVar 1) (tCons (tUn rNeg (tC (.int 1))) tNil)) (tC .non)))) (tSeq (tDrop (tBM K "list" rAppend (tVar 2) (tCons (tTup (tCons (tMeth CW "middle" s_mt_CW_middle [] E0 (tVar 1) (tCons (tVar 3) tNil)) (tCons (tMeth CW "column" s_mt_CW_column [] E0 (tVar 1) (tCons (tVar 3) tNil)) tNil))) tNil))) (tSeq (tDrop (tMeth CW "take" s_mt_CW_take [] E0 (tVar 1) (tCons (tVar 3) tNil))) (tAsg (tMeth CW "first_with" s_mt_CW_first_with [] E0 (tVar 1) (tCons (tC (.int 1)) tNil)) (gName 3))))) (tSeq (tIfS (tOr (tTest (tOp rNotNn (tMeth CW "first_with" s_mt_CW_first_with [] E0 (tVar 1) (tCons (tUn rNeg (tC (.int 1))) tNil)) (tC .non))) (tTest (tOp rNotNn (tMeth CW "first_beside" s_mt_CW_first_beside [] E0 (tVar 1) tNil) (tC .non)))) (tRet (tC .non)) tNext) (tRet (tVar 2))))))
theorem der_squares_of (C : Cxt K mg) {s_mk_Walk : Sp} {s_mt_CW_first_with : Sp} {s_mt_CW_column : Sp} {s_mt_CW_middle : Sp} {s_mt_CW_take : Sp} {s_mt_CW_first_beside : Sp} (c_mk_Walk_0 : C8.Mak P w K mg base j "Walk" CW s_mk_Walk []) (c_mt_CW_first_with : C8.Met P w K mg base j CW "first_with" s_mt_CW_first_with []) (c_mt_CW_column : C8.Met P w K mg base j CW "column" s_mt_CW_column []) (c_mt_CW_middle : C8.Met P w K mg base j CW "middle" s_mt_CW_middle []) (c_mt_CW_take : C8.Met P w K mg base j CW "take" s_mt_CW_take []) (c_mt_CW_first_beside : C8.Met P w K mg base j CW "first_beside" s_mt_CW_first_beside []) (cdv : Value) (A : Around) (outer : List Env) (s : Shared) (H : Hp) (E : XK) (hr : Room (j + 1) (A.deeper (envOfC d_squares_of.ql (defScope d_squares_of.st) s.heap.objs.size d_squares_of.ad cdv))) :
    PSs (cxOf CX0 P w K mg base n_squares_of d_squares_of.ql (defScope d_squares_of.st) d_squares_of.ad cdv A outer s H E).nox (defBody d_squares_of.st) (t_squares_of K s_mk_Walk s_mt_CW_first_with s_mt_CW_column s_mt_CW_middle s_mt_CW_take s_mt_CW_first_beside) := by
  have nd : (n_squares_of).Nodup := by decide
  exact (pss_cons (ps_par (i := 1) (j := 2) rfl nd rfl rfl (by decide) rfl rfl (pa_cons (C8.pe_mk c_mk_Walk_0 hr (Nat.le_refl _) rfl (pa_cons (pe_var (i := 0) rfl (.inl rfl)) pa_nil)) (pa_cons (pe_lst pa_nil) pa_nil)) rfl) (pss_cons (ps_set (i := 3) nd rfl (.inl rfl) (C8.pe_mt c_mt_CW_first_with hr (Nat.le_succ _) (pe_var (i := 1) rfl (.inl rfl)) (pa_cons pe_int pa_nil)) rfl (.inr rfl)) (pss_cons (ps_while PassesOwn.never (PW.pt (pw_and (pt_cmpR op_notN (pe_var (i := 3) rfl (.inl rfl)) pe_non (by rfl)) (pw_and1 (pt_cmpR op_isN (C8.pe_mt c_mt_CW_first_with hr (Nat.le_succ _) (pe_var (i := 1) rfl (.inl rfl)) (pa_cons (pe_un un_neg pe_int) pa_nil)) pe_non (by rfl))))) (pss_cons (ps_expr (pe_app (pe_var (i := 2) rfl (.inl rfl)) (pe_tup (pa_cons (C8.pe_mt c_mt_CW_middle hr (Nat.le_succ _) (pe_var (i := 1) rfl (.inl rfl)) (pa_cons (pe_var (i := 3) rfl (.inl rfl)) pa_nil)) (pa_cons (C8.pe_mt c_mt_CW_column hr (Nat.le_succ _) (pe_var (i := 1) rfl (.inl rfl)) (pa_cons (pe_var (i := 3) rfl (.inl rfl)) pa_nil)) pa_nil))))) (pss_cons (ps_expr (C8.pe_mt c_mt_CW_take hr (Nat.le_succ _) (pe_var (i := 1) rfl (.inl rfl)) (pa_cons (pe_var (i := 3) rfl (.inl rfl)) pa_nil))) (pss_one (ps_set (i := 3) nd rfl (.inl rfl) (C8.pe_mt c_mt_CW_first_with hr (Nat.le_succ _) (pe_var (i := 1) rfl (.inl rfl)) (pa_cons pe_int pa_nil)) rfl (.inr rfl)))))) (pss_cons (ps_if (PW.pt (pw_or (pt_cmpR op_notN (C8.pe_mt c_mt_CW_first_with hr (Nat.le_succ _) (pe_var (i := 1) rfl (.inl rfl)) (pa_cons (pe_un un_neg pe_int) pa_nil)) pe_non (by rfl)) (pw_or1 (pt_cmpR op_notN (C8.pe_mt0 c_mt_CW_first_beside hr (Nat.le_succ _) (pe_var (i := 1) rfl (.inl rfl))) pe_non (by rfl))))) (pss_one (ps_ret pe_non)) pss_nil) (pss_one (ps_ret (pe_var (i := 2) rfl (.inl rfl))))))))
abbrev n_is_never_below_of : List Str := ["twins"]
abbrev p_is_never_below_of : List Str := ["twins"]
theorem sc_is_never_below_of : FnScope n_is_never_below_of p_is_never_below_of (defScope d_is_never_below_of.st) := ⟨rfl, rfl, rfl, by decide +kernel, rfl, by decide +kernel, by decide +kernel⟩
def t_is_never_below_of (K : PySem.W.Frag) (s_squares_of : Sp) : TS := (tRet (tOp rNotNn (tCall s_squares_of [] E0 (tCons (tVar 0) tNil)) (tC .non)))
theorem der_is_never_below_of (C : Cxt K mg) {s_squares_of : Sp} (c_squares_of : C8.Cal P w K mg base j "squares_of" s_squares_of []) (cdv : Value) (A : Around) (outer : List Env) (s : Shared) (H : Hp) (E : XK) (hr : Room (j + 1) (A.deeper (envOfC d_is_never_below_of.ql (defScope d_is_never_below_of.st) s.heap.objs.size d_is_never_below_of.ad cdv))) :
    PSs (cxOf CX0 P w K mg base n_is_never_below_of d_is_never_below_of.ql (defScope d_is_never_below_of.st) d_is_never_below_of.ad cdv A outer s H E).nox (defBody d_is_never_below_of.st) (t_is_never_below_of K s_squares_of) := by
  have nd : (n_is_never_below_of).Nodup := by decide
  exact (pss_one (ps_ret (pe_cmpR op_notN (C8.pe_c c_squares_of hr (Nat.le_succ _) rfl (pa_cons (pe_var (i := 0) rfl (.inl rfl)) pa_nil)) pe_non (by rfl))))
abbrev n_is_never_below : List Str := ["table"]
abbrev p_is_never_below : List Str := ["table"]
theorem sc_is_never_below : FnScope n_is_never_below p_is_never_below (defScope d_is_never_below.st) := ⟨rfl, rfl, rfl, by decide +kernel, rfl, by decide +kernel, by decide +kernel⟩
def t_is_never_below (K : PySem.W.Frag) (s_is_never_below_of : Sp) (s_want_table : Sp) : TS := (tRet (tCall s_is_never_below_of [] E0 (tCons (tCall s_want_table [] E0 (tCons (tVar 0) tNil)) tNil)))
theorem der_is_never_below (C : Cxt K mg) {s_is_never_below_of : Sp} {s_want_table : Sp} (c_is_never_below_of : C8.Cal P w K mg base j "is_never_below_of" s_is_never_below_of []) (c_want_table : C8.Cal P w K mg base j "want_table" s_want_table []) (cdv : Value) (A : Around) (outer : List Env) (s : Shared) (H : Hp) (E : XK) (hr : Room (j + 1) (A.deeper (envOfC d_is_never_below.ql (defScope d_is_never_below.st) s.heap.objs.size d_is_never_below.ad cdv))) :
    PSs (cxOf CX0 P w K mg base n_is_never_below d_is_never_below.ql (defScope d_is_never_below.st) d_is_never_below.ad cdv A outer s H E).nox (defBody d_is_never_below.st) (t_is_never_below K s_is_never_below_of s_want_table) := by
  have nd : (n_is_never_below).Nodup := by decide
  exact (pss_one (ps_ret (C8.pe_c c_is_never_below_of hr (Nat.le_succ _) rfl (pa_cons (C8.pe_c c_want_table hr (Nat.le_succ _) rfl (pa_cons (pe_var (i := 0) rfl (.inl rfl)) pa_nil)) pa_nil))))
abbrev n_bent : List Str := ["walk", "near", "far", "between", "times", "turn", "one", "other"]
abbrev p_bent : List Str := ["walk", "near", "far"]
theorem sc_bent : FnScope n_bent p_bent (defScope d_bent.st) := ⟨rfl, rfl, rfl, by decide +kernel, rfl, by decide +kernel, by decide +kernel⟩
def t_bent (K : PySem.W.Frag) (s_mt_CW_middle : Sp) (s_op_CR_Add : Sp) (s_mt_CR_over : Sp) (s_mt_CT_size : Sp) (s_mk_Ratio : Sp) (s_op_CR_Mult : Sp) (s_mt_CT_mirror : Sp) (s_op_CT_Mult : Sp) (s_op_CT_Add : Sp) : TS := (tSeq (tAsg (tOp (rIxL K) (tOp (rIxL K) (tFld K (tVar 0) "own_values") (tVar 1)) (tVar 2)) (gName 3)) (tSeq (tAsg (tMeth CR "over" s_mt_CR_over [] E0 (tOp (rOwnI CR s_op_CR_Add) (tMeth CW "middle" s_mt_CW_middle [] E0 (tVar 0) (tCons (tVar 2) tNil)) (tC (.int 1))) (tCons (tOp (rOwn CR CR s_op_CR_Mult) (tMeth CT "size" s_mt_CT_size [] E0 (tVar 3) tNil) (tMake CR s_mk_Ratio [.int 1] E0 (tCons (tUn rNeg (tC (.int 2))) tNil))) tNil)) (gName 4)) (tSeq (tAsg (tOp (rOwn CT CR s_op_CT_Mult) (tMeth CT "mirror" s_mt_CT_mirror [] E0 (tVar 3) tNil) (tVar 4)) (gName 5)) (tRet (tLc (iZip K (tCons (tOp (rIxL K) (tFld K (tVar 0) "own_weights") (tVar 1)) (tCons (tOp (rIxL K) (tFld K (tVar 0) "own_weights") (tVar 2)) tNil))) (gTup K 2 (gCons (gName 6) (gCons (gName 7) gNil))) tYes (tOp (rOwn CT CT s_op_CT_Add) (tOp (rOwn CT CT s_op_CT_Mult) (tVar 5) (tVar 6)) (tVar 7)) [6, 7])))))
theorem der_bent (C : Cxt K mg) {s_mt_CW_middle : Sp} {s_op_CR_Add : Sp} {s_mt_CR_over : Sp} {s_mt_CT_size : Sp} {s_mk_Ratio : Sp} {s_op_CR_Mult : Sp} {s_mt_CT_mirror : Sp} {s_op_CT_Mult : Sp} {s_op_CT_Add : Sp} (c_mt_CW_middle : C8.Met P w K mg base j CW "middle" s_mt_CW_middle []) (c_op_CR_Add : OwnB P w K mg base j CR .Add s_op_CR_Add) (c_mt_CR_over : C8.Met P w K mg base j CR "over" s_mt_CR_over []) (c_mt_CT_size : C8.Met P w K mg base j CT "size" s_mt_CT_size []) (c_mk_Ratio_1 : C8.Mak P w K mg base j "Ratio" CR s_mk_Ratio [.int 1]) (c_op_CR_Mult : OwnB P w K mg base j CR .Mult s_op_CR_Mult) (c_mt_CT_mirror : C8.Met P w K mg base j CT "mirror" s_mt_CT_mirror []) (c_op_CT_Mult : OwnB P w K mg base j CT .Mult s_op_CT_Mult) (c_op_CT_Add : OwnB P w K mg base j CT .Add s_op_CT_Add) (cdv : Value) (A : Around) (outer : List Env) (s : Shared) (H : Hp) (E : XK) (hr : Room (j + 1) (A.deeper (envOfC d_bent.ql (defScope d_bent.st) s.heap.objs.size d_bent.ad cdv))) :
    PSs (cxOf CX0 P w K mg base n_bent d_bent.ql (defScope d_bent.st) d_bent.ad cdv A outer s H E).nox (defBody d_bent.st) (t_bent K s_mt_CW_middle s_op_CR_Add s_mt_CR_over s_mt_CT_size s_mk_Ratio s_op_CR_Mult s_mt_CT_mirror s_op_CT_Mult s_op_CT_Add) := by
  have nd : (n_bent).Nodup := by decide
  exact (pss_cons (ps_set (i := 3) nd rfl (.inl rfl) (pe_ix ix_list (pe_ix ix_list (pe_fld (pe_var (i := 0) rfl (.inl rfl)) rfl) (pe_var (i := 1) rfl (.inl rfl)) (fun _ _ => rfl)) (pe_var (i := 2) rfl (.inl rfl)) (fun _ _ => rfl)) rfl (.inr rfl)) (pss_cons (ps_set (i := 4) nd rfl (.inl rfl) (C8.pe_mt c_mt_CR_over hr (Nat.le_succ _) (pe_op (op_int c_op_CR_Add C.T.iL_add C.T.iR_add (of_decide_eq_true C.T.subiR) hr (Nat.le_succ _)) (C8.pe_mt c_mt_CW_middle hr (Nat.le_succ _) (pe_var (i := 0) rfl (.inl rfl)) (pa_cons (pe_var (i := 2) rfl (.inl rfl)) pa_nil)) pe_int) (pa_cons (pe_op (op_same c_op_CR_Mult hr (Nat.le_succ _)) (C8.pe_mt0 c_mt_CT_size hr (Nat.le_succ _) (pe_var (i := 3) rfl (.inl rfl))) (C8.pe_mk c_mk_Ratio_1 hr (Nat.le_refl _) rfl (pa_cons (pe_un un_neg pe_int) pa_nil))) pa_nil)) rfl (.inr rfl)) (pss_cons (ps_set (i := 5) nd rfl (.inr rfl) (pe_op (op_two c_op_CT_Mult c_op_CR_Mult (of_decide_eq_true C.T.subRT) (by decide) hr (Nat.le_succ _)) (C8.pe_mt0 c_mt_CT_mirror hr (Nat.le_succ _) (pe_var (i := 3) rfl (.inl rfl))) (pe_var (i := 4) rfl (.inl rfl))) rfl (.inl rfl)) (pss_one (ps_ret (pe_lc (own := [("one", 6), ("other", 7)]) rfl nd (pi_zip rfl (C.n C.T.f_zip) (pa_cons (pe_ix ix_list (pe_fld (pe_var (i := 0) rfl (.inl rfl)) rfl) (pe_var (i := 1) rfl (.inl rfl)) (fun _ _ => rfl)) (pa_cons (pe_ix ix_list (pe_fld (pe_var (i := 0) rfl (.inl rfl)) rfl) (pe_var (i := 2) rfl (.inl rfl)) (fun _ _ => rfl)) pa_nil))) (blkOk_by (by kernel_rfl)) (fun _ _ _ _ _ => (pg_tup rfl (pgs_cons (pg_name (i := 6) nd rfl (.inl rfl) (.inr rfl)) (pgs_cons (pg_name (i := 7) nd rfl (.inl rfl) (.inr rfl)) pgs_nil)))) (fun _ _ _ _ _ => pts_nil) (fun _ _ _ _ _ => (pe_op (op_same c_op_CT_Add hr (Nat.le_succ _)) (pe_op (op_same c_op_CT_Mult hr (Nat.le_succ _)) (pe_var (i := 5) rfl (.inr (.inl rfl))) (pe_var (i := 6) rfl (.inl rfl))) (pe_var (i := 7) rfl (.inl rfl))))))))))
abbrev n_bar_of : List Str := ["twins", "walk", "low", "pair", "place"]
abbrev p_bar_of : List Str := ["twins"]
theorem sc_bar_of : FnScope n_bar_of p_bar_of (defScope d_bar_of.st) := ⟨rfl, rfl, rfl, by decide +kernel, rfl, by decide +kernel, by decide +kernel⟩
def t_bar_of (K : PySem.W.Frag) (s_mk_Walk : Sp) (s_mt_CW_first_beside : Sp) (s_mt_CW_first_with : Sp) (s_bent : Sp) (s_mt_CW_take : Sp) : TS := (tSeq (tAsg (tMake CW s_mk_Walk [] E0 (tCons (tVar 0) tNil)) (gName 1)) (tSeq (tWhile (tTest (tOp (rNeD K) (tFld K (tVar 1) "own_left") (tLst tNil))) (tSeq (tPar 2 3 (tCons (tMeth CW "first_with" s_mt_CW_first_with [] E0 (tVar 1) (tCons (tUn rNeg (tC (.int 1))) tNil)) (tCons (tMeth CW "first_beside" s_mt_CW_first_beside [] E0 (tVar 1) tNil) tNil))) (tSeq (tIfS (tTest (tOp rNotNn (tVar 2) (tC .non))) (tRet (tOp (rIxL K) (tFld K (tVar 1) "own_weights") (tVar 2))) tNext) (tSeq (tIfS (tTest (tOp rNotNn (tVar 3) (tC .non))) (tRet (tCall s_bent [] E0 (tCons (tVar 1) (tCons (tOp (rIxT K) (tVar 3) (tC (.int 0))) (tCons (tOp (rIxT K) (tVar 3) (tC (.int 1))) tNil))))) tNext) (tSeq (tAsg (tMeth CW "first_with" s_mt_CW_first_with [] E0 (tVar 1) (tCons (tC (.int 1)) tNil)) (gName 4)) (tSeq (tIfS (tTest (tOp rIsN (tVar 4) (tC .non))) (tRet (tC .non)) tNext) (tDrop (tMeth CW "take" s_mt_CW_take [] E0 (tVar 1) (tCons (tVar 4) tNil))))))))) (tRet (tC .non))))
theorem der_bar_of (C : Cxt K mg) {s_mk_Walk : Sp} {s_mt_CW_first_beside : Sp} {s_mt_CW_first_with : Sp} {s_bent : Sp} {s_mt_CW_take : Sp} (c_mk_Walk_0 : C8.Mak P w K mg base j "Walk" CW s_mk_Walk []) (c_mt_CW_first_beside : C8.Met P w K mg base j CW "first_beside" s_mt_CW_first_beside []) (c_mt_CW_first_with : C8.Met P w K mg base j CW "first_with" s_mt_CW_first_with []) (c_bent : C8.Cal P w K mg base j "bent" s_bent []) (c_mt_CW_take : C8.Met P w K mg base j CW "take" s_mt_CW_take []) (cdv : Value) (A : Around) (outer : List Env) (s : Shared) (H : Hp) (E : XK) (hr : Room (j + 1) (A.deeper (envOfC d_bar_of.ql (defScope d_bar_of.st) s.heap.objs.size d_bar_of.ad cdv))) :
    PSs (cxOf CX0 P w K mg base n_bar_of d_bar_of.ql (defScope d_bar_of.st) d_bar_of.ad cdv A outer s H E).nox (defBody d_bar_of.st) (t_bar_of K s_mk_Walk s_mt_CW_first_beside s_mt_CW_first_with s_bent s_mt_CW_take) := by
  have nd : (n_bar_of).Nodup := by decide
  exact (pss_cons (ps_set (i := 1) nd rfl (.inl rfl) (C8.pe_mk c_mk_Walk_0 hr (Nat.le_refl _) rfl (pa_cons (pe_var (i := 0) rfl (.inl rfl)) pa_nil)) rfl (.inr rfl)) (pss_cons (ps_while PassesOwn.never (pt_cmpR (op_neD hr.units) (pe_fld (pe_var (i := 1) rfl (.inl rfl)) rfl) (pe_lst pa_nil) (by rfl)) (pss_cons (ps_par (i := 2) (j := 3) rfl nd rfl rfl (by decide) rfl rfl (pa_cons (C8.pe_mt c_mt_CW_first_with hr (Nat.le_succ _) (pe_var (i := 1) rfl (.inl rfl)) (pa_cons (pe_un un_neg pe_int) pa_nil)) (pa_cons (C8.pe_mt0 c_mt_CW_first_beside hr (Nat.le_succ _) (pe_var (i := 1) rfl (.inl rfl))) pa_nil)) rfl) (pss_cons (ps_if (pt_cmpR op_notN (pe_var (i := 2) rfl (.inl rfl)) pe_non (by rfl)) (pss_one (ps_ret (pe_ix ix_list (pe_fld (pe_var (i := 1) rfl (.inl rfl)) rfl) (pe_var (i := 2) rfl (.inl rfl)) (fun _ _ => rfl)))) pss_nil) (pss_cons (ps_if (pt_cmpR op_notN (pe_var (i := 3) rfl (.inl rfl)) pe_non (by rfl)) (pss_one (ps_ret (C8.pe_c c_bent hr (Nat.le_succ _) rfl (pa_cons (pe_var (i := 1) rfl (.inl rfl)) (pa_cons (pe_ix ix_tup (pe_var (i := 3) rfl (.inl rfl)) pe_int (fun _ _ => rfl)) (pa_cons (pe_ix ix_tup (pe_var (i := 3) rfl (.inl rfl)) pe_int (fun _ _ => rfl)) pa_nil)))))) pss_nil) (pss_cons (ps_set (i := 4) nd rfl (.inl rfl) (C8.pe_mt c_mt_CW_first_with hr (Nat.le_succ _) (pe_var (i := 1) rfl (.inl rfl)) (pa_cons pe_int pa_nil)) rfl (.inr rfl)) (pss_cons (ps_if (pt_cmpR op_isN (pe_var (i := 4) rfl (.inl rfl)) pe_non (by rfl)) (pss_one (ps_ret pe_non)) pss_nil) (pss_one (ps_expr (C8.pe_mt c_mt_CW_take hr (Nat.le_succ _) (pe_var (i := 1) rfl (.inl rfl)) (pa_cons (pe_var (i := 4) rfl (.inl rfl)) pa_nil)))))))))) (pss_one (ps_ret pe_non))))
abbrev n_bar : List Str := ["table"]
abbrev p_bar : List Str := ["table"]
theorem sc_bar : FnScope n_bar p_bar (defScope d_bar.st) := ⟨rfl, rfl, rfl, by decide +kernel, rfl, by decide +kernel, by decide +kernel⟩
def t_bar (K : PySem.W.Frag) (s_bar_of : Sp) (s_want_table : Sp) : TS := (tRet (tCall s_bar_of [] E0 (tCons (tCall s_want_table [] E0 (tCons (tVar 0) tNil)) tNil)))
theorem der_bar (C : Cxt K mg) {s_bar_of : Sp} {s_want_table : Sp} (c_bar_of : C8.Cal P w K mg base j "bar_of" s_bar_of []) (c_want_table : C8.Cal P w K mg base j "want_table" s_want_table []) (cdv : Value) (A : Around) (outer : List Env) (s : Shared) (H : Hp) (E : XK) (hr : Room (j + 1) (A.deeper (envOfC d_bar.ql (defScope d_bar.st) s.heap.objs.size d_bar.ad cdv))) :
    PSs (cxOf CX0 P w K mg base n_bar d_bar.ql (defScope d_bar.st) d_bar.ad cdv A outer s H E).nox (defBody d_bar.st) (t_bar K s_bar_of s_want_table) := by
  have nd : (n_bar).Nodup := by decide
  exact (pss_one (ps_ret (C8.pe_c c_bar_of hr (Nat.le_succ _) rfl (pa_cons (C8.pe_c c_want_table hr (Nat.le_succ _) rfl (pa_cons (pe_var (i := 0) rfl (.inl rfl)) pa_nil)) pa_nil))))
abbrev n_is_bar : List Str := ["table", "value", "twins", "one"]
abbrev p_is_bar : List Str := ["table", "value"]
theorem sc_is_bar : FnScope n_is_bar p_is_bar (defScope d_is_bar.st) := ⟨rfl, rfl, rfl, by decide +kernel, rfl, by decide +kernel, by decide +kernel⟩
def t_is_bar (K : PySem.W.Frag) (s_want_table : Sp) (s_are_values : Sp) (s_form_of : Sp) (s_twin_of : Sp) (s_pr_CR_sign : Sp) : TS := (tSeq (tAsg (tCall s_want_table [] E0 (tCons (tVar 0) tNil)) (gName 2)) (tRet (tAndV (tCall s_are_values [] E0 (tCons (tVar 1) (tCons (tCB (rLenN K) (tCons (tVar 2) tNil)) tNil))) (tOp rLtI (tProp CR s_pr_CR_sign [] E0 (tCall s_form_of [] E0 (tCons (tVar 2) (tCons (tLc (iList K (tVar 1)) (gName 3) tYes (tCall s_twin_of [] E0 (tCons (tVar 3) tNil)) [3]) tNil)))) (tC (.int 0))))))
theorem der_is_bar (C : Cxt K mg) {s_want_table : Sp} {s_are_values : Sp} {s_form_of : Sp} {s_twin_of : Sp} {s_pr_CR_sign : Sp} (c_want_table : C8.Cal P w K mg base j "want_table" s_want_table []) (c_are_values : C8.Cal P w K mg base j "are_values" s_are_values []) (c_form_of : C8.Cal P w K mg base j "form_of" s_form_of []) (c_twin_of : C8.Cal P w K mg base j "twin_of" s_twin_of []) (c_pr_CR_sign : Prp P w K mg base j CR "sign" s_pr_CR_sign) (cdv : Value) (A : Around) (outer : List Env) (s : Shared) (H : Hp) (E : XK) (hr : Room (j + 1) (A.deeper (envOfC d_is_bar.ql (defScope d_is_bar.st) s.heap.objs.size d_is_bar.ad cdv))) :
    PSs (cxOf CX0 P w K mg base n_is_bar d_is_bar.ql (defScope d_is_bar.st) d_is_bar.ad cdv A outer s H E).nox (defBody d_is_bar.st) (t_is_bar K s_want_table s_are_values s_form_of s_twin_of s_pr_CR_sign) := by
  have nd : (n_is_bar).Nodup := by decide
  exact (pss_cons (ps_set (i := 2) nd rfl (.inl rfl) (C8.pe_c c_want_table hr (Nat.le_succ _) rfl (pa_cons (pe_var (i := 0) rfl (.inl rfl)) pa_nil)) rfl (.inr rfl)) (pss_one (ps_ret (pe_and (C8.pe_c c_are_values hr (Nat.le_succ _) rfl (pa_cons (pe_var (i := 1) rfl (.inl rfl)) (pa_cons (pe_callB call_len_seq rfl (C.n C.T.f_len) PySem.boot_len (pa_cons (pe_var (i := 2) rfl (.inl rfl)) pa_nil)) pa_nil))) (pe_one (pe_cmpR op_lt (pe_pr c_pr_CR_sign hr (Nat.le_refl _) (C8.pe_c c_form_of hr (Nat.le_succ _) rfl (pa_cons (pe_var (i := 2) rfl (.inl rfl)) (pa_cons (pe_lc (own := [("one", 3)]) rfl nd (pi_list (pe_var (i := 1) rfl (.inl rfl))) (blkOk_by (by kernel_rfl)) (fun _ _ _ _ _ => (pg_name (i := 3) nd rfl (.inl rfl) (.inr rfl))) (fun _ _ _ _ _ => pts_nil) (fun _ _ _ _ _ => (C8.pe_c c_twin_of hr (Nat.le_succ _) rfl (pa_cons (pe_var (i := 3) rfl (.inl rfl)) pa_nil)))) pa_nil))) rfl) pe_int (by rfl)))))))
abbrev n_least_part_of : List Str := ["twins", "many"]
abbrev p_least_part_of : List Str := ["twins"]
theorem sc_least_part_of : FnScope n_least_part_of p_least_part_of (defScope d_least_part_of.st) := ⟨rfl, rfl, rfl, by decide +kernel, rfl, by decide +kernel, by decide +kernel⟩
def t_least_part_of (K : PySem.W.Frag) (s_is_never_below_of : Sp) (s_picked_of : Sp) : TS := (tSeq (tFor (iRng1 (tCons (tCB (rLenN K) (tCons (tVar 0) tNil)) tNil)) (gName 1) (tIfS (tNot (tB (tCall s_is_never_below_of [] E0 (tCons (tCall s_picked_of [] E0 (tCons (tVar 0) (tCons (tLstRg (tRg1 (tOp rAddI (tVar 1) (tC (.int 1))))) tNil))) tNil)))) (tRet (tVar 1)) tNext)) (tRet (tC .non)))
theorem der_least_part_of (C : Cxt K mg) {s_is_never_below_of : Sp} {s_picked_of : Sp} (c_is_never_below_of : C8.Cal P w K mg base j "is_never_below_of" s_is_never_below_of []) (c_picked_of : C8.Cal P w K mg base j "picked_of" s_picked_of []) (cdv : Value) (A : Around) (outer : List Env) (s : Shared) (H : Hp) (E : XK) (hr : Room (j + 1) (A.deeper (envOfC d_least_part_of.ql (defScope d_least_part_of.st) s.heap.objs.size d_least_part_of.ad cdv))) :
    PSs (cxOf CX0 P w K mg base n_least_part_of d_least_part_of.ql (defScope d_least_part_of.st) d_least_part_of.ad cdv A outer s H E).nox (defBody d_least_part_of.st) (t_least_part_of K s_is_never_below_of s_picked_of) := by
  have nd : (n_least_part_of).Nodup := by decide
  exact (pss_cons (ps_for PassesOwn.never rfl (pi_range1 rfl (C.n C.T.f_range) (pa_cons (pe_callB call_len_seq rfl (C.n C.T.f_len) PySem.boot_len (pa_cons (pe_var (i := 0) rfl (.inl rfl)) pa_nil)) pa_nil)) (pg_name (i := 1) nd rfl (.inl rfl) (.inr rfl)) (pss_one (ps_if (pt_not (pt_val (C8.pe_c c_is_never_below_of hr (Nat.le_succ _) rfl (pa_cons (C8.pe_c c_picked_of hr (Nat.le_succ _) rfl (pa_cons (pe_var (i := 0) rfl (.inl rfl)) (pa_cons (pe_listRg rfl rfl (C.n C.T.f_list) (prg_1 rfl (C.n C.T.f_range) (pe_op op_add (pe_var (i := 1) rfl (.inl rfl)) pe_int))) pa_nil))) pa_nil)))) (pss_one (ps_ret (pe_var (i := 1) rfl (.inl rfl)))) pss_nil))) (pss_one (ps_ret pe_non)))
abbrev n_least_part : List Str := ["table"]
abbrev p_least_part : List Str := ["table"]
theorem sc_least_part : FnScope n_least_part p_least_part (defScope d_least_part.st) := ⟨rfl, rfl, rfl, by decide +kernel, rfl, by decide +kernel, by decide +kernel⟩
def t_least_part (K : PySem.W.Frag) (s_least_part_of : Sp) (s_want_table : Sp) : TS := (tRet (tCall s_least_part_of [] E0 (tCons (tCall s_want_table [] E0 (tCons (tVar 0) tNil)) tNil)))
theorem der_least_part (C : Cxt K mg) {s_least_part_of : Sp} {s_want_table : Sp} (c_least_part_of : C8.Cal P w K mg base j "least_part_of" s_least_part_of []) (c_want_table : C8.Cal P w K mg base j "want_table" s_want_table []) (cdv : Value) (A : Around) (outer : List Env) (s : Shared) (H : Hp) (E : XK) (hr : Room (j + 1) (A.deeper (envOfC d_least_part.ql (defScope d_least_part.st) s.heap.objs.size d_least_part.ad cdv))) :
    PSs (cxOf CX0 P w K mg base n_least_part d_least_part.ql (defScope d_least_part.st) d_least_part.ad cdv A outer s H E).nox (defBody d_least_part.st) (t_least_part K s_least_part_of s_want_table) := by
  have nd : (n_least_part).Nodup := by decide
  exact (pss_one (ps_ret (C8.pe_c c_least_part_of hr (Nat.le_succ _) rfl (pa_cons (C8.pe_c c_want_table hr (Nat.le_succ _) rfl (pa_cons (pe_var (i := 0) rfl (.inl rfl)) pa_nil)) pa_nil))))
abbrev n_take_two : List Str := ["walk", "near", "far", "values", "to", "back", "at", "ahead", "behind"]
abbrev p_take_two : List Str := ["walk", "near", "far"]
theorem sc_take_two : FnScope n_take_two p_take_two (defScope d_take_two.st) := ⟨rfl, rfl, rfl, by decide +kernel, rfl, by decide +kernel, by decide +kernel⟩
def t_take_two (K : PySem.W.Frag) (s_mt_CT_over : Sp) (s_less_times : Sp) : TS := (tSeq (tAsg (tFld K (tVar 0) "own_values") (gName 3)) (tSeq (sFld K (tVar 0) (tLc (iList K (tFld K (tVar 0) "own_left")) (gName 6) (tAnd (tTest (tOp rNe (tVar 6) (tVar 1))) (tTest (tOp rNe (tVar 6) (tVar 2)))) (tVar 6) [6]) "own_left") (tSeq (tPar 4 5 (tCons (tOp (rIxL K) (tOp (rIxL K) (tVar 3) (tVar 1)) (tVar 2)) (tCons (tOp (rIxL K) (tOp (rIxL K) (tVar 3) (tVar 2)) (tVar 1)) tNil))) (tFor (iList K (tFld K (tVar 0) "own_left")) (gName 6) (tSeq (tPar 7 8 (tCons (tMeth CT "over" s_mt_CT_over [] E0 (tOp (rIxL K) (tOp (rIxL K) (tVar 3) (tVar 6)) (tVar 1)) (tCons (tVar 5) tNil)) (tCons (tMeth CT "over" s_mt_CT_over [] E0 (tOp (rIxL K) (tOp (rIxL K) (tVar 3) (tVar 6)) (tVar 2)) (tCons (tVar 4) tNil)) tNil))) (tAsg (tCall s_less_times [] E0 (tCons (tCall s_less_times [] E0 (tCons (tOp (rIxL K) (tVar 3) (tVar 6)) (tCons (tVar 7) (tCons (tOp (rIxL K) (tVar 3) (tVar 2)) tNil)))) (tCons (tVar 8) (tCons (tOp (rIxL K) (tVar 3) (tVar 1)) tNil)))) (gSub (tVar 3) (tVar 6) rSetL)))))))
theorem der_take_two (C : Cxt K mg) {s_mt_CT_over : Sp} {s_less_times : Sp} (c_mt_CT_over : C8.Met P w K mg base j CT "over" s_mt_CT_over []) (c_less_times : C8.Cal P w K mg base j "less_times" s_less_times []) (cdv : Value) (A : Around) (outer : List Env) (s : Shared) (H : Hp) (E : XK) (hr : Room (j + 1) (A.deeper (envOfC d_take_two.ql (defScope d_take_two.st) s.heap.objs.size d_take_two.ad cdv))) :
    PSs (cxOf CX0 P w K mg base n_take_two d_take_two.ql (defScope d_take_two.st) d_take_two.ad cdv A outer s H E).nox (defBody d_take_two.st) (t_take_two K s_mt_CT_over s_less_times) := by
  have nd : (n_take_two).Nodup := by decide
  exact (pss_cons (ps_set (i := 3) nd rfl (.inl rfl) (pe_fld (pe_var (i := 0) rfl (.inl rfl)) rfl) rfl (.inr rfl)) (pss_cons (ps_fld (pe_var (i := 0) rfl (.inl rfl)) (pe_lc (own := [("at", 6)]) rfl nd (pi_list (pe_fld (pe_var (i := 0) rfl (.inl rfl)) rfl)) (blkOk_by (by kernel_rfl)) (fun _ _ _ _ _ => (pg_name (i := 6) nd rfl (.inl rfl) (.inr rfl))) (fun _ _ _ _ _ => (pts_one (PW.pt (pw_and (pt_cmpR op_ne (pe_var (i := 6) rfl (.inl rfl)) (pe_var (i := 1) rfl (.inr (.inl rfl))) (by rfl)) (pw_and1 (pt_cmpR op_ne (pe_var (i := 6) rfl (.inl rfl)) (pe_var (i := 2) rfl (.inr (.inl rfl))) (by rfl))))))) (fun _ _ _ _ _ => (pe_var (i := 6) rfl (.inl rfl)))) rfl) (pss_cons (ps_par (i := 4) (j := 5) rfl nd rfl rfl (by decide) rfl rfl (pa_cons (pe_ix ix_list (pe_ix ix_list (pe_var (i := 3) rfl (.inl rfl)) (pe_var (i := 1) rfl (.inr (.inl rfl))) (fun _ _ => rfl)) (pe_var (i := 2) rfl (.inr (.inl rfl))) (fun _ _ => rfl)) (pa_cons (pe_ix ix_list (pe_ix ix_list (pe_var (i := 3) rfl (.inl rfl)) (pe_var (i := 2) rfl (.inr (.inl rfl))) (fun _ _ => rfl)) (pe_var (i := 1) rfl (.inr (.inl rfl))) (fun _ _ => rfl)) pa_nil)) rfl) (pss_one (ps_for PassesOwn.never rfl (pi_list (pe_fld (pe_var (i := 0) rfl (.inl rfl)) rfl)) (pg_name (i := 6) nd rfl (.inl rfl) (.inr rfl)) (pss_cons (ps_par (i := 7) (j := 8) rfl nd rfl rfl (by decide) rfl rfl (pa_cons (C8.pe_mt c_mt_CT_over hr (Nat.le_succ _) (pe_ix ix_list (pe_ix ix_list (pe_var (i := 3) rfl (.inl rfl)) (pe_var (i := 6) rfl (.inl rfl)) (fun _ _ => rfl)) (pe_var (i := 1) rfl (.inr (.inl rfl))) (fun _ _ => rfl)) (pa_cons (pe_var (i := 5) rfl (.inl rfl)) pa_nil)) (pa_cons (C8.pe_mt c_mt_CT_over hr (Nat.le_succ _) (pe_ix ix_list (pe_ix ix_list (pe_var (i := 3) rfl (.inl rfl)) (pe_var (i := 6) rfl (.inl rfl)) (fun _ _ => rfl)) (pe_var (i := 2) rfl (.inr (.inl rfl))) (fun _ _ => rfl)) (pa_cons (pe_var (i := 4) rfl (.inl rfl)) pa_nil)) pa_nil)) rfl) (pss_one (ps_asg (C8.pe_c c_less_times hr (Nat.le_succ _) rfl (pa_cons (C8.pe_c c_less_times hr (Nat.le_succ _) rfl (pa_cons (pe_ix ix_list (pe_var (i := 3) rfl (.inl rfl)) (pe_var (i := 6) rfl (.inl rfl)) (fun _ _ => rfl)) (pa_cons (pe_var (i := 7) rfl (.inl rfl)) (pa_cons (pe_ix ix_list (pe_var (i := 3) rfl (.inl rfl)) (pe_var (i := 2) rfl (.inr (.inl rfl))) (fun _ _ => rfl)) pa_nil)))) (pa_cons (pe_var (i := 8) rfl (.inl rfl)) (pa_cons (pe_ix ix_list (pe_var (i := 3) rfl (.inl rfl)) (pe_var (i := 1) rfl (.inr (.inl rfl))) (fun _ _ => rfl)) pa_nil)))) (pg_sub (pe_var (i := 3) rfl (.inl rfl)) (pe_var (i := 6) rfl (.inl rfl)) set_list)))))))))
abbrev n_walked : List Str := ["twins", "walk", "above", "below", "product", "high", "low", "pair", "place"]
abbrev p_walked : List Str := ["twins"]
theorem sc_walked : FnScope n_walked p_walked (defScope d_walked.st) := ⟨rfl, rfl, rfl, by decide +kernel, rfl, by decide +kernel, by decide +kernel⟩
def t_walked (K : PySem.W.Frag) (s_mk_Ratio : Sp) (s_mk_Walk : Sp) (s_mt_CW_first_with : Sp) (s_mt_CW_first_beside : Sp) (s_mt_CT_size : Sp) (s_op_CR_Mult : Sp) (s_take_two : Sp) (s_mt_CW_middle : Sp) (s_mt_CW_take : Sp) : TS := (tSeq (tAsg (tTup (tCons (tMake CW s_mk_Walk [] E0 (tCons (tVar 0) tNil)) (tCons (tC (.int 0)) (tCons (tC (.int 0)) (tCons (tMake CR s_mk_Ratio [.int 1] E0 (tCons (tC (.int 1)) tNil)) tNil))))) (gTup K 4 (gCons (gName 1) (gCons (gName 2) (gCons (gName 3) (gCons (gName 4) gNil)))))) (tSeq (tWhile (tTest (tOp (rNeD K) (tFld K (tVar 1) "own_left") (tLst tNil))) (tSeq (tPar3 5 6 7 (tCons (tMeth CW "first_with" s_mt_CW_first_with [] E0 (tVar 1) (tCons (tC (.int 1)) tNil)) (tCons (tMeth CW "first_with" s_mt_CW_first_with [] E0 (tVar 1) (tCons (tUn rNeg (tC (.int 1))) tNil)) (tCons (tC .non) tNil)))) (tSeq (tIfS (tAnd (tTest (tOp rIsN (tVar 5) (tC .non))) (tTest (tOp rIsN (tVar 6) (tC .non)))) (tSeq (tAsg (tMeth CW "first_beside" s_mt_CW_first_beside [] E0 (tVar 1) tNil) (gName 7)) (tSeq (tIfS (tTest (tOp rIsN (tVar 7) (tC .non))) tBreak tNext) (tSeq (tAsg (tOp (rOwn CR CR s_op_CR_Mult) (tOp (rOwn CR CR s_op_CR_Mult) (tVar 4) (tMeth CT "size" s_mt_CT_size [] E0 (tOp (rIxL K) (tOp (rIxL K) (tFld K (tVar 1) "own_values") (tOp (rIxT K) (tVar 7) (tC (.int 0)))) (tOp (rIxT K) (tVar 7) (tC (.int 1)))) tNil)) (tMake CR s_mk_Ratio [.int 1] E0 (tCons (tUn rNeg (tC (.int 1))) tNil))) (gName 4)) (tDrop (tCall s_take_two [] E0 (tCons (tVar 1) (tCons (tOp (rIxT K) (tVar 7) (tC (.int 0))) (tCons (tOp (rIxT K) (tVar 7) (tC (.int 1))) tNil)))))))) (tSeq (tAsg (tIf (tTest (tOp rIsN (tVar 5) (tC .non))) (tVar 6) (tVar 5)) (gName 8)) (tSeq (tAsg (tOp (rOwn CR CR s_op_CR_Mult) (tVar 4) (tMeth CW "middle" s_mt_CW_middle [] E0 (tVar 1) (tCons (tVar 8) tNil))) (gName 4)) (tDrop (tMeth CW "take" s_mt_CW_take [] E0 (tVar 1) (tCons (tVar 8) tNil)))))) (tSeq (tAsg (tOp rAddI (tVar 2) (tCB (rInt1) (tCons (tOrV (tOp rNotNn (tVar 5) (tC .non)) (tOp rNotNn (tVar 7) (tC .non))) tNil))) (gName 2)) (tAsg (tOp rAddI (tVar 3) (tCB (rInt1) (tCons (tOp rIsN (tVar 5) (tC .non)) tNil))) (gName 3)))))) (tRet (tTup (tCons (tVar 2) (tCons (tCB (rLenN K) (tCons (tFld K (tVar 1) "own_left") tNil)) (tCons (tVar 3) (tCons (tVar 4) tNil))))))))
theorem der_walked (C : Cxt K mg) {s_mk_Ratio : Sp} {s_mk_Walk : Sp} {s_mt_CW_first_with : Sp} {s_mt_CW_first_beside : Sp} {s_mt_CT_size : Sp} {s_op_CR_Mult : Sp} {s_take_two : Sp} {s_mt_CW_middle : Sp} {s_mt_CW_take : Sp} (c_mk_Ratio_1 : C8.Mak P w K mg base j "Ratio" CR s_mk_Ratio [.int 1]) (c_mk_Walk_0 : C8.Mak P w K mg base j "Walk" CW s_mk_Walk []) (c_mt_CW_first_with : C8.Met P w K mg base j CW "first_with" s_mt_CW_first_with []) (c_mt_CW_first_beside : C8.Met P w K mg base j CW "first_beside" s_mt_CW_first_beside []) (c_mt_CT_size : C8.Met P w K mg base j CT "size" s_mt_CT_size []) (c_op_CR_Mult : OwnB P w K mg base j CR .Mult s_op_CR_Mult) (c_take_two : C8.Cal P w K mg base j "take_two" s_take_two []) (c_mt_CW_middle : C8.Met P w K mg base j CW "middle" s_mt_CW_middle []) (c_mt_CW_take : C8.Met P w K mg base j CW "take" s_mt_CW_take []) (cdv : Value) (A : Around) (outer : List Env) (s : Shared) (H : Hp) (E : XK) (hr : Room (j + 1) (A.deeper (envOfC d_walked.ql (defScope d_walked.st) s.heap.objs.size d_walked.ad cdv))) :
    PSs (cxOf CX0 P w K mg base n_walked d_walked.ql (defScope d_walked.st) d_walked.ad cdv A outer s H E).nox (defBody d_walked.st) (t_walked K s_mk_Ratio s_mk_Walk s_mt_CW_first_with s_mt_CW_first_beside s_mt_CT_size s_op_CR_Mult s_take_two s_mt_CW_middle s_mt_CW_take) := by
  have nd : (n_walked).Nodup := by decide
  exact (pss_cons (ps_asg (pe_tup (pa_cons (C8.pe_mk c_mk_Walk_0 hr (Nat.le_refl _) rfl (pa_cons (pe_var (i := 0) rfl (.inl rfl)) pa_nil)) (pa_cons pe_int (pa_cons pe_int (pa_cons (C8.pe_mk c_mk_Ratio_1 hr (Nat.le_refl _) rfl (pa_cons pe_int pa_nil)) pa_nil))))) (pg_tup rfl (pgs_cons (pg_name (i := 1) nd rfl (.inl rfl) (.inr rfl)) (pgs_cons (pg_name (i := 2) nd rfl (.inl rfl) (.inr rfl)) (pgs_cons (pg_name (i := 3) nd rfl (.inl rfl) (.inr rfl)) (pgs_cons (pg_name (i := 4) nd rfl (.inl rfl) (.inr rfl)) pgs_nil)))))) (pss_cons (ps_while PassesOwn.never (pt_cmpR (op_neD hr.units) (pe_fld (pe_var (i := 1) rfl (.inl rfl)) rfl) (pe_lst pa_nil) (by rfl)) (pss_cons (ps_par3 (i := 5) (j := 6) (l := 7) rfl nd rfl rfl rfl (by decide) (by decide) (by decide) rfl rfl rfl (pa_cons (C8.pe_mt c_mt_CW_first_with hr (Nat.le_succ _) (pe_var (i := 1) rfl (.inl rfl)) (pa_cons pe_int pa_nil)) (pa_cons (C8.pe_mt c_mt_CW_first_with hr (Nat.le_succ _) (pe_var (i := 1) rfl (.inl rfl)) (pa_cons (pe_un un_neg pe_int) pa_nil)) (pa_cons pe_non pa_nil))) rfl) (pss_cons (ps_if (PW.pt (pw_and (pt_cmpR op_isN (pe_var (i := 5) rfl (.inl rfl)) pe_non (by rfl)) (pw_and1 (pt_cmpR op_isN (pe_var (i := 6) rfl (.inl rfl)) pe_non (by rfl))))) (pss_cons (ps_set (i := 7) nd rfl (.inl rfl) (C8.pe_mt0 c_mt_CW_first_beside hr (Nat.le_succ _) (pe_var (i := 1) rfl (.inl rfl))) rfl (.inr rfl)) (pss_cons (ps_if (pt_cmpR op_isN (pe_var (i := 7) rfl (.inl rfl)) pe_non (by rfl)) (pss_one ps_break) pss_nil) (pss_cons (ps_set (i := 4) nd rfl (.inl rfl) (pe_op (op_same c_op_CR_Mult hr (Nat.le_succ _)) (pe_op (op_same c_op_CR_Mult hr (Nat.le_succ _)) (pe_var (i := 4) rfl (.inl rfl)) (C8.pe_mt0 c_mt_CT_size hr (Nat.le_succ _) (pe_ix ix_list (pe_ix ix_list (pe_fld (pe_var (i := 1) rfl (.inl rfl)) rfl) (pe_ix ix_tup (pe_var (i := 7) rfl (.inl rfl)) pe_int (fun _ _ => rfl)) (fun _ _ => rfl)) (pe_ix ix_tup (pe_var (i := 7) rfl (.inl rfl)) pe_int (fun _ _ => rfl)) (fun _ _ => rfl)))) (C8.pe_mk c_mk_Ratio_1 hr (Nat.le_refl _) rfl (pa_cons (pe_un un_neg pe_int) pa_nil))) rfl (.inr rfl)) (pss_one (ps_expr (C8.pe_c c_take_two hr (Nat.le_succ _) rfl (pa_cons (pe_var (i := 1) rfl (.inl rfl)) (pa_cons (pe_ix ix_tup (pe_var (i := 7) rfl (.inl rfl)) pe_int (fun _ _ => rfl)) (pa_cons (pe_ix ix_tup (pe_var (i := 7) rfl (.inl rfl)) pe_int (fun _ _ => rfl)) pa_nil))))))))) (pss_cons (ps_set (i := 8) nd rfl (.inl rfl) (pe_ifExp (pt_cmpR op_isN (pe_var (i := 5) rfl (.inl rfl)) pe_non (by rfl)) (pe_var (i := 6) rfl (.inl rfl)) (pe_var (i := 5) rfl (.inl rfl))) rfl (.inr rfl)) (pss_cons (ps_set (i := 4) nd rfl (.inl rfl) (pe_op (op_same c_op_CR_Mult hr (Nat.le_succ _)) (pe_var (i := 4) rfl (.inl rfl)) (C8.pe_mt c_mt_CW_middle hr (Nat.le_succ _) (pe_var (i := 1) rfl (.inl rfl)) (pa_cons (pe_var (i := 8) rfl (.inl rfl)) pa_nil))) rfl (.inr rfl)) (pss_one (ps_expr (C8.pe_mt c_mt_CW_take hr (Nat.le_succ _) (pe_var (i := 1) rfl (.inl rfl)) (pa_cons (pe_var (i := 8) rfl (.inl rfl)) pa_nil))))))) (pss_cons (ps_set (i := 2) nd rfl (.inl rfl) (pe_op op_add (pe_var (i := 2) rfl (.inl rfl)) (pe_callTy call_int1 rfl (C.n C.T.f_int) PyProof.Rows.boot_int (pa_cons (pe_or (pe_cmpR op_notN (pe_var (i := 5) rfl (.inl rfl)) pe_non (by rfl)) (pe_one (pe_cmpR op_notN (pe_var (i := 7) rfl (.inl rfl)) pe_non (by rfl)))) pa_nil))) rfl (.inr rfl)) (pss_one (ps_set (i := 3) nd rfl (.inl rfl) (pe_op op_add (pe_var (i := 3) rfl (.inl rfl)) (pe_callTy call_int1 rfl (C.n C.T.f_int) PyProof.Rows.boot_int (pa_cons (pe_cmpR op_isN (pe_var (i := 5) rfl (.inl rfl)) pe_non (by rfl)) pa_nil))) rfl (.inr rfl))))))) (pss_one (ps_ret (pe_tup (pa_cons (pe_var (i := 2) rfl (.inl rfl)) (pa_cons (pe_callB call_len_seq rfl (C.n C.T.f_len) PySem.boot_len (pa_cons (pe_fld (pe_var (i := 1) rfl (.inl rfl)) rfl) pa_nil)) (pa_cons (pe_var (i := 3) rfl (.inl rfl)) (pa_cons (pe_var (i := 4) rfl (.inl rfl)) pa_nil)))))))))
abbrev n_determinant : List Str := ["table", "above", "at", "below", "product"]
abbrev p_determinant : List Str := ["table"]
theorem sc_determinant : FnScope n_determinant p_determinant (defScope d_determinant.st) := ⟨rfl, rfl, rfl, by decide +kernel, rfl, by decide +kernel, by decide +kernel⟩
def t_determinant (K : PySem.W.Frag) (s_walked : Sp) (s_want_table : Sp) (s_mk_Ratio : Sp) : TS := (tSeq (tAsg (tCall s_walked [] E0 (tCons (tCall s_want_table [] E0 (tCons (tVar 0) tNil)) tNil)) (gTup K 4 (gCons (gName 1) (gCons (gName 2) (gCons (gName 3) (gCons (gName 4) gNil)))))) (tRet (tIf (tTest (tOp rEq (tVar 2) (tC (.int 0)))) (tVar 4) (tMake CR s_mk_Ratio [.int 1] E0 (tCons (tC (.int 0)) tNil)))))
theorem der_determinant (C : Cxt K mg) {s_walked : Sp} {s_want_table : Sp} {s_mk_Ratio : Sp} (c_walked : C8.Cal P w K mg base j "walked" s_walked []) (c_want_table : C8.Cal P w K mg base j "want_table" s_want_table []) (c_mk_Ratio_1 : C8.Mak P w K mg base j "Ratio" CR s_mk_Ratio [.int 1]) (cdv : Value) (A : Around) (outer : List Env) (s : Shared) (H : Hp) (E : XK) (hr : Room (j + 1) (A.deeper (envOfC d_determinant.ql (defScope d_determinant.st) s.heap.objs.size d_determinant.ad cdv))) :
    PSs (cxOf CX0 P w K mg base n_determinant d_determinant.ql (defScope d_determinant.st) d_determinant.ad cdv A outer s H E).nox (defBody d_determinant.st) (t_determinant K s_walked s_want_table s_mk_Ratio) := by
  have nd : (n_determinant).Nodup := by decide
  exact (pss_cons (ps_asg (C8.pe_c c_walked hr (Nat.le_succ _) rfl (pa_cons (C8.pe_c c_want_table hr (Nat.le_succ _) rfl (pa_cons (pe_var (i := 0) rfl (.inl rfl)) pa_nil)) pa_nil)) (pg_tup rfl (pgs_cons (pg_name (i := 1) nd rfl (.inl rfl) (.inr rfl)) (pgs_cons (pg_name (i := 2) nd rfl (.inl rfl) (.inr rfl)) (pgs_cons (pg_name (i := 3) nd rfl (.inl rfl) (.inr rfl)) (pgs_cons (pg_name (i := 4) nd rfl (.inl rfl) (.inr rfl)) pgs_nil)))))) (pss_one (ps_ret (pe_ifExp (pt_cmpR op_eq (pe_var (i := 2) rfl (.inl rfl)) pe_int (by rfl)) (pe_var (i := 4) rfl (.inl rfl)) (C8.pe_mk c_mk_Ratio_1 hr (Nat.le_refl _) rfl (pa_cons pe_int pa_nil))))))
end N640

set_option Elab.async false
set_option linter.all false
set_option maxRecDepth 100000
set_option maxHeartbeats 4000000
/-! Derivations (printed by gen_der.py). -/
namespace N640
open PySem PySem.Spec PyProof.Rows L2
variable {P : Program} {w : World} {K : PySem.W.Frag} {mg : Str → Option Value} {base : Heap} {j : Nat}
abbrev n_L_pot : List Str := ["_law_script", "_law_k", "_law_cell"]
abbrev p_L_pot : List Str := ["_law_script", "_law_k"]
theorem sc_L_pot : FnScope n_L_pot p_L_pot (defScope d_L_pot.st) := ⟨rfl, rfl, rfl, by decide +kernel, rfl, by decide +kernel, by decide +kernel⟩
def t_L_pot (K : PySem.W.Frag) : TS := (tSeq (tAsg (tIf (tTest (tOp rLtI (tVar 1) (tCB (rLenN K) (tCons (tVar 0) tNil)))) (tCB (rAbs1) (tCons (tOp (rIxL K) (tVar 0) (tVar 1)) tNil)) (tOp rAddI (tOp rMulW (tC (.int 67)) (tVar 1)) (tC (.int 41)))) (gName 2)) (tRet (tLst (tCons (tCB (rMax2) (tCons (tC (.int 0)) (tCons (tOp rSubI (tVar 2) (tOp rPowI (tC (.int 10)) (tC (.int 18)))) tNil))) (tCons (tOp rAddI (tOp rModI (tCB (rInt1) (tCons (tOp rAddI (tOp rAddI (tOp rMulW (tOp rModI (tCB (rInt1) (tCons (tVar 2) tNil)) (tC (.int 2147483549))) (tC (.int 39163))) (tOp rMulW (tC (.int 4021)) (tVar 1))) (tC (.int 47))) tNil)) (tC (.int 2147483563))) (tC (.int 1))) tNil)))))
theorem der_L_pot (C : Cxt K mg) (cdv : Value) (A : Around) (outer : List Env) (s : Shared) (H : Hp) (E : XK) (hr : Room (j + 1) (A.deeper (envOfC d_L_pot.ql (defScope d_L_pot.st) s.heap.objs.size d_L_pot.ad cdv))) :
    PSs (cxOf CX0 P w K mg base n_L_pot d_L_pot.ql (defScope d_L_pot.st) d_L_pot.ad cdv A outer s H E).nox (defBody d_L_pot.st) (t_L_pot K) := by
  have nd : (n_L_pot).Nodup := by decide
  exact (pss_cons (ps_set (i := 2) nd rfl (.inl rfl) (pe_ifExp (pt_cmpR op_lt (pe_var (i := 1) rfl (.inl rfl)) (pe_callB call_len_seq rfl (C.n C.T.f_len) PySem.boot_len (pa_cons (pe_var (i := 0) rfl (.inl rfl)) pa_nil)) (by rfl)) (pe_callB call_abs rfl (C.n C.T.f_abs) PyProof.Rows.boot_abs (pa_cons (pe_ix ix_list (pe_var (i := 0) rfl (.inl rfl)) (pe_var (i := 1) rfl (.inl rfl)) (fun _ _ => rfl)) pa_nil)) (pe_op op_add (pe_op op_mulW pe_int (pe_var (i := 1) rfl (.inl rfl))) pe_int)) rfl (.inr rfl)) (pss_one (ps_ret (pe_lst (pa_cons (pe_callB (call_max2 rfl) rfl (C.n C.T.f_max) PyProof.Rows.boot_max (pa_cons pe_int (pa_cons (pe_op op_sub (pe_var (i := 2) rfl (.inl rfl)) (pe_op op_pow pe_int pe_int)) pa_nil))) (pa_cons (pe_op op_add (pe_op op_mod (pe_callTy call_int1 rfl (C.n C.T.f_int) PyProof.Rows.boot_int (pa_cons (pe_op op_add (pe_op op_add (pe_op op_mulW (pe_op op_mod (pe_callTy call_int1 rfl (C.n C.T.f_int) PyProof.Rows.boot_int (pa_cons (pe_var (i := 2) rfl (.inl rfl)) pa_nil)) pe_int) pe_int) (pe_op op_mulW pe_int (pe_var (i := 1) rfl (.inl rfl)))) pe_int) pa_nil)) pe_int) pe_int) pa_nil))))))
abbrev n_L_draw : List Str := ["_law_pot_here", "_law_many", "_law_digit"]
abbrev p_L_draw : List Str := ["_law_pot_here", "_law_many"]
theorem sc_L_draw : FnScope n_L_draw p_L_draw (defScope d_L_draw.st) := ⟨rfl, rfl, rfl, by decide +kernel, rfl, by decide +kernel, by decide +kernel⟩
def t_L_draw (K : PySem.W.Frag) : TS := (tSeq (tIfS (tTest (tOp rGtI (tOp (rIxL K) (tVar 0) (tC (.int 0))) (tC (.int 0)))) (tSeq (tAsg (tCB (rDivmod) (tCons (tOp (rIxL K) (tVar 0) (tC (.int 0))) (tCons (tVar 1) tNil))) (gTup K 2 (gCons (gSub (tVar 0) (tC (.int 0)) rSetL) (gCons (gName 2) gNil)))) (tRet (tVar 2))) tNext) (tSeq (tAsg (tOp rModI (tCB (rInt1) (tCons (tOp rAddI (tOp rMulW (tOp (rIxL K) (tVar 0) (tC (.int 1))) (tC (.int 40014))) (tC (.int 1109))) tNil)) (tC (.int 2147483563))) (gSub (tVar 0) (tC (.int 1)) rSetL)) (tRet (tOp rModI (tCB (rInt1) (tCons (tOp rFdivW (tOp rModI (tCB (rInt1) (tCons (tOp rMulW (tOp (rIxL K) (tVar 0) (tC (.int 1))) (tOp (rIxL K) (tVar 0) (tC (.int 1)))) tNil)) (tC (.int 2147483587))) (tC (.int 21))) tNil)) (tVar 1)))))
theorem der_L_draw (C : Cxt K mg) (cdv : Value) (A : Around) (outer : List Env) (s : Shared) (H : Hp) (E : XK) (hr : Room (j + 1) (A.deeper (envOfC d_L_draw.ql (defScope d_L_draw.st) s.heap.objs.size d_L_draw.ad cdv))) :
    PSs (cxOf CX0 P w K mg base n_L_draw d_L_draw.ql (defScope d_L_draw.st) d_L_draw.ad cdv A outer s H E).nox (defBody d_L_draw.st) (t_L_draw K) := by
  have nd : (n_L_draw).Nodup := by decide
  exact (pss_cons (ps_if (pt_cmpR op_gt (pe_ix ix_list (pe_var (i := 0) rfl (.inl rfl)) pe_int (fun _ _ => rfl)) pe_int (by rfl)) (pss_cons (ps_asg (pe_callB call_divmodW rfl (C.n C.T.f_divmod) PyProof.Rows.boot_divmod (pa_cons (pe_ix ix_list (pe_var (i := 0) rfl (.inl rfl)) pe_int (fun _ _ => rfl)) (pa_cons (pe_var (i := 1) rfl (.inl rfl)) pa_nil))) (pg_tup rfl (pgs_cons (pg_sub (pe_var (i := 0) rfl (.inl rfl)) pe_int set_list) (pgs_cons (pg_name (i := 2) nd rfl (.inl rfl) (.inr rfl)) pgs_nil)))) (pss_one (ps_ret (pe_var (i := 2) rfl (.inl rfl))))) pss_nil) (pss_cons (ps_asg (pe_op op_mod (pe_callTy call_int1 rfl (C.n C.T.f_int) PyProof.Rows.boot_int (pa_cons (pe_op op_add (pe_op op_mulW (pe_ix ix_list (pe_var (i := 0) rfl (.inl rfl)) pe_int (fun _ _ => rfl)) pe_int) pe_int) pa_nil)) pe_int) (pg_sub (pe_var (i := 0) rfl (.inl rfl)) pe_int set_list)) (pss_one (ps_ret (pe_op op_mod (pe_callTy call_int1 rfl (C.n C.T.f_int) PyProof.Rows.boot_int (pa_cons (pe_op op_fdivW (pe_op op_mod (pe_callTy call_int1 rfl (C.n C.T.f_int) PyProof.Rows.boot_int (pa_cons (pe_op op_mulW (pe_ix ix_list (pe_var (i := 0) rfl (.inl rfl)) pe_int (fun _ _ => rfl)) (pe_ix ix_list (pe_var (i := 0) rfl (.inl rfl)) pe_int (fun _ _ => rfl))) pa_nil)) pe_int) pe_int) pa_nil)) (pe_var (i := 1) rfl (.inl rfl)))))))
abbrev n_L_gcd : List Str := ["_law_one", "_law_other"]
abbrev p_L_gcd : List Str := ["_law_one", "_law_other"]
theorem sc_L_gcd : FnScope n_L_gcd p_L_gcd (defScope d_L_gcd.st) := ⟨rfl, rfl, rfl, by decide +kernel, rfl, by decide +kernel, by decide +kernel⟩
def t_L_gcd (K : PySem.W.Frag) : TS := (tSeq (tPar 0 1 (tCons (tCB (rAbs1) (tCons (tVar 0) tNil)) (tCons (tCB (rAbs1) (tCons (tVar 1) tNil)) tNil))) (tSeq (tWhile (tTest (tOp rGtI (tVar 1) (tC (.int 0)))) (tPar 0 1 (tCons (tVar 1) (tCons (tOp rModI (tCB (rInt1) (tCons (tVar 0) tNil)) (tVar 1)) tNil)))) (tRet (tVar 0))))
theorem der_L_gcd (C : Cxt K mg) (cdv : Value) (A : Around) (outer : List Env) (s : Shared) (H : Hp) (E : XK) (hr : Room (j + 1) (A.deeper (envOfC d_L_gcd.ql (defScope d_L_gcd.st) s.heap.objs.size d_L_gcd.ad cdv))) :
    PSs (cxOf CX0 P w K mg base n_L_gcd d_L_gcd.ql (defScope d_L_gcd.st) d_L_gcd.ad cdv A outer s H E).nox (defBody d_L_gcd.st) (t_L_gcd K) := by
  have nd : (n_L_gcd).Nodup := by decide
  exact (pss_cons (ps_par (i := 0) (j := 1) rfl nd rfl rfl (by decide) rfl rfl (pa_cons (pe_callB call_abs rfl (C.n C.T.f_abs) PyProof.Rows.boot_abs (pa_cons (pe_var (i := 0) rfl (.inl rfl)) pa_nil)) (pa_cons (pe_callB call_abs rfl (C.n C.T.f_abs) PyProof.Rows.boot_abs (pa_cons (pe_var (i := 1) rfl (.inl rfl)) pa_nil)) pa_nil)) rfl) (pss_cons (ps_while PassesOwn.never (pt_cmpR op_gt (pe_var (i := 1) rfl (.inl rfl)) pe_int (by rfl)) (pss_one (ps_par (i := 0) (j := 1) rfl nd rfl rfl (by decide) rfl rfl (pa_cons (pe_var (i := 1) rfl (.inl rfl)) (pa_cons (pe_op op_mod (pe_callTy call_int1 rfl (C.n C.T.f_int) PyProof.Rows.boot_int (pa_cons (pe_var (i := 0) rfl (.inl rfl)) pa_nil)) (pe_var (i := 1) rfl (.inl rfl))) pa_nil)) rfl))) (pss_one (ps_ret (pe_var (i := 0) rfl (.inl rfl))))))
abbrev n_L_low : List Str := ["_law_left_here", "_law_right_here", "_law_below", "_law_common"]
abbrev p_L_low : List Str := ["_law_left_here", "_law_right_here", "_law_below"]
theorem sc_L_low : FnScope n_L_low p_L_low (defScope d_L_low.st) := ⟨rfl, rfl, rfl, by decide +kernel, rfl, by decide +kernel, by decide +kernel⟩
def t_L_low (K : PySem.W.Frag) (s__law_gcd : Sp) : TS := (tSeq (tAsg (tCall s__law_gcd [] E0 (tCons (tCall s__law_gcd [] E0 (tCons (tVar 0) (tCons (tVar 2) tNil))) (tCons (tVar 1) tNil))) (gName 3)) (tSeq (tAsg (tIf (tTest (tOp rGtI (tVar 2) (tC (.int 0)))) (tVar 3) (tOp rSubI (tC (.int 0)) (tVar 3))) (gName 3)) (tRet (tTup (tCons (tOp rFdivS (tVar 0) (tVar 3)) (tCons (tOp rFdivS (tVar 1) (tVar 3)) (tCons (tOp rFdivS (tVar 2) (tVar 3)) tNil)))))))
theorem der_L_low (C : Cxt K mg) {s__law_gcd : Sp} (c__law_gcd : C8.Cal P w K mg base j "_law_gcd" s__law_gcd []) (cdv : Value) (A : Around) (outer : List Env) (s : Shared) (H : Hp) (E : XK) (hr : Room (j + 1) (A.deeper (envOfC d_L_low.ql (defScope d_L_low.st) s.heap.objs.size d_L_low.ad cdv))) :
    PSs (cxOf CX0 P w K mg base n_L_low d_L_low.ql (defScope d_L_low.st) d_L_low.ad cdv A outer s H E).nox (defBody d_L_low.st) (t_L_low K s__law_gcd) := by
  have nd : (n_L_low).Nodup := by decide
  exact (pss_cons (ps_set (i := 3) nd rfl (.inl rfl) (C8.pe_c c__law_gcd hr (Nat.le_succ _) rfl (pa_cons (C8.pe_c c__law_gcd hr (Nat.le_succ _) rfl (pa_cons (pe_var (i := 0) rfl (.inl rfl)) (pa_cons (pe_var (i := 2) rfl (.inl rfl)) pa_nil))) (pa_cons (pe_var (i := 1) rfl (.inl rfl)) pa_nil))) rfl (.inr rfl)) (pss_cons (ps_set (i := 3) nd rfl (.inl rfl) (pe_ifExp (pt_cmpR op_gt (pe_var (i := 2) rfl (.inl rfl)) pe_int (by rfl)) (pe_var (i := 3) rfl (.inl rfl)) (pe_op op_sub pe_int (pe_var (i := 3) rfl (.inl rfl)))) rfl (.inr rfl)) (pss_one (ps_ret (pe_tup (pa_cons (pe_op op_fdivS (pe_var (i := 0) rfl (.inl rfl)) (pe_var (i := 3) rfl (.inl rfl))) (pa_cons (pe_op op_fdivS (pe_var (i := 1) rfl (.inl rfl)) (pe_var (i := 3) rfl (.inl rfl))) (pa_cons (pe_op op_fdivS (pe_var (i := 2) rfl (.inl rfl)) (pe_var (i := 3) rfl (.inl rfl))) pa_nil))))))))
abbrev n_L_plus : List Str := ["_law_one", "_law_other"]
abbrev p_L_plus : List Str := ["_law_one", "_law_other"]
theorem sc_L_plus : FnScope n_L_plus p_L_plus (defScope d_L_plus.st) := ⟨rfl, rfl, rfl, by decide +kernel, rfl, by decide +kernel, by decide +kernel⟩
def t_L_plus (K : PySem.W.Frag) (s__law_low : Sp) : TS := (tRet (tCall s__law_low [] E0 (tCons (tOp rAddI (tOp rMulW (tOp (rIxT K) (tVar 0) (tC (.int 0))) (tOp (rIxT K) (tVar 1) (tC (.int 2)))) (tOp rMulW (tOp (rIxT K) (tVar 1) (tC (.int 0))) (tOp (rIxT K) (tVar 0) (tC (.int 2))))) (tCons (tOp rAddI (tOp rMulW (tOp (rIxT K) (tVar 0) (tC (.int 1))) (tOp (rIxT K) (tVar 1) (tC (.int 2)))) (tOp rMulW (tOp (rIxT K) (tVar 1) (tC (.int 1))) (tOp (rIxT K) (tVar 0) (tC (.int 2))))) (tCons (tOp rMulW (tOp (rIxT K) (tVar 0) (tC (.int 2))) (tOp (rIxT K) (tVar 1) (tC (.int 2)))) tNil)))))
theorem der_L_plus (C : Cxt K mg) {s__law_low : Sp} (c__law_low : C8.Cal P w K mg base j "_law_low" s__law_low []) (cdv : Value) (A : Around) (outer : List Env) (s : Shared) (H : Hp) (E : XK) (hr : Room (j + 1) (A.deeper (envOfC d_L_plus.ql (defScope d_L_plus.st) s.heap.objs.size d_L_plus.ad cdv))) :
    PSs (cxOf CX0 P w K mg base n_L_plus d_L_plus.ql (defScope d_L_plus.st) d_L_plus.ad cdv A outer s H E).nox (defBody d_L_plus.st) (t_L_plus K s__law_low) := by
  have nd : (n_L_plus).Nodup := by decide
  exact (pss_one (ps_ret (C8.pe_c c__law_low hr (Nat.le_succ _) rfl (pa_cons (pe_op op_add (pe_op op_mulW (pe_ix ix_tup (pe_var (i := 0) rfl (.inl rfl)) pe_int (fun _ _ => rfl)) (pe_ix ix_tup (pe_var (i := 1) rfl (.inl rfl)) pe_int (fun _ _ => rfl))) (pe_op op_mulW (pe_ix ix_tup (pe_var (i := 1) rfl (.inl rfl)) pe_int (fun _ _ => rfl)) (pe_ix ix_tup (pe_var (i := 0) rfl (.inl rfl)) pe_int (fun _ _ => rfl)))) (pa_cons (pe_op op_add (pe_op op_mulW (pe_ix ix_tup (pe_var (i := 0) rfl (.inl rfl)) pe_int (fun _ _ => rfl)) (pe_ix ix_tup (pe_var (i := 1) rfl (.inl rfl)) pe_int (fun _ _ => rfl))) (pe_op op_mulW (pe_ix ix_tup (pe_var (i := 1) rfl (.inl rfl)) pe_int (fun _ _ => rfl)) (pe_ix ix_tup (pe_var (i := 0) rfl (.inl rfl)) pe_int (fun _ _ => rfl)))) (pa_cons (pe_op op_mulW (pe_ix ix_tup (pe_var (i := 0) rfl (.inl rfl)) pe_int (fun _ _ => rfl)) (pe_ix ix_tup (pe_var (i := 1) rfl (.inl rfl)) pe_int (fun _ _ => rfl))) pa_nil))))))
abbrev n_L_by : List Str := ["_law_one", "_law_other"]
abbrev p_L_by : List Str := ["_law_one", "_law_other"]
theorem sc_L_by : FnScope n_L_by p_L_by (defScope d_L_by.st) := ⟨rfl, rfl, rfl, by decide +kernel, rfl, by decide +kernel, by decide +kernel⟩
def t_L_by (K : PySem.W.Frag) (s__law_low : Sp) : TS := (tRet (tCall s__law_low [] E0 (tCons (tOp rSubI (tOp rMulW (tOp (rIxT K) (tVar 0) (tC (.int 0))) (tOp (rIxT K) (tVar 1) (tC (.int 0)))) (tOp rMulW (tOp (rIxT K) (tVar 0) (tC (.int 1))) (tOp (rIxT K) (tVar 1) (tC (.int 1))))) (tCons (tOp rAddI (tOp rMulW (tOp (rIxT K) (tVar 0) (tC (.int 0))) (tOp (rIxT K) (tVar 1) (tC (.int 1)))) (tOp rMulW (tOp (rIxT K) (tVar 0) (tC (.int 1))) (tOp (rIxT K) (tVar 1) (tC (.int 0))))) (tCons (tOp rMulW (tOp (rIxT K) (tVar 0) (tC (.int 2))) (tOp (rIxT K) (tVar 1) (tC (.int 2)))) tNil)))))
theorem der_L_by (C : Cxt K mg) {s__law_low : Sp} (c__law_low : C8.Cal P w K mg base j "_law_low" s__law_low []) (cdv : Value) (A : Around) (outer : List Env) (s : Shared) (H : Hp) (E : XK) (hr : Room (j + 1) (A.deeper (envOfC d_L_by.ql (defScope d_L_by.st) s.heap.objs.size d_L_by.ad cdv))) :
    PSs (cxOf CX0 P w K mg base n_L_by d_L_by.ql (defScope d_L_by.st) d_L_by.ad cdv A outer s H E).nox (defBody d_L_by.st) (t_L_by K s__law_low) := by
  have nd : (n_L_by).Nodup := by decide
  exact (pss_one (ps_ret (C8.pe_c c__law_low hr (Nat.le_succ _) rfl (pa_cons (pe_op op_sub (pe_op op_mulW (pe_ix ix_tup (pe_var (i := 0) rfl (.inl rfl)) pe_int (fun _ _ => rfl)) (pe_ix ix_tup (pe_var (i := 1) rfl (.inl rfl)) pe_int (fun _ _ => rfl))) (pe_op op_mulW (pe_ix ix_tup (pe_var (i := 0) rfl (.inl rfl)) pe_int (fun _ _ => rfl)) (pe_ix ix_tup (pe_var (i := 1) rfl (.inl rfl)) pe_int (fun _ _ => rfl)))) (pa_cons (pe_op op_add (pe_op op_mulW (pe_ix ix_tup (pe_var (i := 0) rfl (.inl rfl)) pe_int (fun _ _ => rfl)) (pe_ix ix_tup (pe_var (i := 1) rfl (.inl rfl)) pe_int (fun _ _ => rfl))) (pe_op op_mulW (pe_ix ix_tup (pe_var (i := 0) rfl (.inl rfl)) pe_int (fun _ _ => rfl)) (pe_ix ix_tup (pe_var (i := 1) rfl (.inl rfl)) pe_int (fun _ _ => rfl)))) (pa_cons (pe_op op_mulW (pe_ix ix_tup (pe_var (i := 0) rfl (.inl rfl)) pe_int (fun _ _ => rfl)) (pe_ix ix_tup (pe_var (i := 1) rfl (.inl rfl)) pe_int (fun _ _ => rfl))) pa_nil))))))
abbrev n_L_less : List Str := ["_law_one", "_law_other"]
abbrev p_L_less : List Str := ["_law_one", "_law_other"]
theorem sc_L_less : FnScope n_L_less p_L_less (defScope d_L_less.st) := ⟨rfl, rfl, rfl, by decide +kernel, rfl, by decide +kernel, by decide +kernel⟩
def t_L_less (K : PySem.W.Frag) (s__law_plus : Sp) : TS := (tRet (tCall s__law_plus [] E0 (tCons (tVar 0) (tCons (tTup (tCons (tOp rSubI (tC (.int 0)) (tOp (rIxT K) (tVar 1) (tC (.int 0)))) (tCons (tOp rSubI (tC (.int 0)) (tOp (rIxT K) (tVar 1) (tC (.int 1)))) (tCons (tOp (rIxT K) (tVar 1) (tC (.int 2))) tNil)))) tNil))))
theorem der_L_less (C : Cxt K mg) {s__law_plus : Sp} (c__law_plus : C8.Cal P w K mg base j "_law_plus" s__law_plus []) (cdv : Value) (A : Around) (outer : List Env) (s : Shared) (H : Hp) (E : XK) (hr : Room (j + 1) (A.deeper (envOfC d_L_less.ql (defScope d_L_less.st) s.heap.objs.size d_L_less.ad cdv))) :
    PSs (cxOf CX0 P w K mg base n_L_less d_L_less.ql (defScope d_L_less.st) d_L_less.ad cdv A outer s H E).nox (defBody d_L_less.st) (t_L_less K s__law_plus) := by
  have nd : (n_L_less).Nodup := by decide
  exact (pss_one (ps_ret (C8.pe_c c__law_plus hr (Nat.le_succ _) rfl (pa_cons (pe_var (i := 0) rfl (.inl rfl)) (pa_cons (pe_tup (pa_cons (pe_op op_sub pe_int (pe_ix ix_tup (pe_var (i := 1) rfl (.inl rfl)) pe_int (fun _ _ => rfl))) (pa_cons (pe_op op_sub pe_int (pe_ix ix_tup (pe_var (i := 1) rfl (.inl rfl)) pe_int (fun _ _ => rfl))) (pa_cons (pe_ix ix_tup (pe_var (i := 1) rfl (.inl rfl)) pe_int (fun _ _ => rfl)) pa_nil)))) pa_nil)))))
abbrev n_L_mirror : List Str := ["_law_one"]
abbrev p_L_mirror : List Str := ["_law_one"]
theorem sc_L_mirror : FnScope n_L_mirror p_L_mirror (defScope d_L_mirror.st) := ⟨rfl, rfl, rfl, by decide +kernel, rfl, by decide +kernel, by decide +kernel⟩
def t_L_mirror (K : PySem.W.Frag) : TS := (tRet (tTup (tCons (tOp (rIxT K) (tVar 0) (tC (.int 0))) (tCons (tOp rSubI (tC (.int 0)) (tOp (rIxT K) (tVar 0) (tC (.int 1)))) (tCons (tOp (rIxT K) (tVar 0) (tC (.int 2))) tNil)))))
theorem der_L_mirror (C : Cxt K mg) (cdv : Value) (A : Around) (outer : List Env) (s : Shared) (H : Hp) (E : XK) (hr : Room (j + 1) (A.deeper (envOfC d_L_mirror.ql (defScope d_L_mirror.st) s.heap.objs.size d_L_mirror.ad cdv))) :
    PSs (cxOf CX0 P w K mg base n_L_mirror d_L_mirror.ql (defScope d_L_mirror.st) d_L_mirror.ad cdv A outer s H E).nox (defBody d_L_mirror.st) (t_L_mirror K) := by
  have nd : (n_L_mirror).Nodup := by decide
  exact (pss_one (ps_ret (pe_tup (pa_cons (pe_ix ix_tup (pe_var (i := 0) rfl (.inl rfl)) pe_int (fun _ _ => rfl)) (pa_cons (pe_op op_sub pe_int (pe_ix ix_tup (pe_var (i := 0) rfl (.inl rfl)) pe_int (fun _ _ => rfl))) (pa_cons (pe_ix ix_tup (pe_var (i := 0) rfl (.inl rfl)) pe_int (fun _ _ => rfl)) pa_nil))))))
abbrev n_L_over : List Str := ["_law_one", "_law_other"]
abbrev p_L_over : List Str := ["_law_one", "_law_other"]
theorem sc_L_over : FnScope n_L_over p_L_over (defScope d_L_over.st) := ⟨rfl, rfl, rfl, by decide +kernel, rfl, by decide +kernel, by decide +kernel⟩
def t_L_over (K : PySem.W.Frag) (s__law_by : Sp) (s__law_low : Sp) : TS := (tRet (tCall s__law_by [] E0 (tCons (tVar 0) (tCons (tCall s__law_low [] E0 (tCons (tOp rMulW (tOp (rIxT K) (tVar 1) (tC (.int 0))) (tOp (rIxT K) (tVar 1) (tC (.int 2)))) (tCons (tOp rSubI (tC (.int 0)) (tOp rMulW (tOp (rIxT K) (tVar 1) (tC (.int 1))) (tOp (rIxT K) (tVar 1) (tC (.int 2))))) (tCons (tOp rAddI (tOp rMulW (tOp (rIxT K) (tVar 1) (tC (.int 0))) (tOp (rIxT K) (tVar 1) (tC (.int 0)))) (tOp rMulW (tOp (rIxT K) (tVar 1) (tC (.int 1))) (tOp (rIxT K) (tVar 1) (tC (.int 1))))) tNil)))) tNil))))
theorem der_L_over (C : Cxt K mg) {s__law_by : Sp} {s__law_low : Sp} (c__law_by : C8.Cal P w K mg base j "_law_by" s__law_by []) (c__law_low : C8.Cal P w K mg base j "_law_low" s__law_low []) (cdv : Value) (A : Around) (outer : List Env) (s : Shared) (H : Hp) (E : XK) (hr : Room (j + 1) (A.deeper (envOfC d_L_over.ql (defScope d_L_over.st) s.heap.objs.size d_L_over.ad cdv))) :
    PSs (cxOf CX0 P w K mg base n_L_over d_L_over.ql (defScope d_L_over.st) d_L_over.ad cdv A outer s H E).nox (defBody d_L_over.st) (t_L_over K s__law_by s__law_low) := by
  have nd : (n_L_over).Nodup := by decide
  exact (pss_one (ps_ret (C8.pe_c c__law_by hr (Nat.le_succ _) rfl (pa_cons (pe_var (i := 0) rfl (.inl rfl)) (pa_cons (C8.pe_c c__law_low hr (Nat.le_succ _) rfl (pa_cons (pe_op op_mulW (pe_ix ix_tup (pe_var (i := 1) rfl (.inl rfl)) pe_int (fun _ _ => rfl)) (pe_ix ix_tup (pe_var (i := 1) rfl (.inl rfl)) pe_int (fun _ _ => rfl))) (pa_cons (pe_op op_sub pe_int (pe_op op_mulW (pe_ix ix_tup (pe_var (i := 1) rfl (.inl rfl)) pe_int (fun _ _ => rfl)) (pe_ix ix_tup (pe_var (i := 1) rfl (.inl rfl)) pe_int (fun _ _ => rfl)))) (pa_cons (pe_op op_add (pe_op op_mulW (pe_ix ix_tup (pe_var (i := 1) rfl (.inl rfl)) pe_int (fun _ _ => rfl)) (pe_ix ix_tup (pe_var (i := 1) rfl (.inl rfl)) pe_int (fun _ _ => rfl))) (pe_op op_mulW (pe_ix ix_tup (pe_var (i := 1) rfl (.inl rfl)) pe_int (fun _ _ => rfl)) (pe_ix ix_tup (pe_var (i := 1) rfl (.inl rfl)) pe_int (fun _ _ => rfl)))) pa_nil)))) pa_nil)))))
abbrev n_L_sum : List Str := ["_law_some", "_law_found", "_law_one"]
abbrev p_L_sum : List Str := ["_law_some"]
theorem sc_L_sum : FnScope n_L_sum p_L_sum (defScope d_L_sum.st) := ⟨rfl, rfl, rfl, by decide +kernel, rfl, by decide +kernel, by decide +kernel⟩
def t_L_sum (K : PySem.W.Frag) (s__law_plus : Sp) : TS := (tSeq (tAsg (tTup (tCons (tC (.int 0)) (tCons (tC (.int 0)) (tCons (tC (.int 1)) tNil)))) (gName 1)) (tSeq (tFor (iList K (tVar 0)) (gName 2) (tAsg (tCall s__law_plus [] E0 (tCons (tVar 1) (tCons (tVar 2) tNil))) (gName 1))) (tRet (tVar 1))))
theorem der_L_sum (C : Cxt K mg) {s__law_plus : Sp} (c__law_plus : C8.Cal P w K mg base j "_law_plus" s__law_plus []) (cdv : Value) (A : Around) (outer : List Env) (s : Shared) (H : Hp) (E : XK) (hr : Room (j + 1) (A.deeper (envOfC d_L_sum.ql (defScope d_L_sum.st) s.heap.objs.size d_L_sum.ad cdv))) :
    PSs (cxOf CX0 P w K mg base n_L_sum d_L_sum.ql (defScope d_L_sum.st) d_L_sum.ad cdv A outer s H E).nox (defBody d_L_sum.st) (t_L_sum K s__law_plus) := by
  have nd : (n_L_sum).Nodup := by decide
  exact (pss_cons (ps_set (i := 1) nd rfl (.inl rfl) (pe_tup (pa_cons pe_int (pa_cons pe_int (pa_cons pe_int pa_nil)))) rfl (.inr rfl)) (pss_cons (ps_for PassesOwn.never rfl (pi_list (pe_var (i := 0) rfl (.inl rfl))) (pg_name (i := 2) nd rfl (.inl rfl) (.inr rfl)) (pss_one (ps_set (i := 1) nd rfl (.inl rfl) (C8.pe_c c__law_plus hr (Nat.le_succ _) rfl (pa_cons (pe_var (i := 1) rfl (.inl rfl)) (pa_cons (pe_var (i := 2) rfl (.inl rfl)) pa_nil))) rfl (.inr rfl)))) (pss_one (ps_ret (pe_var (i := 1) rfl (.inl rfl))))))
abbrev n_L_twin : List Str := ["_law_one"]
abbrev p_L_twin : List Str := ["_law_one"]
theorem sc_L_twin : FnScope n_L_twin p_L_twin (defScope d_L_twin.st) := ⟨rfl, rfl, rfl, by decide +kernel, rfl, by decide +kernel, by decide +kernel⟩
def t_L_twin (K : PySem.W.Frag) (s_mk_Twin : Sp) (s_mk_Ratio : Sp) : TS := (tRet (tMake CT s_mk_Twin [] E0 (tCons (tMake CR s_mk_Ratio [] E0 (tCons (tOp (rIxT K) (tVar 0) (tC (.int 0))) (tCons (tOp (rIxT K) (tVar 0) (tC (.int 2))) tNil))) (tCons (tMake CR s_mk_Ratio [] E0 (tCons (tOp (rIxT K) (tVar 0) (tC (.int 1))) (tCons (tOp (rIxT K) (tVar 0) (tC (.int 2))) tNil))) tNil))))
theorem der_L_twin (C : Cxt K mg) {s_mk_Twin : Sp} {s_mk_Ratio : Sp} (c_mk_Twin_0 : C8.Mak P w K mg base j "Twin" CT s_mk_Twin []) (c_mk_Ratio_0 : C8.Mak P w K mg base j "Ratio" CR s_mk_Ratio []) (cdv : Value) (A : Around) (outer : List Env) (s : Shared) (H : Hp) (E : XK) (hr : Room (j + 1) (A.deeper (envOfC d_L_twin.ql (defScope d_L_twin.st) s.heap.objs.size d_L_twin.ad cdv))) :
    PSs (cxOf CX0 P w K mg base n_L_twin d_L_twin.ql (defScope d_L_twin.st) d_L_twin.ad cdv A outer s H E).nox (defBody d_L_twin.st) (t_L_twin K s_mk_Twin s_mk_Ratio) := by
  have nd : (n_L_twin).Nodup := by decide
  exact (pss_one (ps_ret (C8.pe_mk c_mk_Twin_0 hr (Nat.le_refl _) rfl (pa_cons (C8.pe_mk c_mk_Ratio_0 hr (Nat.le_refl _) rfl (pa_cons (pe_ix ix_tup (pe_var (i := 0) rfl (.inl rfl)) pe_int (fun _ _ => rfl)) (pa_cons (pe_ix ix_tup (pe_var (i := 0) rfl (.inl rfl)) pe_int (fun _ _ => rfl)) pa_nil))) (pa_cons (C8.pe_mk c_mk_Ratio_0 hr (Nat.le_refl _) rfl (pa_cons (pe_ix ix_tup (pe_var (i := 0) rfl (.inl rfl)) pe_int (fun _ _ => rfl)) (pa_cons (pe_ix ix_tup (pe_var (i := 0) rfl (.inl rfl)) pe_int (fun _ _ => rfl)) pa_nil))) pa_nil)))))
abbrev n_L_passed : List Str := ["_law_pot_here", "_law_one"]
abbrev p_L_passed : List Str := ["_law_pot_here", "_law_one"]
theorem sc_L_passed : FnScope n_L_passed p_L_passed (defScope d_L_passed.st) := ⟨rfl, rfl, rfl, by decide +kernel, rfl, by decide +kernel, by decide +kernel⟩
def t_L_passed (K : PySem.W.Frag) (s__law_draw : Sp) (s_mk_Ratio : Sp) (s__law_twin : Sp) : TS := (tSeq (tIfS (tAnd (tTest (tOp rEq (tOp (rIxT K) (tVar 1) (tC (.int 1))) (tC (.int 0)))) (tTest (tOp rEq (tCall s__law_draw [] E0 (tCons (tVar 0) (tCons (tC (.int 2)) tNil))) (tC (.int 0))))) (tRet (tIf (tAnd (tTest (tOp rEq (tOp (rIxT K) (tVar 1) (tC (.int 2))) (tC (.int 1)))) (tTest (tOp rEq (tCall s__law_draw [] E0 (tCons (tVar 0) (tCons (tC (.int 2)) tNil))) (tC (.int 0))))) (tOp (rIxT K) (tVar 1) (tC (.int 0))) (tMake CR s_mk_Ratio [] E0 (tCons (tOp (rIxT K) (tVar 1) (tC (.int 0))) (tCons (tOp (rIxT K) (tVar 1) (tC (.int 2))) tNil))))) tNext) (tRet (tCall s__law_twin [] E0 (tCons (tVar 1) tNil))))
theorem der_L_passed (C : Cxt K mg) {s__law_draw : Sp} {s_mk_Ratio : Sp} {s__law_twin : Sp} (c__law_draw : C8.Cal P w K mg base j "_law_draw" s__law_draw []) (c_mk_Ratio_0 : C8.Mak P w K mg base j "Ratio" CR s_mk_Ratio []) (c__law_twin : C8.Cal P w K mg base j "_law_twin" s__law_twin []) (cdv : Value) (A : Around) (outer : List Env) (s : Shared) (H : Hp) (E : XK) (hr : Room (j + 1) (A.deeper (envOfC d_L_passed.ql (defScope d_L_passed.st) s.heap.objs.size d_L_passed.ad cdv))) :
    PSs (cxOf CX0 P w K mg base n_L_passed d_L_passed.ql (defScope d_L_passed.st) d_L_passed.ad cdv A outer s H E).nox (defBody d_L_passed.st) (t_L_passed K s__law_draw s_mk_Ratio s__law_twin) := by
  have nd : (n_L_passed).Nodup := by decide
  exact (pss_cons (ps_if (PW.pt (pw_and (pt_cmpR op_eq (pe_ix ix_tup (pe_var (i := 1) rfl (.inl rfl)) pe_int (fun _ _ => rfl)) pe_int (by rfl)) (pw_and1 (pt_cmpR op_eq (C8.pe_c c__law_draw hr (Nat.le_succ _) rfl (pa_cons (pe_var (i := 0) rfl (.inl rfl)) (pa_cons pe_int pa_nil))) pe_int (by rfl))))) (pss_one (ps_ret (pe_ifExp (PW.pt (pw_and (pt_cmpR op_eq (pe_ix ix_tup (pe_var (i := 1) rfl (.inl rfl)) pe_int (fun _ _ => rfl)) pe_int (by rfl)) (pw_and1 (pt_cmpR op_eq (C8.pe_c c__law_draw hr (Nat.le_succ _) rfl (pa_cons (pe_var (i := 0) rfl (.inl rfl)) (pa_cons pe_int pa_nil))) pe_int (by rfl))))) (pe_ix ix_tup (pe_var (i := 1) rfl (.inl rfl)) pe_int (fun _ _ => rfl)) (C8.pe_mk c_mk_Ratio_0 hr (Nat.le_refl _) rfl (pa_cons (pe_ix ix_tup (pe_var (i := 1) rfl (.inl rfl)) pe_int (fun _ _ => rfl)) (pa_cons (pe_ix ix_tup (pe_var (i := 1) rfl (.inl rfl)) pe_int (fun _ _ => rfl)) pa_nil)))))) pss_nil) (pss_one (ps_ret (C8.pe_c c__law_twin hr (Nat.le_succ _) rfl (pa_cons (pe_var (i := 1) rfl (.inl rfl)) pa_nil)))))
abbrev n_L_number : List Str := ["_law_pot_here", "_law_side"]
abbrev p_L_number : List Str := ["_law_pot_here"]
theorem sc_L_number : FnScope n_L_number p_L_number (defScope d_L_number.st) := ⟨rfl, rfl, rfl, by decide +kernel, rfl, by decide +kernel, by decide +kernel⟩
def t_L_number (K : PySem.W.Frag) (s__law_draw : Sp) (s__law_low : Sp) : TS := (tSeq (tAsg (tIf (tTest (tOp rEq (tCall s__law_draw [] E0 (tCons (tVar 0) (tCons (tC (.int 2)) tNil))) (tC (.int 0)))) (tOp rSubI (tCall s__law_draw [] E0 (tCons (tVar 0) (tCons (tC (.int 5)) tNil))) (tC (.int 2))) (tC (.int 0))) (gName 1)) (tRet (tCall s__law_low [] E0 (tCons (tOp rSubI (tCall s__law_draw [] E0 (tCons (tVar 0) (tCons (tC (.int 9)) tNil))) (tC (.int 4))) (tCons (tVar 1) (tCons (tOp rAddI (tC (.int 1)) (tCall s__law_draw [] E0 (tCons (tVar 0) (tCons (tC (.int 3)) tNil)))) tNil))))))
theorem der_L_number (C : Cxt K mg) {s__law_draw : Sp} {s__law_low : Sp} (c__law_draw : C8.Cal P w K mg base j "_law_draw" s__law_draw []) (c__law_low : C8.Cal P w K mg base j "_law_low" s__law_low []) (cdv : Value) (A : Around) (outer : List Env) (s : Shared) (H : Hp) (E : XK) (hr : Room (j + 1) (A.deeper (envOfC d_L_number.ql (defScope d_L_number.st) s.heap.objs.size d_L_number.ad cdv))) :
    PSs (cxOf CX0 P w K mg base n_L_number d_L_number.ql (defScope d_L_number.st) d_L_number.ad cdv A outer s H E).nox (defBody d_L_number.st) (t_L_number K s__law_draw s__law_low) := by
  have nd : (n_L_number).Nodup := by decide
  exact (pss_cons (ps_set (i := 1) nd rfl (.inl rfl) (pe_ifExp (pt_cmpR op_eq (C8.pe_c c__law_draw hr (Nat.le_succ _) rfl (pa_cons (pe_var (i := 0) rfl (.inl rfl)) (pa_cons pe_int pa_nil))) pe_int (by rfl)) (pe_op op_sub (C8.pe_c c__law_draw hr (Nat.le_succ _) rfl (pa_cons (pe_var (i := 0) rfl (.inl rfl)) (pa_cons pe_int pa_nil))) pe_int) pe_int) rfl (.inr rfl)) (pss_one (ps_ret (C8.pe_c c__law_low hr (Nat.le_succ _) rfl (pa_cons (pe_op op_sub (C8.pe_c c__law_draw hr (Nat.le_succ _) rfl (pa_cons (pe_var (i := 0) rfl (.inl rfl)) (pa_cons pe_int pa_nil))) pe_int) (pa_cons (pe_var (i := 1) rfl (.inl rfl)) (pa_cons (pe_op op_add pe_int (C8.pe_c c__law_draw hr (Nat.le_succ _) rfl (pa_cons (pe_var (i := 0) rfl (.inl rfl)) (pa_cons pe_int pa_nil)))) pa_nil)))))))
abbrev n_L_whole : List Str := ["_law_pot_here"]
abbrev p_L_whole : List Str := ["_law_pot_here"]
theorem sc_L_whole : FnScope n_L_whole p_L_whole (defScope d_L_whole.st) := ⟨rfl, rfl, rfl, by decide +kernel, rfl, by decide +kernel, by decide +kernel⟩
def t_L_whole (K : PySem.W.Frag) (s__law_draw : Sp) : TS := (tRet (tTup (tCons (tOp rSubI (tCall s__law_draw [] E0 (tCons (tVar 0) (tCons (tC (.int 5)) tNil))) (tC (.int 2))) (tCons (tIf (tTest (tOp rEq (tCall s__law_draw [] E0 (tCons (tVar 0) (tCons (tC (.int 3)) tNil))) (tC (.int 0)))) (tOp rSubI (tCall s__law_draw [] E0 (tCons (tVar 0) (tCons (tC (.int 3)) tNil))) (tC (.int 1))) (tC (.int 0))) (tCons (tC (.int 1)) tNil)))))
theorem der_L_whole (C : Cxt K mg) {s__law_draw : Sp} (c__law_draw : C8.Cal P w K mg base j "_law_draw" s__law_draw []) (cdv : Value) (A : Around) (outer : List Env) (s : Shared) (H : Hp) (E : XK) (hr : Room (j + 1) (A.deeper (envOfC d_L_whole.ql (defScope d_L_whole.st) s.heap.objs.size d_L_whole.ad cdv))) :
    PSs (cxOf CX0 P w K mg base n_L_whole d_L_whole.ql (defScope d_L_whole.st) d_L_whole.ad cdv A outer s H E).nox (defBody d_L_whole.st) (t_L_whole K s__law_draw) := by
  have nd : (n_L_whole).Nodup := by decide
  exact (pss_one (ps_ret (pe_tup (pa_cons (pe_op op_sub (C8.pe_c c__law_draw hr (Nat.le_succ _) rfl (pa_cons (pe_var (i := 0) rfl (.inl rfl)) (pa_cons pe_int pa_nil))) pe_int) (pa_cons (pe_ifExp (pt_cmpR op_eq (C8.pe_c c__law_draw hr (Nat.le_succ _) rfl (pa_cons (pe_var (i := 0) rfl (.inl rfl)) (pa_cons pe_int pa_nil))) pe_int (by rfl)) (pe_op op_sub (C8.pe_c c__law_draw hr (Nat.le_succ _) rfl (pa_cons (pe_var (i := 0) rfl (.inl rfl)) (pa_cons pe_int pa_nil))) pe_int) pe_int) (pa_cons pe_int pa_nil))))))
abbrev n_L_weight : List Str := ["_law_pot_here"]
abbrev p_L_weight : List Str := ["_law_pot_here"]
theorem sc_L_weight : FnScope n_L_weight p_L_weight (defScope d_L_weight.st) := ⟨rfl, rfl, rfl, by decide +kernel, rfl, by decide +kernel, by decide +kernel⟩
def t_L_weight (K : PySem.W.Frag) (s__law_low : Sp) (s__law_draw : Sp) : TS := (tRet (tCall s__law_low [] E0 (tCons (tOp rAddI (tC (.int 1)) (tCall s__law_draw [] E0 (tCons (tVar 0) (tCons (tC (.int 3)) tNil)))) (tCons (tC (.int 0)) (tCons (tOp rAddI (tC (.int 1)) (tCall s__law_draw [] E0 (tCons (tVar 0) (tCons (tC (.int 2)) tNil)))) tNil)))))
theorem der_L_weight (C : Cxt K mg) {s__law_low : Sp} {s__law_draw : Sp} (c__law_low : C8.Cal P w K mg base j "_law_low" s__law_low []) (c__law_draw : C8.Cal P w K mg base j "_law_draw" s__law_draw []) (cdv : Value) (A : Around) (outer : List Env) (s : Shared) (H : Hp) (E : XK) (hr : Room (j + 1) (A.deeper (envOfC d_L_weight.ql (defScope d_L_weight.st) s.heap.objs.size d_L_weight.ad cdv))) :
    PSs (cxOf CX0 P w K mg base n_L_weight d_L_weight.ql (defScope d_L_weight.st) d_L_weight.ad cdv A outer s H E).nox (defBody d_L_weight.st) (t_L_weight K s__law_low s__law_draw) := by
  have nd : (n_L_weight).Nodup := by decide
  exact (pss_one (ps_ret (C8.pe_c c__law_low hr (Nat.le_succ _) rfl (pa_cons (pe_op op_add pe_int (C8.pe_c c__law_draw hr (Nat.le_succ _) rfl (pa_cons (pe_var (i := 0) rfl (.inl rfl)) (pa_cons pe_int pa_nil)))) (pa_cons pe_int (pa_cons (pe_op op_add pe_int (C8.pe_c c__law_draw hr (Nat.le_succ _) rfl (pa_cons (pe_var (i := 0) rfl (.inl rfl)) (pa_cons pe_int pa_nil)))) pa_nil))))))
abbrev n_L_made : List Str := ["_law_many", "_law_squares_now", "_law_found", "_law_i", "_law_j", "_law_number_here", "_law_row_here"]
abbrev p_L_made : List Str := ["_law_many", "_law_squares_now"]
theorem sc_L_made : FnScope n_L_made p_L_made (defScope d_L_made.st) := ⟨rfl, rfl, rfl, by decide +kernel, rfl, by decide +kernel, by decide +kernel⟩
def t_L_made (K : PySem.W.Frag) (s__law_sum : Sp) (s__law_by : Sp) (s__law_mirror : Sp) : TS := (tSeq (tAsg (tLst tNil) (gName 2)) (tSeq (tFor (iRng1 (tCons (tVar 0) tNil)) (gName 3) (tDrop (tBM K "list" rAppend (tVar 2) (tCons (tLc (iRng1 (tCons (tVar 0) tNil)) (gName 4) tYes (tCall s__law_sum [] E0 (tCons (tLc (iList K (tVar 1)) (gTup K 2 (gCons (gName 5) (gCons (gName 6) gNil))) tYes (tCall s__law_by [] E0 (tCons (tVar 5) (tCons (tCall s__law_by [] E0 (tCons (tOp (rIxL K) (tVar 6) (tVar 3)) (tCons (tCall s__law_mirror [] E0 (tCons (tOp (rIxL K) (tVar 6) (tVar 4)) tNil)) tNil))) tNil))) [5, 6]) tNil)) [4]) tNil)))) (tRet (tVar 2))))
theorem der_L_made (C : Cxt K mg) {s__law_sum : Sp} {s__law_by : Sp} {s__law_mirror : Sp} (c__law_sum : C8.Cal P w K mg base j "_law_sum" s__law_sum []) (c__law_by : C8.Cal P w K mg base j "_law_by" s__law_by []) (c__law_mirror : C8.Cal P w K mg base j "_law_mirror" s__law_mirror []) (cdv : Value) (A : Around) (outer : List Env) (s : Shared) (H : Hp) (E : XK) (hr : Room (j + 1) (A.deeper (envOfC d_L_made.ql (defScope d_L_made.st) s.heap.objs.size d_L_made.ad cdv))) :
    PSs (cxOf CX0 P w K mg base n_L_made d_L_made.ql (defScope d_L_made.st) d_L_made.ad cdv A outer s H E).nox (defBody d_L_made.st) (t_L_made K s__law_sum s__law_by s__law_mirror) := by
  have nd : (n_L_made).Nodup := by decide
  exact (pss_cons (ps_set (i := 2) nd rfl (.inl rfl) (pe_lst pa_nil) rfl (.inr rfl)) (pss_cons (ps_for PassesOwn.never rfl (pi_range1 rfl (C.n C.T.f_range) (pa_cons (pe_var (i := 0) rfl (.inl rfl)) pa_nil)) (pg_name (i := 3) nd rfl (.inr rfl) (.inl rfl)) (pss_one (ps_expr (pe_app (pe_var (i := 2) rfl (.inl rfl)) (pe_lc (own := [("_law_j", 4)]) rfl nd (pi_range1 rfl (C.n C.T.f_range) (pa_cons (pe_var (i := 0) rfl (.inl rfl)) pa_nil)) (blkOk_by (by kernel_rfl)) (fun _ _ _ _ _ => (pg_name (i := 4) nd rfl (.inr rfl) (.inl rfl))) (fun _ _ _ _ _ => pts_nil) (fun _ _ _ _ _ => (C8.pe_c c__law_sum hr (Nat.le_succ _) rfl (pa_cons (pe_lc (own := [("_law_number_here", 5), ("_law_row_here", 6)]) rfl nd (pi_list (pe_var (i := 1) rfl (.inr (.inl rfl)))) (blkOk_by (by kernel_rfl)) (fun _ _ _ _ _ => (pg_tup rfl (pgs_cons (pg_name (i := 5) nd rfl (.inl rfl) (.inr rfl)) (pgs_cons (pg_name (i := 6) nd rfl (.inl rfl) (.inr rfl)) pgs_nil)))) (fun _ _ _ _ _ => pts_nil) (fun _ _ _ _ _ => (C8.pe_c c__law_by hr (Nat.le_succ _) rfl (pa_cons (pe_var (i := 5) rfl (.inl rfl)) (pa_cons (C8.pe_c c__law_by hr (Nat.le_succ _) rfl (pa_cons (pe_ix ix_list (pe_var (i := 6) rfl (.inl rfl)) (pe_var (i := 3) rfl (.inr (.inl rfl))) (fun _ _ => rfl)) (pa_cons (C8.pe_c c__law_mirror hr (Nat.le_succ _) rfl (pa_cons (pe_ix ix_list (pe_var (i := 6) rfl (.inl rfl)) (pe_var (i := 4) rfl (.inr (.inl rfl))) (fun _ _ => rfl)) pa_nil)) pa_nil))) pa_nil))))) pa_nil)))))))) (pss_one (ps_ret (pe_var (i := 2) rfl (.inl rfl))))))
abbrev n_L_row : List Str := ["_law_pot_here", "_law_many", "_law_at"]
abbrev p_L_row : List Str := ["_law_pot_here", "_law_many"]
theorem sc_L_row : FnScope n_L_row p_L_row (defScope d_L_row.st) := ⟨rfl, rfl, rfl, by decide +kernel, rfl, by decide +kernel, by decide +kernel⟩
def t_L_row (K : PySem.W.Frag) (s__law_draw : Sp) (s__law_whole : Sp) : TS := (tRet (tLc (iRng1 (tCons (tVar 1) tNil)) (gName 2) tYes (tIf (tTest (tOp rGtI (tCall s__law_draw [] E0 (tCons (tVar 0) (tCons (tC (.int 3)) tNil))) (tC (.int 0)))) (tCall s__law_whole [] E0 (tCons (tVar 0) tNil)) (tTup (tCons (tC (.int 0)) (tCons (tC (.int 0)) (tCons (tC (.int 1)) tNil))))) [2]))
theorem der_L_row (C : Cxt K mg) {s__law_draw : Sp} {s__law_whole : Sp} (c__law_draw : C8.Cal P w K mg base j "_law_draw" s__law_draw []) (c__law_whole : C8.Cal P w K mg base j "_law_whole" s__law_whole []) (cdv : Value) (A : Around) (outer : List Env) (s : Shared) (H : Hp) (E : XK) (hr : Room (j + 1) (A.deeper (envOfC d_L_row.ql (defScope d_L_row.st) s.heap.objs.size d_L_row.ad cdv))) :
    PSs (cxOf CX0 P w K mg base n_L_row d_L_row.ql (defScope d_L_row.st) d_L_row.ad cdv A outer s H E).nox (defBody d_L_row.st) (t_L_row K s__law_draw s__law_whole) := by
  have nd : (n_L_row).Nodup := by decide
  exact (pss_one (ps_ret (pe_lc (own := [("_law_at", 2)]) rfl nd (pi_range1 rfl (C.n C.T.f_range) (pa_cons (pe_var (i := 1) rfl (.inl rfl)) pa_nil)) (blkOk_by (by kernel_rfl)) (fun _ _ _ _ _ => (pg_name (i := 2) nd rfl (.inl rfl) (.inr rfl))) (fun _ _ _ _ _ => pts_nil) (fun _ _ _ _ _ => (pe_ifExp (pt_cmpR op_gt (C8.pe_c c__law_draw hr (Nat.le_succ _) rfl (pa_cons (pe_var (i := 0) rfl (.inr (.inl rfl))) (pa_cons pe_int pa_nil))) pe_int (by rfl)) (C8.pe_c c__law_whole hr (Nat.le_succ _) rfl (pa_cons (pe_var (i := 0) rfl (.inr (.inl rfl))) pa_nil)) (pe_tup (pa_cons pe_int (pa_cons pe_int (pa_cons pe_int pa_nil)))))))))
abbrev n_L_above : List Str := ["_law_pot_here", "_law_many", "_law_most", "_law_turn"]
abbrev p_L_above : List Str := ["_law_pot_here", "_law_many", "_law_most"]
theorem sc_L_above : FnScope n_L_above p_L_above (defScope d_L_above.st) := ⟨rfl, rfl, rfl, by decide +kernel, rfl, by decide +kernel, by decide +kernel⟩
def t_L_above (K : PySem.W.Frag) (s__law_made : Sp) (s__law_draw : Sp) (s__law_row : Sp) (s__law_weight : Sp) : TS := (tRet (tCall s__law_made [] E0 (tCons (tVar 1) (tCons (tLc (iRng1 (tCons (tCall s__law_draw [] E0 (tCons (tVar 0) (tCons (tOp rAddI (tVar 2) (tC (.int 1))) tNil))) tNil)) (gName 3) tYes (tTup (tCons (tCall s__law_weight [] E0 (tCons (tVar 0) tNil)) (tCons (tCall s__law_row [] E0 (tCons (tVar 0) (tCons (tVar 1) tNil))) tNil))) [3]) tNil))))
theorem der_L_above (C : Cxt K mg) {s__law_made : Sp} {s__law_draw : Sp} {s__law_row : Sp} {s__law_weight : Sp} (c__law_made : C8.Cal P w K mg base j "_law_made" s__law_made []) (c__law_draw : C8.Cal P w K mg base j "_law_draw" s__law_draw []) (c__law_row : C8.Cal P w K mg base j "_law_row" s__law_row []) (c__law_weight : C8.Cal P w K mg base j "_law_weight" s__law_weight []) (cdv : Value) (A : Around) (outer : List Env) (s : Shared) (H : Hp) (E : XK) (hr : Room (j + 1) (A.deeper (envOfC d_L_above.ql (defScope d_L_above.st) s.heap.objs.size d_L_above.ad cdv))) :
    PSs (cxOf CX0 P w K mg base n_L_above d_L_above.ql (defScope d_L_above.st) d_L_above.ad cdv A outer s H E).nox (defBody d_L_above.st) (t_L_above K s__law_made s__law_draw s__law_row s__law_weight) := by
  have nd : (n_L_above).Nodup := by decide
  exact (pss_one (ps_ret (C8.pe_c c__law_made hr (Nat.le_succ _) rfl (pa_cons (pe_var (i := 1) rfl (.inr (.inl rfl))) (pa_cons (pe_lc (own := [("_law_turn", 3)]) rfl nd (pi_range1 rfl (C.n C.T.f_range) (pa_cons (C8.pe_c c__law_draw hr (Nat.le_succ _) rfl (pa_cons (pe_var (i := 0) rfl (.inr (.inl rfl))) (pa_cons (pe_op op_add (pe_var (i := 2) rfl (.inl rfl)) pe_int) pa_nil))) pa_nil)) (blkOk_by (by kernel_rfl)) (fun _ _ _ _ _ => (pg_name (i := 3) nd rfl (.inl rfl) (.inr rfl))) (fun _ _ _ _ _ => pts_nil) (fun _ _ _ _ _ => (pe_tup (pa_cons (C8.pe_c c__law_weight hr (Nat.le_succ _) rfl (pa_cons (pe_var (i := 0) rfl (.inr (.inl rfl))) pa_nil)) (pa_cons (C8.pe_c c__law_row hr (Nat.le_succ _) rfl (pa_cons (pe_var (i := 0) rfl (.inr (.inl rfl))) (pa_cons (pe_var (i := 1) rfl (.inr (.inl rfl))) pa_nil))) pa_nil))))) pa_nil)))))
abbrev n_L_any : List Str := ["_law_pot_here", "_law_many", "_law_squares_now", "_law_turn", "_law_number_here", "_law_found", "_law_i", "_law_j"]
abbrev p_L_any : List Str := ["_law_pot_here", "_law_many"]
theorem sc_L_any : FnScope n_L_any p_L_any (defScope d_L_any.st) := ⟨rfl, rfl, rfl, by decide +kernel, rfl, by decide +kernel, by decide +kernel⟩
def t_L_any (K : PySem.W.Frag) (s__law_draw : Sp) (s__law_weight : Sp) (s__law_row : Sp) (s__law_made : Sp) (s__law_low : Sp) (s__law_number : Sp) (s__law_mirror : Sp) : TS := (tSeq (tIfS (tTest (tOp rEq (tCall s__law_draw [] E0 (tCons (tVar 0) (tCons (tC (.int 2)) tNil))) (tC (.int 0)))) (tSeq (tAsg (tLst tNil) (gName 2)) (tSeq (tFor (iRng1 (tCons (tOp rAddI (tC (.int 1)) (tCall s__law_draw [] E0 (tCons (tVar 0) (tCons (tVar 1) tNil)))) tNil)) (gName 3) (tSeq (tAsg (tCall s__law_weight [] E0 (tCons (tVar 0) tNil)) (gName 4)) (tDrop (tBM K "list" rAppend (tVar 2) (tCons (tTup (tCons (tTup (tCons (tIf (tTest (tOp rGtI (tCall s__law_draw [] E0 (tCons (tVar 0) (tCons (tC (.int 3)) tNil))) (tC (.int 0)))) (tOp (rIxT K) (tVar 4) (tC (.int 0))) (tOp rSubI (tC (.int 0)) (tOp (rIxT K) (tVar 4) (tC (.int 0))))) (tCons (tC (.int 0)) (tCons (tOp (rIxT K) (tVar 4) (tC (.int 2))) tNil)))) (tCons (tCall s__law_row [] E0 (tCons (tVar 0) (tCons (tVar 1) tNil))) tNil))) tNil))))) (tRet (tCall s__law_made [] E0 (tCons (tVar 1) (tCons (tVar 2) tNil)))))) tNext) (tSeq (tAsg (tLc (iRng1 (tCons (tVar 1) tNil)) (gName 6) tYes (tOp rRep (tLst (tCons (tTup (tCons (tC (.int 0)) (tCons (tC (.int 0)) (tCons (tC (.int 1)) tNil)))) tNil)) (tVar 1)) [6]) (gName 5)) (tSeq (tFor (iRng1 (tCons (tVar 1) tNil)) (gName 6) (tSeq (tAsg (tIf (tTest (tOp rGtI (tCall s__law_draw [] E0 (tCons (tVar 0) (tCons (tC (.int 3)) tNil))) (tC (.int 0)))) (tCall s__law_low [] E0 (tCons (tOp rSubI (tCall s__law_draw [] E0 (tCons (tVar 0) (tCons (tC (.int 7)) tNil))) (tC (.int 2))) (tCons (tC (.int 0)) (tCons (tOp rAddI (tC (.int 1)) (tCall s__law_draw [] E0 (tCons (tVar 0) (tCons (tC (.int 2)) tNil)))) tNil)))) (tTup (tCons (tC (.int 0)) (tCons (tC (.int 0)) (tCons (tC (.int 1)) tNil))))) (gSub (tOp (rIxL K) (tVar 5) (tVar 6)) (tVar 6) rSetL)) (tFor (iRng1 (tCons (tVar 6) tNil)) (gName 7) (tSeq (tAsg (tIf (tTest (tOp rGtI (tCall s__law_draw [] E0 (tCons (tVar 0) (tCons (tC (.int 4)) tNil))) (tC (.int 0)))) (tCall s__law_number [] E0 (tCons (tVar 0) tNil)) (tTup (tCons (tC (.int 0)) (tCons (tC (.int 0)) (tCons (tC (.int 1)) tNil))))) (gSub (tOp (rIxL K) (tVar 5) (tVar 6)) (tVar 7) rSetL)) (tAsg (tCall s__law_mirror [] E0 (tCons (tOp (rIxL K) (tOp (rIxL K) (tVar 5) (tVar 6)) (tVar 7)) tNil)) (gSub (tOp (rIxL K) (tVar 5) (tVar 7)) (tVar 6) rSetL)))))) (tRet (tVar 5)))))
theorem der_L_any (C : Cxt K mg) {s__law_draw : Sp} {s__law_weight : Sp} {s__law_row : Sp} {s__law_made : Sp} {s__law_low : Sp} {s__law_number : Sp} {s__law_mirror : Sp} (c__law_draw : C8.Cal P w K mg base j "_law_draw" s__law_draw []) (c__law_weight : C8.Cal P w K mg base j "_law_weight" s__law_weight []) (c__law_row : C8.Cal P w K mg base j "_law_row" s__law_row []) (c__law_made : C8.Cal P w K mg base j "_law_made" s__law_made []) (c__law_low : C8.Cal P w K mg base j "_law_low" s__law_low []) (c__law_number : C8.Cal P w K mg base j "_law_number" s__law_number []) (c__law_mirror : C8.Cal P w K mg base j "_law_mirror" s__law_mirror []) (cdv : Value) (A : Around) (outer : List Env) (s : Shared) (H : Hp) (E : XK) (hr : Room (j + 1) (A.deeper (envOfC d_L_any.ql (defScope d_L_any.st) s.heap.objs.size d_L_any.ad cdv))) :
    PSs (cxOf CX0 P w K mg base n_L_any d_L_any.ql (defScope d_L_any.st) d_L_any.ad cdv A outer s H E).nox (defBody d_L_any.st) (t_L_any K s__law_draw s__law_weight s__law_row s__law_made s__law_low s__law_number s__law_mirror) := by
  have nd : (n_L_any).Nodup := by decide
  exact (pss_cons (ps_if (pt_cmpR op_eq (C8.pe_c c__law_draw hr (Nat.le_succ _) rfl (pa_cons (pe_var (i := 0) rfl (.inl rfl)) (pa_cons pe_int pa_nil))) pe_int (by rfl)) (pss_cons (ps_set (i := 2) nd rfl (.inl rfl) (pe_lst pa_nil) rfl (.inr rfl)) (pss_cons (ps_for PassesOwn.never rfl (pi_range1 rfl (C.n C.T.f_range) (pa_cons (pe_op op_add pe_int (C8.pe_c c__law_draw hr (Nat.le_succ _) rfl (pa_cons (pe_var (i := 0) rfl (.inl rfl)) (pa_cons (pe_var (i := 1) rfl (.inr (.inl rfl))) pa_nil)))) pa_nil)) (pg_name (i := 3) nd rfl (.inl rfl) (.inr rfl)) (pss_cons (ps_set (i := 4) nd rfl (.inl rfl) (C8.pe_c c__law_weight hr (Nat.le_succ _) rfl (pa_cons (pe_var (i := 0) rfl (.inl rfl)) pa_nil)) rfl (.inr rfl)) (pss_one (ps_expr (pe_app (pe_var (i := 2) rfl (.inl rfl)) (pe_tup (pa_cons (pe_tup (pa_cons (pe_ifExp (pt_cmpR op_gt (C8.pe_c c__law_draw hr (Nat.le_succ _) rfl (pa_cons (pe_var (i := 0) rfl (.inl rfl)) (pa_cons pe_int pa_nil))) pe_int (by rfl)) (pe_ix ix_tup (pe_var (i := 4) rfl (.inl rfl)) pe_int (fun _ _ => rfl)) (pe_op op_sub pe_int (pe_ix ix_tup (pe_var (i := 4) rfl (.inl rfl)) pe_int (fun _ _ => rfl)))) (pa_cons pe_int (pa_cons (pe_ix ix_tup (pe_var (i := 4) rfl (.inl rfl)) pe_int (fun _ _ => rfl)) pa_nil)))) (pa_cons (C8.pe_c c__law_row hr (Nat.le_succ _) rfl (pa_cons (pe_var (i := 0) rfl (.inl rfl)) (pa_cons (pe_var (i := 1) rfl (.inr (.inl rfl))) pa_nil))) pa_nil)))))))) (pss_one (ps_ret (C8.pe_c c__law_made hr (Nat.le_succ _) rfl (pa_cons (pe_var (i := 1) rfl (.inr (.inl rfl))) (pa_cons (pe_var (i := 2) rfl (.inl rfl)) pa_nil))))))) pss_nil) (pss_cons (ps_setLc (i := 5) (own := [("_law_i", 6)]) rfl nd rfl rfl (sw_true rfl rfl rfl (by decide +kernel)) (pi_range1 rfl (C.n C.T.f_range) (pa_cons (pe_var (i := 1) rfl (.inr (.inl rfl))) pa_nil)) (blkOk_by (by kernel_rfl)) (fun _ _ _ _ _ => (pg_name (i := 6) nd rfl (.inl rfl) (.inr rfl))) (fun _ _ _ _ _ => pts_nil) (fun _ _ _ _ _ => (pe_op op_rep (pe_lst (pa_cons (pe_tup (pa_cons pe_int (pa_cons pe_int (pa_cons pe_int pa_nil)))) pa_nil)) (pe_var (i := 1) rfl (.inr (.inl rfl)))))) (pss_cons (ps_for PassesOwn.never rfl (pi_range1 rfl (C.n C.T.f_range) (pa_cons (pe_var (i := 1) rfl (.inr (.inl rfl))) pa_nil)) (pg_name (i := 6) nd rfl (.inl rfl) (.inr rfl)) (pss_cons (ps_asg (pe_ifExp (pt_cmpR op_gt (C8.pe_c c__law_draw hr (Nat.le_succ _) rfl (pa_cons (pe_var (i := 0) rfl (.inl rfl)) (pa_cons pe_int pa_nil))) pe_int (by rfl)) (C8.pe_c c__law_low hr (Nat.le_succ _) rfl (pa_cons (pe_op op_sub (C8.pe_c c__law_draw hr (Nat.le_succ _) rfl (pa_cons (pe_var (i := 0) rfl (.inl rfl)) (pa_cons pe_int pa_nil))) pe_int) (pa_cons pe_int (pa_cons (pe_op op_add pe_int (C8.pe_c c__law_draw hr (Nat.le_succ _) rfl (pa_cons (pe_var (i := 0) rfl (.inl rfl)) (pa_cons pe_int pa_nil)))) pa_nil)))) (pe_tup (pa_cons pe_int (pa_cons pe_int (pa_cons pe_int pa_nil))))) (pg_sub (pe_ix ix_list (pe_var (i := 5) rfl (.inl rfl)) (pe_var (i := 6) rfl (.inl rfl)) (fun _ _ => rfl)) (pe_var (i := 6) rfl (.inl rfl)) set_list)) (pss_one (ps_for PassesOwn.never rfl (pi_range1 rfl (C.n C.T.f_range) (pa_cons (pe_var (i := 6) rfl (.inl rfl)) pa_nil)) (pg_name (i := 7) nd rfl (.inl rfl) (.inr rfl)) (pss_cons (ps_asg (pe_ifExp (pt_cmpR op_gt (C8.pe_c c__law_draw hr (Nat.le_succ _) rfl (pa_cons (pe_var (i := 0) rfl (.inl rfl)) (pa_cons pe_int pa_nil))) pe_int (by rfl)) (C8.pe_c c__law_number hr (Nat.le_succ _) rfl (pa_cons (pe_var (i := 0) rfl (.inl rfl)) pa_nil)) (pe_tup (pa_cons pe_int (pa_cons pe_int (pa_cons pe_int pa_nil))))) (pg_sub (pe_ix ix_list (pe_var (i := 5) rfl (.inl rfl)) (pe_var (i := 6) rfl (.inl rfl)) (fun _ _ => rfl)) (pe_var (i := 7) rfl (.inl rfl)) set_list)) (pss_one (ps_asg (C8.pe_c c__law_mirror hr (Nat.le_succ _) rfl (pa_cons (pe_ix ix_list (pe_ix ix_list (pe_var (i := 5) rfl (.inl rfl)) (pe_var (i := 6) rfl (.inl rfl)) (fun _ _ => rfl)) (pe_var (i := 7) rfl (.inl rfl)) (fun _ _ => rfl)) pa_nil)) (pg_sub (pe_ix ix_list (pe_var (i := 5) rfl (.inl rfl)) (pe_var (i := 7) rfl (.inl rfl)) (fun _ _ => rfl)) (pe_var (i := 6) rfl (.inl rfl)) set_list)))))))) (pss_one (ps_ret (pe_var (i := 5) rfl (.inl rfl)))))))
abbrev n_L_handed : List Str := ["_law_pot_here", "_law_rows", "_law_found", "_law_row_here", "_law_one"]
abbrev p_L_handed : List Str := ["_law_pot_here", "_law_rows"]
theorem sc_L_handed : FnScope n_L_handed p_L_handed (defScope d_L_handed.st) := ⟨rfl, rfl, rfl, by decide +kernel, rfl, by decide +kernel, by decide +kernel⟩
def t_L_handed (K : PySem.W.Frag) (s__law_passed : Sp) (s__law_draw : Sp) : TS := (tSeq (tAsg (tLc (iList K (tVar 1)) (gName 3) tYes (tLc (iList K (tVar 3)) (gName 4) tYes (tCall s__law_passed [] E0 (tCons (tVar 0) (tCons (tVar 4) tNil))) [4]) [3]) (gName 2)) (tSeq (tAsg (tLc (iList K (tVar 2)) (gName 3) tYes (tIf (tTest (tOp rEq (tCall s__law_draw [] E0 (tCons (tVar 0) (tCons (tC (.int 4)) tNil))) (tC (.int 0)))) (tCB (rTupN K) (tCons (tVar 3) tNil)) (tVar 3)) [3]) (gName 2)) (tRet (tIf (tTest (tOp rEq (tCall s__law_draw [] E0 (tCons (tVar 0) (tCons (tC (.int 4)) tNil))) (tC (.int 0)))) (tCB (rTupN K) (tCons (tVar 2) tNil)) (tVar 2)))))
theorem der_L_handed (C : Cxt K mg) {s__law_passed : Sp} {s__law_draw : Sp} (c__law_passed : C8.Cal P w K mg base j "_law_passed" s__law_passed []) (c__law_draw : C8.Cal P w K mg base j "_law_draw" s__law_draw []) (cdv : Value) (A : Around) (outer : List Env) (s : Shared) (H : Hp) (E : XK) (hr : Room (j + 1) (A.deeper (envOfC d_L_handed.ql (defScope d_L_handed.st) s.heap.objs.size d_L_handed.ad cdv))) :
    PSs (cxOf CX0 P w K mg base n_L_handed d_L_handed.ql (defScope d_L_handed.st) d_L_handed.ad cdv A outer s H E).nox (defBody d_L_handed.st) (t_L_handed K s__law_passed s__law_draw) := by
  have nd : (n_L_handed).Nodup := by decide
  exact (pss_cons (ps_setLc (i := 2) (own := [("_law_row_here", 3)]) rfl nd rfl rfl (sw_true rfl rfl rfl (by decide +kernel)) (pi_list (pe_var (i := 1) rfl (.inl rfl))) (blkOk_by (by kernel_rfl)) (fun _ _ _ _ _ => (pg_name (i := 3) nd rfl (.inl rfl) (.inr rfl))) (fun _ _ _ _ _ => pts_nil) (fun _ _ _ _ _ => (pe_lc (own := [("_law_one", 4)]) rfl nd (pi_list (pe_var (i := 3) rfl (.inl rfl))) (blkOk_by (by kernel_rfl)) (fun _ _ _ _ _ => (pg_name (i := 4) nd rfl (.inl rfl) (.inr rfl))) (fun _ _ _ _ _ => pts_nil) (fun _ _ _ _ _ => (C8.pe_c c__law_passed hr (Nat.le_succ _) rfl (pa_cons (pe_var (i := 0) rfl (.inr (.inl rfl))) (pa_cons (pe_var (i := 4) rfl (.inl rfl)) pa_nil))))))) (pss_cons (ps_setLc (i := 2) (own := [("_law_row_here", 3)]) rfl nd rfl rfl (sw_true rfl rfl rfl (by decide +kernel)) (pi_list (pe_var (i := 2) rfl (.inl rfl))) (blkOk_by (by kernel_rfl)) (fun _ _ _ _ _ => (pg_name (i := 3) nd rfl (.inl rfl) (.inr rfl))) (fun _ _ _ _ _ => pts_nil) (fun _ _ _ _ _ => (pe_ifExp (pt_cmpR op_eq (C8.pe_c c__law_draw hr (Nat.le_succ _) rfl (pa_cons (pe_var (i := 0) rfl (.inr (.inl rfl))) (pa_cons pe_int pa_nil))) pe_int (by rfl)) (pe_callTy call_tuple_of rfl (C.n C.T.f_tuple) PyProof.Rows.boot_tuple (pa_cons (pe_var (i := 3) rfl (.inl rfl)) pa_nil)) (pe_var (i := 3) rfl (.inl rfl))))) (pss_one (ps_ret (pe_ifExp (pt_cmpR op_eq (C8.pe_c c__law_draw hr (Nat.le_succ _) rfl (pa_cons (pe_var (i := 0) rfl (.inr (.inl rfl))) (pa_cons pe_int pa_nil))) pe_int (by rfl)) (pe_callTy call_tuple_of rfl (C.n C.T.f_tuple) PyProof.Rows.boot_tuple (pa_cons (pe_var (i := 2) rfl (.inl rfl)) pa_nil)) (pe_var (i := 2) rfl (.inl rfl)))))))
abbrev n_L_left : List Str := ["_law_rows", "_law_p", "_law_q", "_law_some", "_law_found", "_law_i", "_law_row_here", "_law_j", "_law_taken"]
abbrev p_L_left : List Str := ["_law_rows", "_law_p", "_law_q"]
theorem sc_L_left : FnScope n_L_left p_L_left (defScope d_L_left.st) := ⟨rfl, rfl, rfl, by decide +kernel, rfl, by decide +kernel, by decide +kernel⟩
def t_L_left (K : PySem.W.Frag) (s__law_over : Sp) (s__law_by : Sp) (s__law_plus : Sp) (s__law_less : Sp) : TS := (tSeq (tPar 3 4 (tCons (tLstRg (tRg1 (tCB (rLenN K) (tCons (tVar 0) tNil)))) (tCons (tLst tNil) tNil))) (tSeq (tFor (iList K (tVar 3)) (gName 5) (tSeq (tAsg (tLst tNil) (gName 6)) (tSeq (tFor (iList K (tVar 3)) (gName 7) (tSeq (tIfS (tTest (tOp rIsN (tVar 2) (tC .non))) (tAsg (tCall s__law_over [] E0 (tCons (tCall s__law_by [] E0 (tCons (tOp (rIxL K) (tOp (rIxL K) (tVar 0) (tVar 5)) (tVar 1)) (tCons (tOp (rIxL K) (tOp (rIxL K) (tVar 0) (tVar 1)) (tVar 7)) tNil))) (tCons (tOp (rIxL K) (tOp (rIxL K) (tVar 0) (tVar 1)) (tVar 1)) tNil))) (gName 8)) (tAsg (tCall s__law_plus [] E0 (tCons (tCall s__law_over [] E0 (tCons (tCall s__law_by [] E0 (tCons (tOp (rIxL K) (tOp (rIxL K) (tVar 0) (tVar 5)) (tVar 1)) (tCons (tOp (rIxL K) (tOp (rIxL K) (tVar 0) (tVar 2)) (tVar 7)) tNil))) (tCons (tOp (rIxL K) (tOp (rIxL K) (tVar 0) (tVar 2)) (tVar 1)) tNil))) (tCons (tCall s__law_over [] E0 (tCons (tCall s__law_by [] E0 (tCons (tOp (rIxL K) (tOp (rIxL K) (tVar 0) (tVar 5)) (tVar 2)) (tCons (tOp (rIxL K) (tOp (rIxL K) (tVar 0) (tVar 1)) (tVar 7)) tNil))) (tCons (tOp (rIxL K) (tOp (rIxL K) (tVar 0) (tVar 1)) (tVar 2)) tNil))) tNil))) (gName 8))) (tDrop (tBM K "list" rAppend (tVar 6) (tCons (tCall s__law_less [] E0 (tCons (tOp (rIxL K) (tOp (rIxL K) (tVar 0) (tVar 5)) (tVar 7)) (tCons (tVar 8) tNil))) tNil))))) (tDrop (tBM K "list" rAppend (tVar 4) (tCons (tVar 6) tNil)))))) (tRet (tVar 4))))
theorem der_L_left (C : Cxt K mg) {s__law_over : Sp} {s__law_by : Sp} {s__law_plus : Sp} {s__law_less : Sp} (c__law_over : C8.Cal P w K mg base j "_law_over" s__law_over []) (c__law_by : C8.Cal P w K mg base j "_law_by" s__law_by []) (c__law_plus : C8.Cal P w K mg base j "_law_plus" s__law_plus []) (c__law_less : C8.Cal P w K mg base j "_law_less" s__law_less []) (cdv : Value) (A : Around) (outer : List Env) (s : Shared) (H : Hp) (E : XK) (hr : Room (j + 1) (A.deeper (envOfC d_L_left.ql (defScope d_L_left.st) s.heap.objs.size d_L_left.ad cdv))) :
    PSs (cxOf CX0 P w K mg base n_L_left d_L_left.ql (defScope d_L_left.st) d_L_left.ad cdv A outer s H E).nox (defBody d_L_left.st) (t_L_left K s__law_over s__law_by s__law_plus s__law_less) := by
  have nd : (n_L_left).Nodup := by decide
  exact (pss_cons (ps_par (i := 3) (j := 4) rfl nd rfl rfl (by decide) rfl rfl (pa_cons (pe_listRg rfl rfl (C.n C.T.f_list) (prg_1 rfl (C.n C.T.f_range) (pe_callB call_len_seq rfl (C.n C.T.f_len) PySem.boot_len (pa_cons (pe_var (i := 0) rfl (.inl rfl)) pa_nil)))) (pa_cons (pe_lst pa_nil) pa_nil)) rfl) (pss_cons (ps_for PassesOwn.never rfl (pi_list (pe_var (i := 3) rfl (.inl rfl))) (pg_name (i := 5) nd rfl (.inl rfl) (.inr rfl)) (pss_cons (ps_set (i := 6) nd rfl (.inl rfl) (pe_lst pa_nil) rfl (.inr rfl)) (pss_cons (ps_for PassesOwn.never rfl (pi_list (pe_var (i := 3) rfl (.inl rfl))) (pg_name (i := 7) nd rfl (.inl rfl) (.inr rfl)) (pss_cons (ps_if (pt_cmpR op_isN (pe_var (i := 2) rfl (.inl rfl)) pe_non (by rfl)) (pss_one (ps_set (i := 8) nd rfl (.inl rfl) (C8.pe_c c__law_over hr (Nat.le_succ _) rfl (pa_cons (C8.pe_c c__law_by hr (Nat.le_succ _) rfl (pa_cons (pe_ix ix_list (pe_ix ix_list (pe_var (i := 0) rfl (.inl rfl)) (pe_var (i := 5) rfl (.inl rfl)) (fun _ _ => rfl)) (pe_var (i := 1) rfl (.inl rfl)) (fun _ _ => rfl)) (pa_cons (pe_ix ix_list (pe_ix ix_list (pe_var (i := 0) rfl (.inl rfl)) (pe_var (i := 1) rfl (.inl rfl)) (fun _ _ => rfl)) (pe_var (i := 7) rfl (.inl rfl)) (fun _ _ => rfl)) pa_nil))) (pa_cons (pe_ix ix_list (pe_ix ix_list (pe_var (i := 0) rfl (.inl rfl)) (pe_var (i := 1) rfl (.inl rfl)) (fun _ _ => rfl)) (pe_var (i := 1) rfl (.inl rfl)) (fun _ _ => rfl)) pa_nil))) rfl (.inr rfl))) (pss_one (ps_set (i := 8) nd rfl (.inl rfl) (C8.pe_c c__law_plus hr (Nat.le_succ _) rfl (pa_cons (C8.pe_c c__law_over hr (Nat.le_succ _) rfl (pa_cons (C8.pe_c c__law_by hr (Nat.le_succ _) rfl (pa_cons (pe_ix ix_list (pe_ix ix_list (pe_var (i := 0) rfl (.inl rfl)) (pe_var (i := 5) rfl (.inl rfl)) (fun _ _ => rfl)) (pe_var (i := 1) rfl (.inl rfl)) (fun _ _ => rfl)) (pa_cons (pe_ix ix_list (pe_ix ix_list (pe_var (i := 0) rfl (.inl rfl)) (pe_var (i := 2) rfl (.inl rfl)) (fun _ _ => rfl)) (pe_var (i := 7) rfl (.inl rfl)) (fun _ _ => rfl)) pa_nil))) (pa_cons (pe_ix ix_list (pe_ix ix_list (pe_var (i := 0) rfl (.inl rfl)) (pe_var (i := 2) rfl (.inl rfl)) (fun _ _ => rfl)) (pe_var (i := 1) rfl (.inl rfl)) (fun _ _ => rfl)) pa_nil))) (pa_cons (C8.pe_c c__law_over hr (Nat.le_succ _) rfl (pa_cons (C8.pe_c c__law_by hr (Nat.le_succ _) rfl (pa_cons (pe_ix ix_list (pe_ix ix_list (pe_var (i := 0) rfl (.inl rfl)) (pe_var (i := 5) rfl (.inl rfl)) (fun _ _ => rfl)) (pe_var (i := 2) rfl (.inl rfl)) (fun _ _ => rfl)) (pa_cons (pe_ix ix_list (pe_ix ix_list (pe_var (i := 0) rfl (.inl rfl)) (pe_var (i := 1) rfl (.inl rfl)) (fun _ _ => rfl)) (pe_var (i := 7) rfl (.inl rfl)) (fun _ _ => rfl)) pa_nil))) (pa_cons (pe_ix ix_list (pe_ix ix_list (pe_var (i := 0) rfl (.inl rfl)) (pe_var (i := 1) rfl (.inl rfl)) (fun _ _ => rfl)) (pe_var (i := 2) rfl (.inl rfl)) (fun _ _ => rfl)) pa_nil))) pa_nil))) rfl (.inr rfl)))) (pss_one (ps_expr (pe_app (pe_var (i := 6) rfl (.inl rfl)) (C8.pe_c c__law_less hr (Nat.le_succ _) rfl (pa_cons (pe_ix ix_list (pe_ix ix_list (pe_var (i := 0) rfl (.inl rfl)) (pe_var (i := 5) rfl (.inl rfl)) (fun _ _ => rfl)) (pe_var (i := 7) rfl (.inl rfl)) (fun _ _ => rfl)) (pa_cons (pe_var (i := 8) rfl (.inl rfl)) pa_nil)))))))) (pss_one (ps_expr (pe_app (pe_var (i := 4) rfl (.inl rfl)) (pe_var (i := 6) rfl (.inl rfl)))))))) (pss_one (ps_ret (pe_var (i := 4) rfl (.inl rfl))))))
abbrev n_L_steps : List Str := ["_law_rows", "_law_above_here", "_law_below", "_law_product", "_law_some", "_law_turn", "_law_lone", "_law_pairs", "_law_p", "_law_q", "_law_at"]
abbrev p_L_steps : List Str := ["_law_rows"]
theorem sc_L_steps : FnScope n_L_steps p_L_steps (defScope d_L_steps.st) := ⟨rfl, rfl, rfl, by decide +kernel, rfl, by decide +kernel, by decide +kernel⟩
def t_L_steps (K : PySem.W.Frag) (s__law_by : Sp) (s__law_left : Sp) (s__law_mirror : Sp) : TS := (tSeq (tAsg (tTup (tCons (tC (.int 0)) (tCons (tC (.int 0)) (tCons (tTup (tCons (tC (.int 1)) (tCons (tC (.int 0)) (tCons (tC (.int 1)) tNil)))) (tCons (tLstRg (tRg1 (tCB (rLenN K) (tCons (tVar 0) tNil)))) tNil))))) (gTup K 4 (gCons (gName 1) (gCons (gName 2) (gCons (gName 3) (gCons (gName 4) gNil)))))) (tSeq (tFor (iRng1 (tCons (tOp rAddI (tCB (rLenN K) (tCons (tVar 0) tNil)) (tC (.int 1))) tNil)) (gName 5) (tSeq (tAsg (tLc (iList K (tVar 4)) (gName 8) (tTest (tOp rNe (tOp (rIxT K) (tOp (rIxL K) (tOp (rIxL K) (tVar 0) (tVar 8)) (tVar 8)) (tC (.int 0))) (tC (.int 0)))) (tVar 8) [8]) (gName 6)) (tSeq (tAsg (tLst tNil) (gName 7)) (tSeq (tFor (iList K (tVar 4)) (gName 8) (tDrop (tBM K "list" rExtend (tVar 7) (tCons (tLc (iList K (tVar 4)) (gName 9) (tTest (tOp (rNeD K) (tOp (rIxL K) (tOp (rIxL K) (tVar 0) (tVar 8)) (tVar 9)) (tTup (tCons (tC (.int 0)) (tCons (tC (.int 0)) (tCons (tC (.int 1)) tNil)))))) (tTup (tCons (tVar 8) (tCons (tVar 9) tNil))) [9]) tNil)))) (tIfS (tTest (tOp (rNeD K) (tVar 6) (tLst tNil))) (tSeq (tAsg (tOp (rIxL K) (tVar 6) (tUn rNeg (tC (.int 1)))) (gName 8)) (tSeq (tAsg (tCall s__law_by [] E0 (tCons (tVar 3) (tCons (tOp (rIxL K) (tOp (rIxL K) (tVar 0) (tVar 8)) (tVar 8)) tNil))) (gName 3)) (tSeq (tAsg (tIf (tTest (tOp rGtI (tOp (rIxT K) (tOp (rIxL K) (tOp (rIxL K) (tVar 0) (tVar 8)) (tVar 8)) (tC (.int 0))) (tC (.int 0)))) (tTup (tCons (tOp rAddI (tVar 1) (tC (.int 1))) (tCons (tVar 2) tNil))) (tTup (tCons (tVar 1) (tCons (tOp rAddI (tVar 2) (tC (.int 1))) tNil)))) (gTup K 2 (gCons (gName 1) (gCons (gName 2) gNil)))) (tAsg (tCall s__law_left [] E0 (tCons (tVar 0) (tCons (tVar 8) (tCons (tC .non) tNil)))) (gName 0))))) (tIfS (tTest (tOp (rNeD K) (tVar 7) (tLst tNil))) (tSeq (tAsg (tOp (rIxL K) (tVar 7) (tUn rNeg (tC (.int 1)))) (gTup K 2 (gCons (gName 8) (gCons (gName 9) gNil)))) (tSeq (tAsg (tCall s__law_by [] E0 (tCons (tVar 3) (tCons (tCall s__law_by [] E0 (tCons (tTup (tCons (tOp rSubI (tC (.int 0)) (tC (.int 1))) (tCons (tC (.int 0)) (tCons (tC (.int 1)) tNil)))) (tCons (tCall s__law_by [] E0 (tCons (tOp (rIxL K) (tOp (rIxL K) (tVar 0) (tVar 8)) (tVar 9)) (tCons (tCall s__law_mirror [] E0 (tCons (tOp (rIxL K) (tOp (rIxL K) (tVar 0) (tVar 8)) (tVar 9)) tNil)) tNil))) tNil))) tNil))) (gName 3)) (tSeq (tPar 1 2 (tCons (tOp rAddI (tVar 1) (tC (.int 1))) (tCons (tOp rAddI (tVar 2) (tC (.int 1))) tNil))) (tAsg (tCall s__law_left [] E0 (tCons (tVar 0) (tCons (tVar 8) (tCons (tVar 9) tNil)))) (gName 0))))) (tSeq (tAsg (tOp rSubI (tOp rSubI (tCB (rLenN K) (tCons (tVar 0) tNil)) (tVar 1)) (tVar 2)) (gName 10)) (tRet (tTup (tCons (tTup (tCons (tVar 1) (tCons (tVar 10) (tCons (tVar 2) tNil)))) (tCons (tIf (tTest (tOp rEq (tVar 10) (tC (.int 0)))) (tVar 3) (tTup (tCons (tC (.int 0)) (tCons (tC (.int 0)) (tCons (tC (.int 1)) tNil))))) tNil))))))))))) (tRet (tC .non))))
theorem der_L_steps (C : Cxt K mg) {s__law_by : Sp} {s__law_left : Sp} {s__law_mirror : Sp} (c__law_by : C8.Cal P w K mg base j "_law_by" s__law_by []) (c__law_left : C8.Cal P w K mg base j "_law_left" s__law_left []) (c__law_mirror : C8.Cal P w K mg base j "_law_mirror" s__law_mirror []) (cdv : Value) (A : Around) (outer : List Env) (s : Shared) (H : Hp) (E : XK) (hr : Room (j + 1) (A.deeper (envOfC d_L_steps.ql (defScope d_L_steps.st) s.heap.objs.size d_L_steps.ad cdv))) :
    PSs (cxOf CX0 P w K mg base n_L_steps d_L_steps.ql (defScope d_L_steps.st) d_L_steps.ad cdv A outer s H E).nox (defBody d_L_steps.st) (t_L_steps K s__law_by s__law_left s__law_mirror) := by
  have nd : (n_L_steps).Nodup := by decide
  exact (pss_cons (ps_asg (pe_tup (pa_cons pe_int (pa_cons pe_int (pa_cons (pe_tup (pa_cons pe_int (pa_cons pe_int (pa_cons pe_int pa_nil)))) (pa_cons (pe_listRg rfl rfl (C.n C.T.f_list) (prg_1 rfl (C.n C.T.f_range) (pe_callB call_len_seq rfl (C.n C.T.f_len) PySem.boot_len (pa_cons (pe_var (i := 0) rfl (.inr (.inl rfl))) pa_nil)))) pa_nil))))) (pg_tup rfl (pgs_cons (pg_name (i := 1) nd rfl (.inl rfl) (.inr rfl)) (pgs_cons (pg_name (i := 2) nd rfl (.inl rfl) (.inr rfl)) (pgs_cons (pg_name (i := 3) nd rfl (.inl rfl) (.inr rfl)) (pgs_cons (pg_name (i := 4) nd rfl (.inl rfl) (.inr rfl)) pgs_nil)))))) (pss_cons (ps_for PassesOwn.never rfl (pi_range1 rfl (C.n C.T.f_range) (pa_cons (pe_op op_add (pe_callB call_len_seq rfl (C.n C.T.f_len) PySem.boot_len (pa_cons (pe_var (i := 0) rfl (.inr (.inl rfl))) pa_nil)) pe_int) pa_nil)) (pg_name (i := 5) nd rfl (.inl rfl) (.inr rfl)) (pss_cons (ps_setLc (i := 6) (own := [("_law_p", 8)]) rfl nd rfl rfl (sw_true rfl rfl rfl (by decide +kernel)) (pi_list (pe_var (i := 4) rfl (.inl rfl))) (blkOk_by (by kernel_rfl)) (fun _ _ _ _ _ => (pg_name (i := 8) nd rfl (.inl rfl) (.inr rfl))) (fun _ _ _ _ _ => (pts_one (pt_cmpR op_ne (pe_ix ix_tup (pe_ix ix_list (pe_ix ix_list (pe_var (i := 0) rfl (.inr (.inl rfl))) (pe_var (i := 8) rfl (.inl rfl)) (fun _ _ => rfl)) (pe_var (i := 8) rfl (.inl rfl)) (fun _ _ => rfl)) pe_int (fun _ _ => rfl)) pe_int (by rfl)))) (fun _ _ _ _ _ => (pe_var (i := 8) rfl (.inl rfl)))) (pss_cons (ps_set (i := 7) nd rfl (.inl rfl) (pe_lst pa_nil) rfl (.inr rfl)) (pss_cons (ps_for PassesOwn.never rfl (pi_list (pe_var (i := 4) rfl (.inl rfl))) (pg_name (i := 8) nd rfl (.inr rfl) (.inl rfl)) (pss_one (ps_expr (pe_ext (pe_var (i := 7) rfl (.inl rfl)) (pe_lc (own := [("_law_q", 9)]) rfl nd (pi_list (pe_var (i := 4) rfl (.inl rfl))) (blkOk_by (by kernel_rfl)) (fun _ _ _ _ _ => (pg_name (i := 9) nd rfl (.inl rfl) (.inr rfl))) (fun _ _ _ _ _ => (pts_one (pt_cmpR (op_neD hr.units) (pe_ix ix_list (pe_ix ix_list (pe_var (i := 0) rfl (.inr (.inl rfl))) (pe_var (i := 8) rfl (.inr (.inl rfl))) (fun _ _ => rfl)) (pe_var (i := 9) rfl (.inl rfl)) (fun _ _ => rfl)) (pe_tup (pa_cons pe_int (pa_cons pe_int (pa_cons pe_int pa_nil)))) (by rfl)))) (fun _ _ _ _ _ => (pe_tup (pa_cons (pe_var (i := 8) rfl (.inr (.inl rfl))) (pa_cons (pe_var (i := 9) rfl (.inl rfl)) pa_nil))))))))) (pss_one (ps_if (pt_cmpR (op_neD hr.units) (pe_var (i := 6) rfl (.inl rfl)) (pe_lst pa_nil) (by rfl)) (pss_cons (ps_set (i := 8) nd rfl (.inr rfl) (pe_ix ix_list (pe_var (i := 6) rfl (.inl rfl)) (pe_un un_neg pe_int) (fun _ _ => rfl)) rfl (.inl rfl)) (pss_cons (ps_set (i := 3) nd rfl (.inl rfl) (C8.pe_c c__law_by hr (Nat.le_succ _) rfl (pa_cons (pe_var (i := 3) rfl (.inl rfl)) (pa_cons (pe_ix ix_list (pe_ix ix_list (pe_var (i := 0) rfl (.inr (.inl rfl))) (pe_var (i := 8) rfl (.inr (.inl rfl))) (fun _ _ => rfl)) (pe_var (i := 8) rfl (.inr (.inl rfl))) (fun _ _ => rfl)) pa_nil))) rfl (.inr rfl)) (pss_cons (ps_asg (pe_ifExp (pt_cmpR op_gt (pe_ix ix_tup (pe_ix ix_list (pe_ix ix_list (pe_var (i := 0) rfl (.inr (.inl rfl))) (pe_var (i := 8) rfl (.inr (.inl rfl))) (fun _ _ => rfl)) (pe_var (i := 8) rfl (.inr (.inl rfl))) (fun _ _ => rfl)) pe_int (fun _ _ => rfl)) pe_int (by rfl)) (pe_tup (pa_cons (pe_op op_add (pe_var (i := 1) rfl (.inl rfl)) pe_int) (pa_cons (pe_var (i := 2) rfl (.inl rfl)) pa_nil))) (pe_tup (pa_cons (pe_var (i := 1) rfl (.inl rfl)) (pa_cons (pe_op op_add (pe_var (i := 2) rfl (.inl rfl)) pe_int) pa_nil)))) (pg_tup rfl (pgs_cons (pg_name (i := 1) nd rfl (.inl rfl) (.inr rfl)) (pgs_cons (pg_name (i := 2) nd rfl (.inl rfl) (.inr rfl)) pgs_nil)))) (pss_one (ps_set (i := 0) nd rfl (.inr rfl) (C8.pe_c c__law_left hr (Nat.le_succ _) rfl (pa_cons (pe_var (i := 0) rfl (.inr (.inl rfl))) (pa_cons (pe_var (i := 8) rfl (.inr (.inl rfl))) (pa_cons pe_non pa_nil)))) rfl (.inl rfl)))))) (pss_one (ps_if (pt_cmpR (op_neD hr.units) (pe_var (i := 7) rfl (.inl rfl)) (pe_lst pa_nil) (by rfl)) (pss_cons (ps_asg (pe_ix ix_list (pe_var (i := 7) rfl (.inl rfl)) (pe_un un_neg pe_int) (fun _ _ => rfl)) (pg_tup rfl (pgs_cons (pg_name (i := 8) nd rfl (.inr rfl) (.inl rfl)) (pgs_cons (pg_name (i := 9) nd rfl (.inl rfl) (.inr rfl)) pgs_nil)))) (pss_cons (ps_set (i := 3) nd rfl (.inl rfl) (C8.pe_c c__law_by hr (Nat.le_succ _) rfl (pa_cons (pe_var (i := 3) rfl (.inl rfl)) (pa_cons (C8.pe_c c__law_by hr (Nat.le_succ _) rfl (pa_cons (pe_tup (pa_cons (pe_op op_sub pe_int pe_int) (pa_cons pe_int (pa_cons pe_int pa_nil)))) (pa_cons (C8.pe_c c__law_by hr (Nat.le_succ _) rfl (pa_cons (pe_ix ix_list (pe_ix ix_list (pe_var (i := 0) rfl (.inr (.inl rfl))) (pe_var (i := 8) rfl (.inr (.inl rfl))) (fun _ _ => rfl)) (pe_var (i := 9) rfl (.inl rfl)) (fun _ _ => rfl)) (pa_cons (C8.pe_c c__law_mirror hr (Nat.le_succ _) rfl (pa_cons (pe_ix ix_list (pe_ix ix_list (pe_var (i := 0) rfl (.inr (.inl rfl))) (pe_var (i := 8) rfl (.inr (.inl rfl))) (fun _ _ => rfl)) (pe_var (i := 9) rfl (.inl rfl)) (fun _ _ => rfl)) pa_nil)) pa_nil))) pa_nil))) pa_nil))) rfl (.inr rfl)) (pss_cons (ps_par (i := 1) (j := 2) rfl nd rfl rfl (by decide) rfl rfl (pa_cons (pe_op op_add (pe_var (i := 1) rfl (.inl rfl)) pe_int) (pa_cons (pe_op op_add (pe_var (i := 2) rfl (.inl rfl)) pe_int) pa_nil)) rfl) (pss_one (ps_set (i := 0) nd rfl (.inr rfl) (C8.pe_c c__law_left hr (Nat.le_succ _) rfl (pa_cons (pe_var (i := 0) rfl (.inr (.inl rfl))) (pa_cons (pe_var (i := 8) rfl (.inr (.inl rfl))) (pa_cons (pe_var (i := 9) rfl (.inl rfl)) pa_nil)))) rfl (.inl rfl)))))) (pss_cons (ps_set (i := 10) nd rfl (.inl rfl) (pe_op op_sub (pe_op op_sub (pe_callB call_len_seq rfl (C.n C.T.f_len) PySem.boot_len (pa_cons (pe_var (i := 0) rfl (.inr (.inl rfl))) pa_nil)) (pe_var (i := 1) rfl (.inl rfl))) (pe_var (i := 2) rfl (.inl rfl))) rfl (.inr rfl)) (pss_one (ps_ret (pe_tup (pa_cons (pe_tup (pa_cons (pe_var (i := 1) rfl (.inl rfl)) (pa_cons (pe_var (i := 10) rfl (.inl rfl)) (pa_cons (pe_var (i := 2) rfl (.inl rfl)) pa_nil)))) (pa_cons (pe_ifExp (pt_cmpR op_eq (pe_var (i := 10) rfl (.inl rfl)) pe_int (by rfl)) (pe_var (i := 3) rfl (.inl rfl)) (pe_tup (pa_cons pe_int (pa_cons pe_int (pa_cons pe_int pa_nil))))) pa_nil)))))))))))))) (pss_one (ps_ret pe_non))))
abbrev n_L_determinant : List Str := ["_law_rows", "_law_found", "_law_j", "_law_rest", "_law_one", "_law_row_here"]
abbrev p_L_determinant : List Str := ["_law_rows"]
theorem sc_L_determinant : FnScope n_L_determinant p_L_determinant (defScope d_L_determinant.st) := ⟨rfl, rfl, rfl, by decide +kernel, rfl, by decide +kernel, by decide +kernel⟩
def t_L_determinant (K : PySem.W.Frag) (s__law_determinant : Sp) (s__law_by : Sp) (s__law_plus : Sp) : TS := (tSeq (tIfS (tTest (tOp (rEqD K) (tVar 0) (tLst tNil))) (tRet (tTup (tCons (tC (.int 1)) (tCons (tC (.int 0)) (tCons (tC (.int 1)) tNil))))) tNext) (tSeq (tAsg (tTup (tCons (tC (.int 0)) (tCons (tC (.int 0)) (tCons (tC (.int 1)) tNil)))) (gName 1)) (tSeq (tFor (iRng1 (tCons (tCB (rLenN K) (tCons (tVar 0) tNil)) tNil)) (gName 2) (tSeq (tAsg (tCall s__law_determinant [] E0 (tCons (tLc (iList K (tSl (rSlL K) (tVar 0) (tPart (tC (.int 1))) tNoPart)) (gName 5) tYes (tOp rCat (tSl (rSlL K) (tVar 5) tNoPart (tPart (tVar 2))) (tSl (rSlL K) (tVar 5) (tPart (tOp rAddI (tVar 2) (tC (.int 1)))) tNoPart)) [5]) tNil)) (gName 3)) (tSeq (tAsg (tCall s__law_by [] E0 (tCons (tOp (rIxL K) (tOp (rIxL K) (tVar 0) (tC (.int 0))) (tVar 2)) (tCons (tVar 3) tNil))) (gName 4)) (tAsg (tCall s__law_plus [] E0 (tCons (tVar 1) (tCons (tIf (tTest (tOp rEq (tOp rMulW (tC (.int 2)) (tOp rFdivW (tVar 2) (tC (.int 2)))) (tVar 2))) (tVar 4) (tTup (tCons (tOp rSubI (tC (.int 0)) (tOp (rIxT K) (tVar 4) (tC (.int 0)))) (tCons (tOp rSubI (tC (.int 0)) (tOp (rIxT K) (tVar 4) (tC (.int 1)))) (tCons (tOp (rIxT K) (tVar 4) (tC (.int 2))) tNil))))) tNil))) (gName 1))))) (tRet (tVar 1)))))
theorem der_L_determinant (C : Cxt K mg) {s__law_determinant : Sp} {s__law_by : Sp} {s__law_plus : Sp} (c__law_determinant : C8.Cal P w K mg base j "_law_determinant" s__law_determinant []) (c__law_by : C8.Cal P w K mg base j "_law_by" s__law_by []) (c__law_plus : C8.Cal P w K mg base j "_law_plus" s__law_plus []) (cdv : Value) (A : Around) (outer : List Env) (s : Shared) (H : Hp) (E : XK) (hr : Room (j + 1) (A.deeper (envOfC d_L_determinant.ql (defScope d_L_determinant.st) s.heap.objs.size d_L_determinant.ad cdv))) :
    PSs (cxOf CX0 P w K mg base n_L_determinant d_L_determinant.ql (defScope d_L_determinant.st) d_L_determinant.ad cdv A outer s H E).nox (defBody d_L_determinant.st) (t_L_determinant K s__law_determinant s__law_by s__law_plus) := by
  have nd : (n_L_determinant).Nodup := by decide
  exact (pss_cons (ps_if (pt_cmpR (op_eqD hr.units) (pe_var (i := 0) rfl (.inl rfl)) (pe_lst pa_nil) (by rfl)) (pss_one (ps_ret (pe_tup (pa_cons pe_int (pa_cons pe_int (pa_cons pe_int pa_nil)))))) pss_nil) (pss_cons (ps_set (i := 1) nd rfl (.inl rfl) (pe_tup (pa_cons pe_int (pa_cons pe_int (pa_cons pe_int pa_nil)))) rfl (.inr rfl)) (pss_cons (ps_for PassesOwn.never rfl (pi_range1 rfl (C.n C.T.f_range) (pa_cons (pe_callB call_len_seq rfl (C.n C.T.f_len) PySem.boot_len (pa_cons (pe_var (i := 0) rfl (.inl rfl)) pa_nil)) pa_nil)) (pg_name (i := 2) nd rfl (.inr rfl) (.inl rfl)) (pss_cons (ps_set (i := 3) nd rfl (.inl rfl) (C8.pe_c c__law_determinant hr (Nat.le_succ _) rfl (pa_cons (pe_lc (own := [("_law_row_here", 5)]) rfl nd (pi_list (pe_slice sl_list (pe_var (i := 0) rfl (.inl rfl)) (po_some pe_int) po_none)) (blkOk_by (by kernel_rfl)) (fun _ _ _ _ _ => (pg_name (i := 5) nd rfl (.inl rfl) (.inr rfl))) (fun _ _ _ _ _ => pts_nil) (fun _ _ _ _ _ => (pe_op op_cat (pe_slice sl_list (pe_var (i := 5) rfl (.inl rfl)) po_none (po_some (pe_var (i := 2) rfl (.inr (.inl rfl))))) (pe_slice sl_list (pe_var (i := 5) rfl (.inl rfl)) (po_some (pe_op op_add (pe_var (i := 2) rfl (.inr (.inl rfl))) pe_int)) po_none)))) pa_nil)) rfl (.inr rfl)) (pss_cons (ps_set (i := 4) nd rfl (.inl rfl) (C8.pe_c c__law_by hr (Nat.le_succ _) rfl (pa_cons (pe_ix ix_list (pe_ix ix_list (pe_var (i := 0) rfl (.inl rfl)) pe_int (fun _ _ => rfl)) (pe_var (i := 2) rfl (.inr (.inl rfl))) (fun _ _ => rfl)) (pa_cons (pe_var (i := 3) rfl (.inl rfl)) pa_nil))) rfl (.inr rfl)) (pss_one (ps_set (i := 1) nd rfl (.inl rfl) (C8.pe_c c__law_plus hr (Nat.le_succ _) rfl (pa_cons (pe_var (i := 1) rfl (.inl rfl)) (pa_cons (pe_ifExp (pt_cmpR op_eq (pe_op op_mulW pe_int (pe_op op_fdivW (pe_var (i := 2) rfl (.inr (.inl rfl))) pe_int)) (pe_var (i := 2) rfl (.inr (.inl rfl))) (by rfl)) (pe_var (i := 4) rfl (.inl rfl)) (pe_tup (pa_cons (pe_op op_sub pe_int (pe_ix ix_tup (pe_var (i := 4) rfl (.inl rfl)) pe_int (fun _ _ => rfl))) (pa_cons (pe_op op_sub pe_int (pe_ix ix_tup (pe_var (i := 4) rfl (.inl rfl)) pe_int (fun _ _ => rfl))) (pa_cons (pe_ix ix_tup (pe_var (i := 4) rfl (.inl rfl)) pe_int (fun _ _ => rfl)) pa_nil))))) pa_nil))) rfl (.inr rfl)))))) (pss_one (ps_ret (pe_var (i := 1) rfl (.inl rfl)))))))
abbrev n_L_choices : List Str := ["_law_many", "_law_found", "_law_at", "_law_some"]
abbrev p_L_choices : List Str := ["_law_many"]
theorem sc_L_choices : FnScope n_L_choices p_L_choices (defScope d_L_choices.st) := ⟨rfl, rfl, rfl, by decide +kernel, rfl, by decide +kernel, by decide +kernel⟩
def t_L_choices (K : PySem.W.Frag) : TS := (tSeq (tAsg (tLst (tCons (tLst tNil) tNil)) (gName 1)) (tSeq (tFor (iRng1 (tCons (tVar 0) tNil)) (gName 2) (tAsg (tOp rCat (tVar 1) (tLc (iList K (tVar 1)) (gName 3) tYes (tOp rCat (tVar 3) (tLst (tCons (tVar 2) tNil))) [3])) (gName 1))) (tRet (tSl (rSlL K) (tVar 1) (tPart (tC (.int 1))) tNoPart))))
theorem der_L_choices (C : Cxt K mg) (cdv : Value) (A : Around) (outer : List Env) (s : Shared) (H : Hp) (E : XK) (hr : Room (j + 1) (A.deeper (envOfC d_L_choices.ql (defScope d_L_choices.st) s.heap.objs.size d_L_choices.ad cdv))) :
    PSs (cxOf CX0 P w K mg base n_L_choices d_L_choices.ql (defScope d_L_choices.st) d_L_choices.ad cdv A outer s H E).nox (defBody d_L_choices.st) (t_L_choices K) := by
  have nd : (n_L_choices).Nodup := by decide
  exact (pss_cons (ps_set (i := 1) nd rfl (.inl rfl) (pe_lst (pa_cons (pe_lst pa_nil) pa_nil)) rfl (.inr rfl)) (pss_cons (ps_for PassesOwn.never rfl (pi_range1 rfl (C.n C.T.f_range) (pa_cons (pe_var (i := 0) rfl (.inl rfl)) pa_nil)) (pg_name (i := 2) nd rfl (.inr rfl) (.inl rfl)) (pss_one (ps_set (i := 1) nd rfl (.inl rfl) (pe_op op_cat (pe_var (i := 1) rfl (.inl rfl)) (pe_lc (own := [("_law_some", 3)]) rfl nd (pi_list (pe_var (i := 1) rfl (.inl rfl))) (blkOk_by (by kernel_rfl)) (fun _ _ _ _ _ => (pg_name (i := 3) nd rfl (.inl rfl) (.inr rfl))) (fun _ _ _ _ _ => pts_nil) (fun _ _ _ _ _ => (pe_op op_cat (pe_var (i := 3) rfl (.inl rfl)) (pe_lst (pa_cons (pe_var (i := 2) rfl (.inr (.inl rfl))) pa_nil)))))) rfl (.inr rfl)))) (pss_one (ps_ret (pe_slice sl_list (pe_var (i := 1) rfl (.inl rfl)) (po_some pe_int) po_none)))))
abbrev n_L_part : List Str := ["_law_rows", "_law_positions", "_law_i", "_law_j"]
abbrev p_L_part : List Str := ["_law_rows", "_law_positions"]
theorem sc_L_part : FnScope n_L_part p_L_part (defScope d_L_part.st) := ⟨rfl, rfl, rfl, by decide +kernel, rfl, by decide +kernel, by decide +kernel⟩
def t_L_part (K : PySem.W.Frag) : TS := (tRet (tLc (iList K (tVar 1)) (gName 2) tYes (tLc (iList K (tVar 1)) (gName 3) tYes (tOp (rIxL K) (tOp (rIxL K) (tVar 0) (tVar 2)) (tVar 3)) [3]) [2]))
theorem der_L_part (C : Cxt K mg) (cdv : Value) (A : Around) (outer : List Env) (s : Shared) (H : Hp) (E : XK) (hr : Room (j + 1) (A.deeper (envOfC d_L_part.ql (defScope d_L_part.st) s.heap.objs.size d_L_part.ad cdv))) :
    PSs (cxOf CX0 P w K mg base n_L_part d_L_part.ql (defScope d_L_part.st) d_L_part.ad cdv A outer s H E).nox (defBody d_L_part.st) (t_L_part K) := by
  have nd : (n_L_part).Nodup := by decide
  exact (pss_one (ps_ret (pe_lc (own := [("_law_i", 2)]) rfl nd (pi_list (pe_var (i := 1) rfl (.inr (.inl rfl)))) (blkOk_by (by kernel_rfl)) (fun _ _ _ _ _ => (pg_name (i := 2) nd rfl (.inr rfl) (.inl rfl))) (fun _ _ _ _ _ => pts_nil) (fun _ _ _ _ _ => (pe_lc (own := [("_law_j", 3)]) rfl nd (pi_list (pe_var (i := 1) rfl (.inr (.inl rfl)))) (blkOk_by (by kernel_rfl)) (fun _ _ _ _ _ => (pg_name (i := 3) nd rfl (.inl rfl) (.inr rfl))) (fun _ _ _ _ _ => pts_nil) (fun _ _ _ _ _ => (pe_ix ix_list (pe_ix ix_list (pe_var (i := 0) rfl (.inr (.inl rfl))) (pe_var (i := 2) rfl (.inr (.inl rfl))) (fun _ _ => rfl)) (pe_var (i := 3) rfl (.inl rfl)) (fun _ _ => rfl))))))))
abbrev n_L_grown : List Str := ["_law_pot_here", "_law_rows", "_law_many", "_law_column", "_law_found", "_law_at", "_law_one"]
abbrev p_L_grown : List Str := ["_law_pot_here", "_law_rows"]
theorem sc_L_grown : FnScope n_L_grown p_L_grown (defScope d_L_grown.st) := ⟨rfl, rfl, rfl, by decide +kernel, rfl, by decide +kernel, by decide +kernel⟩
def t_L_grown (K : PySem.W.Frag) (s__law_draw : Sp) (s__law_number : Sp) (s__law_mirror : Sp) (s__law_low : Sp) : TS := (tSeq (tAsg (tCB (rLenN K) (tCons (tVar 1) tNil)) (gName 2)) (tSeq (tAsg (tLc (iRng1 (tCons (tVar 2) tNil)) (gName 5) tYes (tIf (tTest (tOp rGtI (tCall s__law_draw [] E0 (tCons (tVar 0) (tCons (tC (.int 3)) tNil))) (tC (.int 0)))) (tCall s__law_number [] E0 (tCons (tVar 0) tNil)) (tTup (tCons (tC (.int 0)) (tCons (tC (.int 0)) (tCons (tC (.int 1)) tNil))))) [5]) (gName 3)) (tSeq (tAsg (tLc (iRng1 (tCons (tVar 2) tNil)) (gName 5) tYes (tOp rCat (tOp (rIxL K) (tVar 1) (tVar 5)) (tLst (tCons (tOp (rIxL K) (tVar 3) (tVar 5)) tNil))) [5]) (gName 4)) (tRet (tOp rCat (tVar 4) (tLst (tCons (tOp rCat (tLc (iList K (tVar 3)) (gName 6) tYes (tCall s__law_mirror [] E0 (tCons (tVar 6) tNil)) [6]) (tLst (tCons (tCall s__law_low [] E0 (tCons (tOp rSubI (tCall s__law_draw [] E0 (tCons (tVar 0) (tCons (tC (.int 12)) tNil))) (tC (.int 1))) (tCons (tC (.int 0)) (tCons (tOp rAddI (tC (.int 1)) (tCall s__law_draw [] E0 (tCons (tVar 0) (tCons (tC (.int 2)) tNil)))) tNil)))) tNil))) tNil)))))))
theorem der_L_grown (C : Cxt K mg) {s__law_draw : Sp} {s__law_number : Sp} {s__law_mirror : Sp} {s__law_low : Sp} (c__law_draw : C8.Cal P w K mg base j "_law_draw" s__law_draw []) (c__law_number : C8.Cal P w K mg base j "_law_number" s__law_number []) (c__law_mirror : C8.Cal P w K mg base j "_law_mirror" s__law_mirror []) (c__law_low : C8.Cal P w K mg base j "_law_low" s__law_low []) (cdv : Value) (A : Around) (outer : List Env) (s : Shared) (H : Hp) (E : XK) (hr : Room (j + 1) (A.deeper (envOfC d_L_grown.ql (defScope d_L_grown.st) s.heap.objs.size d_L_grown.ad cdv))) :
    PSs (cxOf CX0 P w K mg base n_L_grown d_L_grown.ql (defScope d_L_grown.st) d_L_grown.ad cdv A outer s H E).nox (defBody d_L_grown.st) (t_L_grown K s__law_draw s__law_number s__law_mirror s__law_low) := by
  have nd : (n_L_grown).Nodup := by decide
  exact (pss_cons (ps_set (i := 2) nd rfl (.inl rfl) (pe_callB call_len_seq rfl (C.n C.T.f_len) PySem.boot_len (pa_cons (pe_var (i := 1) rfl (.inr (.inl rfl))) pa_nil)) rfl (.inr rfl)) (pss_cons (ps_set (i := 3) nd rfl (.inr rfl) (pe_lc (own := [("_law_at", 5)]) rfl nd (pi_range1 rfl (C.n C.T.f_range) (pa_cons (pe_var (i := 2) rfl (.inl rfl)) pa_nil)) (blkOk_by (by kernel_rfl)) (fun _ _ _ _ _ => (pg_name (i := 5) nd rfl (.inl rfl) (.inr rfl))) (fun _ _ _ _ _ => pts_nil) (fun _ _ _ _ _ => (pe_ifExp (pt_cmpR op_gt (C8.pe_c c__law_draw hr (Nat.le_succ _) rfl (pa_cons (pe_var (i := 0) rfl (.inr (.inl rfl))) (pa_cons pe_int pa_nil))) pe_int (by rfl)) (C8.pe_c c__law_number hr (Nat.le_succ _) rfl (pa_cons (pe_var (i := 0) rfl (.inr (.inl rfl))) pa_nil)) (pe_tup (pa_cons pe_int (pa_cons pe_int (pa_cons pe_int pa_nil))))))) rfl (.inl rfl)) (pss_cons (ps_setLc (i := 4) (own := [("_law_at", 5)]) rfl nd rfl rfl (sw_true rfl rfl rfl (by decide +kernel)) (pi_range1 rfl (C.n C.T.f_range) (pa_cons (pe_var (i := 2) rfl (.inl rfl)) pa_nil)) (blkOk_by (by kernel_rfl)) (fun _ _ _ _ _ => (pg_name (i := 5) nd rfl (.inl rfl) (.inr rfl))) (fun _ _ _ _ _ => pts_nil) (fun _ _ _ _ _ => (pe_op op_cat (pe_ix ix_list (pe_var (i := 1) rfl (.inr (.inl rfl))) (pe_var (i := 5) rfl (.inl rfl)) (fun _ _ => rfl)) (pe_lst (pa_cons (pe_ix ix_list (pe_var (i := 3) rfl (.inr (.inl rfl))) (pe_var (i := 5) rfl (.inl rfl)) (fun _ _ => rfl)) pa_nil))))) (pss_one (ps_ret (pe_op op_cat (pe_var (i := 4) rfl (.inl rfl)) (pe_lst (pa_cons (pe_op op_cat (pe_lc (own := [("_law_one", 6)]) rfl nd (pi_list (pe_var (i := 3) rfl (.inr (.inl rfl)))) (blkOk_by (by kernel_rfl)) (fun _ _ _ _ _ => (pg_name (i := 6) nd rfl (.inl rfl) (.inr rfl))) (fun _ _ _ _ _ => pts_nil) (fun _ _ _ _ _ => (C8.pe_c c__law_mirror hr (Nat.le_succ _) rfl (pa_cons (pe_var (i := 6) rfl (.inl rfl)) pa_nil)))) (pe_lst (pa_cons (C8.pe_c c__law_low hr (Nat.le_succ _) rfl (pa_cons (pe_op op_sub (C8.pe_c c__law_draw hr (Nat.le_succ _) rfl (pa_cons (pe_var (i := 0) rfl (.inr (.inl rfl))) (pa_cons pe_int pa_nil))) pe_int) (pa_cons pe_int (pa_cons (pe_op op_add pe_int (C8.pe_c c__law_draw hr (Nat.le_succ _) rfl (pa_cons (pe_var (i := 0) rfl (.inr (.inl rfl))) (pa_cons pe_int pa_nil)))) pa_nil)))) pa_nil))) pa_nil))))))))
abbrev n_L_right : List Str := ["_law_pot_here", "_law_many", "_law_rows", "_law_table", "_law_is_let", "_law_products", "_law_at", "_law_few", "_law_below", "_law_due", "_law_short", "_law_positions", "_law_product", "_law_k"]
abbrev p_L_right : List Str := ["_law_pot_here"]
theorem sc_L_right : FnScope n_L_right p_L_right (defScope d_L_right.st) := ⟨rfl, rfl, rfl, by decide +kernel, rfl, by decide +kernel, by decide +kernel⟩
def t_L_right (K : PySem.W.Frag) (s__law_draw : Sp) (s__law_grown : Sp) (s__law_above : Sp) (s__law_any : Sp) (s__law_handed : Sp) (s__law_steps : Sp) (s__law_choices : Sp) (s__law_determinant : Sp) (s__law_part : Sp) (s_is_never_below : Sp) (s_picked : Sp) (s_ne_CR : Sp) (s_determinant : Sp) (s_mk_Ratio : Sp) (s_least_part : Sp) (s_bar : Sp) (s_is_bar : Sp) : TS := (tSeq (tAsg (tOp rAddI (tC (.int 1)) (tCall s__law_draw [] E0 (tCons (tVar 0) (tCons (tC (.int 3)) tNil)))) (gName 1)) (tSeq (tAsg (tIf (tTest (tOp rEq (tCall s__law_draw [] E0 (tCons (tVar 0) (tCons (tC (.int 2)) tNil))) (tC (.int 0)))) (tCall s__law_grown [] E0 (tCons (tVar 0) (tCons (tCall s__law_above [] E0 (tCons (tVar 0) (tCons (tVar 1) (tCons (tC (.int 3)) tNil)))) tNil))) (tCall s__law_any [] E0 (tCons (tVar 0) (tCons (tOp rAddI (tVar 1) (tC (.int 1))) tNil)))) (gName 2)) (tSeq (tPar 1 3 (tCons (tCB (rLenN K) (tCons (tVar 2) tNil)) (tCons (tCall s__law_handed [] E0 (tCons (tVar 0) (tCons (tVar 2) tNil))) tNil))) (tSeq (tAsg (tOp rEq (tOp (rIxT K) (tOp (rIxT K) (tCall s__law_steps [] E0 (tCons (tVar 2) tNil)) (tC (.int 0))) (tC (.int 2))) (tC (.int 0))) (gName 4)) (tSeq (tAsg (tLc (iList K (tCall s__law_choices [] E0 (tCons (tVar 1) tNil))) (gName 11) tYes (tCall s__law_determinant [] E0 (tCons (tCall s__law_part [] E0 (tCons (tVar 2) (tCons (tVar 11) tNil))) tNil)) [11]) (gName 5)) (tSeq (tIfS (tOr (tTest (tOp rNe (tVar 4) (tCB (rAll K) (tCons (tLc (iList K (tVar 5)) (gName 12) tYes (tOp rGeI (tOp (rIxT K) (tVar 12) (tC (.int 0))) (tC (.int 0))) [12]) tNil)))) (tTest (tOp rNe (tCall s_is_never_below [] E0 (tCons (tVar 3) tNil)) (tVar 4)))) (tRet (tC (.bl false))) tNext) (tSeq (tAsg (tCall s__law_draw [] E0 (tCons (tVar 0) (tCons (tCB (rLenN K) (tCons (tVar 5) tNil)) tNil))) (gName 6)) (tSeq (tAsg (tCall s_picked [] E0 (tCons (tVar 3) (tCons (tOp (rIxL K) (tCall s__law_choices [] E0 (tCons (tVar 1) tNil)) (tVar 6)) tNil))) (gName 7)) (tSeq (tIfS (tTest (tOp (rOwnNe CR s_ne_CR) (tCall s_determinant [] E0 (tCons (tVar 7) tNil)) (tMake CR s_mk_Ratio [] E0 (tCons (tOp (rIxT K) (tOp (rIxL K) (tVar 5) (tVar 6)) (tC (.int 0))) (tCons (tOp (rIxT K) (tOp (rIxL K) (tVar 5) (tVar 6)) (tC (.int 2))) tNil))))) (tRet (tC (.bl false))) tNext) (tSeq (tIfS (tTest (tOp rNe (tCall s_is_never_below [] E0 (tCons (tVar 7) tNil)) (tOp rEq (tOp (rIxT K) (tOp (rIxT K) (tCall s__law_steps [] E0 (tCons (tCall s__law_part [] E0 (tCons (tVar 2) (tCons (tOp (rIxL K) (tCall s__law_choices [] E0 (tCons (tVar 1) tNil)) (tVar 6)) tNil))) tNil)) (tC (.int 0))) (tC (.int 2))) (tC (.int 0))))) (tRet (tC (.bl false))) tNext) (tSeq (tAsg (tLc (iRng1 (tCons (tVar 1) tNil)) (gName 13) (tTest (tOp rGtI (tOp (rIxT K) (tOp (rIxT K) (tCall s__law_steps [] E0 (tCons (tCall s__law_part [] E0 (tCons (tVar 2) (tCons (tLstRg (tRg1 (tOp rAddI (tVar 13) (tC (.int 1))))) tNil))) tNil)) (tC (.int 0))) (tC (.int 2))) (tC (.int 0)))) (tVar 13) [13]) (gName 8)) (tSeq (tAsg (tIf (tTest (tOp (rNeD K) (tVar 8) (tLst tNil))) (tOp (rIxL K) (tVar 8) (tC (.int 0))) (tC .non)) (gName 9)) (tSeq (tIfS (tOr (tTest (tOp rNe (tCB (rReprL K) (tCons (tLst (tCons (tCall s_least_part [] E0 (tCons (tVar 3) tNil)) (tCons (tCall s_least_part [] E0 (tCons (tVar 3) tNil)) tNil))) tNil)) (tCB (rReprL K) (tCons (tOp rRep (tLst (tCons (tVar 9) tNil)) (tC (.int 2))) tNil)))) (tTest (tOp rNe (tOp rIsN (tVar 9) (tC .non)) (tVar 4)))) (tRet (tC (.bl false))) tNext) (tSeq (tIfS (tTest (tOp rIsN (tVar 9) (tC .non))) (tRet (tC (.bl true))) tNext) (tSeq (tAsg (tCall s_bar [] E0 (tCons (tCall s_picked [] E0 (tCons (tVar 3) (tCons (tLstRg (tRg1 (tOp rAddI (tVar 9) (tC (.int 1))))) tNil))) tNil)) (gName 10)) (tSeq (tIfS (tAnd (tTest (tOp rGtI (tVar 9) (tC (.int 0)))) (tTest (tOp rNotNn (tCall s_bar [] E0 (tCons (tCall s_picked [] E0 (tCons (tVar 3) (tCons (tLstRg (tRg1 (tVar 9))) tNil))) tNil)) (tC .non)))) (tRet (tC (.bl false))) tNext) (tRet (tOp rIsB (tCall s_is_bar [] E0 (tCons (tVar 3) (tCons (tOp rCat (tVar 10) (tOp rRep (tLst (tCons (tC (.int 0)) tNil)) (tOp rSubI (tOp rSubI (tVar 1) (tVar 9)) (tC (.int 1))))) tNil))) (tC (.bl true))))))))))))))))))))
theorem der_L_right (C : Cxt K mg) {s__law_draw : Sp} {s__law_grown : Sp} {s__law_above : Sp} {s__law_any : Sp} {s__law_handed : Sp} {s__law_steps : Sp} {s__law_choices : Sp} {s__law_determinant : Sp} {s__law_part : Sp} {s_is_never_below : Sp} {s_picked : Sp} {s_ne_CR : Sp} {s_determinant : Sp} {s_mk_Ratio : Sp} {s_least_part : Sp} {s_bar : Sp} {s_is_bar : Sp} (c__law_draw : C8.Cal P w K mg base j "_law_draw" s__law_draw []) (c__law_grown : C8.Cal P w K mg base j "_law_grown" s__law_grown []) (c__law_above : C8.Cal P w K mg base j "_law_above" s__law_above []) (c__law_any : C8.Cal P w K mg base j "_law_any" s__law_any []) (c__law_handed : C8.Cal P w K mg base j "_law_handed" s__law_handed []) (c__law_steps : C8.Cal P w K mg base j "_law_steps" s__law_steps []) (c__law_choices : C8.Cal P w K mg base j "_law_choices" s__law_choices []) (c__law_determinant : C8.Cal P w K mg base j "_law_determinant" s__law_determinant []) (c__law_part : C8.Cal P w K mg base j "_law_part" s__law_part []) (c_is_never_below : C8.Cal P w K mg base j "is_never_below" s_is_never_below []) (c_picked : C8.Cal P w K mg base j "picked" s_picked []) (c_ne_CR : NeB P w K mg base j CR s_ne_CR) (c_determinant : C8.Cal P w K mg base j "determinant" s_determinant []) (c_mk_Ratio_0 : C8.Mak P w K mg base j "Ratio" CR s_mk_Ratio []) (c_kw_least_part : KwB P w K mg base j "least_part" "table" s_least_part) (c_least_part : C8.Cal P w K mg base j "least_part" s_least_part []) (c_bar : C8.Cal P w K mg base j "bar" s_bar []) (c_is_bar : C8.Cal P w K mg base j "is_bar" s_is_bar []) (cdv : Value) (A : Around) (outer : List Env) (s : Shared) (H : Hp) (E : XK) (hgd : A.guards = some []) (hr : Room (j + 1) (A.deeper (envOfC d_L_right.ql (defScope d_L_right.st) s.heap.objs.size d_L_right.ad cdv))) :
    PSs (cxOf CX0 P w K mg base n_L_right d_L_right.ql (defScope d_L_right.st) d_L_right.ad cdv A outer s H E).nox (defBody d_L_right.st) (t_L_right K s__law_draw s__law_grown s__law_above s__law_any s__law_handed s__law_steps s__law_choices s__law_determinant s__law_part s_is_never_below s_picked s_ne_CR s_determinant s_mk_Ratio s_least_part s_bar s_is_bar) := by
  have nd : (n_L_right).Nodup := by decide
  exact (pss_cons (ps_set (i := 1) nd rfl (.inl rfl) (pe_op op_add pe_int (C8.pe_c c__law_draw hr (Nat.le_succ _) rfl (pa_cons (pe_var (i := 0) rfl (.inl rfl)) (pa_cons pe_int pa_nil)))) rfl (.inr rfl)) (pss_cons (ps_set (i := 2) nd rfl (.inr rfl) (pe_ifExp (pt_cmpR op_eq (C8.pe_c c__law_draw hr (Nat.le_succ _) rfl (pa_cons (pe_var (i := 0) rfl (.inl rfl)) (pa_cons pe_int pa_nil))) pe_int (by rfl)) (C8.pe_c c__law_grown hr (Nat.le_succ _) rfl (pa_cons (pe_var (i := 0) rfl (.inl rfl)) (pa_cons (C8.pe_c c__law_above hr (Nat.le_succ _) rfl (pa_cons (pe_var (i := 0) rfl (.inl rfl)) (pa_cons (pe_var (i := 1) rfl (.inl rfl)) (pa_cons pe_int pa_nil)))) pa_nil))) (C8.pe_c c__law_any hr (Nat.le_succ _) rfl (pa_cons (pe_var (i := 0) rfl (.inl rfl)) (pa_cons (pe_op op_add (pe_var (i := 1) rfl (.inl rfl)) pe_int) pa_nil)))) rfl (.inl rfl)) (pss_cons (ps_par (i := 1) (j := 3) rfl nd rfl rfl (by decide) rfl rfl (pa_cons (pe_callB call_len_seq rfl (C.n C.T.f_len) PySem.boot_len (pa_cons (pe_var (i := 2) rfl (.inr (.inl rfl))) pa_nil)) (pa_cons (C8.pe_c c__law_handed hr (Nat.le_succ _) rfl (pa_cons (pe_var (i := 0) rfl (.inl rfl)) (pa_cons (pe_var (i := 2) rfl (.inr (.inl rfl))) pa_nil))) pa_nil)) rfl) (pss_cons (ps_set (i := 4) nd rfl (.inl rfl) (pe_cmpR op_eq (pe_ix ix_tup (pe_ix ix_tup (C8.pe_c c__law_steps hr (Nat.le_succ _) rfl (pa_cons (pe_var (i := 2) rfl (.inr (.inl rfl))) pa_nil)) pe_int (fun _ _ => rfl)) pe_int (fun _ _ => rfl)) pe_int (by rfl)) rfl (.inr rfl)) (pss_cons (ps_setLc (i := 5) (own := [("_law_positions", 11)]) rfl nd rfl rfl (sw_true rfl rfl rfl (by decide +kernel)) (pi_list (C8.pe_c c__law_choices hr (Nat.le_succ _) rfl (pa_cons (pe_var (i := 1) rfl (.inl rfl)) pa_nil))) (blkOk_by (by kernel_rfl)) (fun _ _ _ _ _ => (pg_name (i := 11) nd rfl (.inl rfl) (.inr rfl))) (fun _ _ _ _ _ => pts_nil) (fun _ _ _ _ _ => (C8.pe_c c__law_determinant hr (Nat.le_succ _) rfl (pa_cons (C8.pe_c c__law_part hr (Nat.le_succ _) rfl (pa_cons (pe_var (i := 2) rfl (.inr (.inl rfl))) (pa_cons (pe_var (i := 11) rfl (.inl rfl)) pa_nil))) pa_nil)))) (pss_cons (ps_if (PW.pt (pw_or (pt_cmpR op_ne (pe_var (i := 4) rfl (.inl rfl)) (pe_callB (cr_all rfl) rfl (C.n C.T.f_all) PyProof.Rows.boot_all (pa_cons (pe_lc (own := [("_law_product", 12)]) rfl nd (pi_list (pe_var (i := 5) rfl (.inl rfl))) (blkOk_by (by kernel_rfl)) (fun _ _ _ _ _ => (pg_name (i := 12) nd rfl (.inl rfl) (.inr rfl))) (fun _ _ _ _ _ => pts_nil) (fun _ _ _ _ _ => (pe_cmpR op_ge (pe_ix ix_tup (pe_var (i := 12) rfl (.inl rfl)) pe_int (fun _ _ => rfl)) pe_int (by rfl)))) pa_nil)) (by rfl)) (pw_or1 (pt_cmpR op_ne (C8.pe_c c_is_never_below hr (Nat.le_succ _) rfl (pa_cons (pe_var (i := 3) rfl (.inl rfl)) pa_nil)) (pe_var (i := 4) rfl (.inl rfl)) (by rfl))))) (pss_one (ps_ret pe_bl)) pss_nil) (pss_cons (ps_set (i := 6) nd rfl (.inl rfl) (C8.pe_c c__law_draw hr (Nat.le_succ _) rfl (pa_cons (pe_var (i := 0) rfl (.inl rfl)) (pa_cons (pe_callB call_len_seq rfl (C.n C.T.f_len) PySem.boot_len (pa_cons (pe_var (i := 5) rfl (.inl rfl)) pa_nil)) pa_nil))) rfl (.inr rfl)) (pss_cons (ps_set (i := 7) nd rfl (.inl rfl) (C8.pe_c c_picked hr (Nat.le_succ _) rfl (pa_cons (pe_var (i := 3) rfl (.inl rfl)) (pa_cons (pe_ix ix_list (C8.pe_c c__law_choices hr (Nat.le_succ _) rfl (pa_cons (pe_var (i := 1) rfl (.inl rfl)) pa_nil)) (pe_var (i := 6) rfl (.inl rfl)) (fun _ _ => rfl)) pa_nil))) rfl (.inr rfl)) (pss_cons (ps_if (pt_cmpR (op_neB c_ne_CR hr (Nat.le_refl _)) (C8.pe_c c_determinant hr (Nat.le_succ _) rfl (pa_cons (pe_var (i := 7) rfl (.inl rfl)) pa_nil)) (C8.pe_mk c_mk_Ratio_0 hr (Nat.le_refl _) rfl (pa_cons (pe_ix ix_tup (pe_ix ix_list (pe_var (i := 5) rfl (.inl rfl)) (pe_var (i := 6) rfl (.inl rfl)) (fun _ _ => rfl)) pe_int (fun _ _ => rfl)) (pa_cons (pe_ix ix_tup (pe_ix ix_list (pe_var (i := 5) rfl (.inl rfl)) (pe_var (i := 6) rfl (.inl rfl)) (fun _ _ => rfl)) pe_int (fun _ _ => rfl)) pa_nil))) (by rfl)) (pss_one (ps_ret pe_bl)) pss_nil) (pss_cons (ps_if (pt_cmpR op_ne (C8.pe_c c_is_never_below hr (Nat.le_succ _) rfl (pa_cons (pe_var (i := 7) rfl (.inl rfl)) pa_nil)) (pe_cmpR op_eq (pe_ix ix_tup (pe_ix ix_tup (C8.pe_c c__law_steps hr (Nat.le_succ _) rfl (pa_cons (C8.pe_c c__law_part hr (Nat.le_succ _) rfl (pa_cons (pe_var (i := 2) rfl (.inr (.inl rfl))) (pa_cons (pe_ix ix_list (C8.pe_c c__law_choices hr (Nat.le_succ _) rfl (pa_cons (pe_var (i := 1) rfl (.inl rfl)) pa_nil)) (pe_var (i := 6) rfl (.inl rfl)) (fun _ _ => rfl)) pa_nil))) pa_nil)) pe_int (fun _ _ => rfl)) pe_int (fun _ _ => rfl)) pe_int (by rfl)) (by rfl)) (pss_one (ps_ret pe_bl)) pss_nil) (pss_cons (ps_setLc (i := 8) (own := [("_law_k", 13)]) rfl nd rfl rfl (sw_true rfl rfl rfl (by decide +kernel)) (pi_range1 rfl (C.n C.T.f_range) (pa_cons (pe_var (i := 1) rfl (.inl rfl)) pa_nil)) (blkOk_by (by kernel_rfl)) (fun _ _ _ _ _ => (pg_name (i := 13) nd rfl (.inl rfl) (.inr rfl))) (fun _ _ _ _ _ => (pts_one (pt_cmpR op_gt (pe_ix ix_tup (pe_ix ix_tup (C8.pe_c c__law_steps hr (Nat.le_succ _) rfl (pa_cons (C8.pe_c c__law_part hr (Nat.le_succ _) rfl (pa_cons (pe_var (i := 2) rfl (.inr (.inl rfl))) (pa_cons (pe_listRg rfl rfl (C.n C.T.f_list) (prg_1 rfl (C.n C.T.f_range) (pe_op op_add (pe_var (i := 13) rfl (.inl rfl)) pe_int))) pa_nil))) pa_nil)) pe_int (fun _ _ => rfl)) pe_int (fun _ _ => rfl)) pe_int (by rfl)))) (fun _ _ _ _ _ => (pe_var (i := 13) rfl (.inl rfl)))) (pss_cons (ps_set (i := 9) nd rfl (.inl rfl) (pe_ifExp (pt_cmpR (op_neD hr.units) (pe_var (i := 8) rfl (.inl rfl)) (pe_lst pa_nil) (by rfl)) (pe_ix ix_list (pe_var (i := 8) rfl (.inl rfl)) pe_int (fun _ _ => rfl)) pe_non) rfl (.inr rfl)) (pss_cons (ps_if (PW.pt (pw_or (pt_cmpR op_ne (pe_callB (call_reprL hgd hr.units) rfl (C.n C.T.f_repr) PyProof.Rows.boot_repr (pa_cons (pe_lst (pa_cons (C8.pe_c c_least_part hr (Nat.le_succ _) rfl (pa_cons (pe_var (i := 3) rfl (.inl rfl)) pa_nil)) (pa_cons (pe_kwB c_kw_least_part hr (Nat.le_succ _) rfl (pe_var (i := 3) rfl (.inl rfl))) pa_nil))) pa_nil)) (pe_callB (call_reprL hgd hr.units) rfl (C.n C.T.f_repr) PyProof.Rows.boot_repr (pa_cons (pe_op op_rep (pe_lst (pa_cons (pe_var (i := 9) rfl (.inl rfl)) pa_nil)) pe_int) pa_nil)) (by rfl)) (pw_or1 (pt_cmpR op_ne (pe_cmpR op_isN (pe_var (i := 9) rfl (.inl rfl)) pe_non (by rfl)) (pe_var (i := 4) rfl (.inl rfl)) (by rfl))))) (pss_one (ps_ret pe_bl)) pss_nil) (pss_cons (ps_if (pt_cmpR op_isN (pe_var (i := 9) rfl (.inl rfl)) pe_non (by rfl)) (pss_one (ps_ret pe_bl)) pss_nil) (pss_cons (ps_set (i := 10) nd rfl (.inl rfl) (C8.pe_c c_bar hr (Nat.le_succ _) rfl (pa_cons (C8.pe_c c_picked hr (Nat.le_succ _) rfl (pa_cons (pe_var (i := 3) rfl (.inl rfl)) (pa_cons (pe_listRg rfl rfl (C.n C.T.f_list) (prg_1 rfl (C.n C.T.f_range) (pe_op op_add (pe_var (i := 9) rfl (.inl rfl)) pe_int))) pa_nil))) pa_nil)) rfl (.inr rfl)) (pss_cons (ps_if (PW.pt (pw_and (pt_cmpR op_gt (pe_var (i := 9) rfl (.inl rfl)) pe_int (by rfl)) (pw_and1 (pt_cmpR op_notN (C8.pe_c c_bar hr (Nat.le_succ _) rfl (pa_cons (C8.pe_c c_picked hr (Nat.le_succ _) rfl (pa_cons (pe_var (i := 3) rfl (.inl rfl)) (pa_cons (pe_listRg rfl rfl (C.n C.T.f_list) (prg_1 rfl (C.n C.T.f_range) (pe_var (i := 9) rfl (.inl rfl)))) pa_nil))) pa_nil)) pe_non (by rfl))))) (pss_one (ps_ret pe_bl)) pss_nil) (pss_one (ps_ret (pe_cmpR op_isBl (C8.pe_c c_is_bar hr (Nat.le_succ _) rfl (pa_cons (pe_var (i := 3) rfl (.inl rfl)) (pa_cons (pe_op op_cat (pe_var (i := 10) rfl (.inl rfl)) (pe_op op_rep (pe_lst (pa_cons pe_int pa_nil)) (pe_op op_sub (pe_op op_sub (pe_var (i := 1) rfl (.inl rfl)) (pe_var (i := 9) rfl (.inl rfl))) pe_int))) pa_nil))) pe_bl (by rfl))))))))))))))))))))
abbrev n_law : List Str := ["_law_script", "_law_k"]
abbrev p_law : List Str := ["_law_script"]
theorem sc_law : FnScope n_law p_law (defScope d_law.st) := ⟨rfl, rfl, rfl, by decide +kernel, rfl, by decide +kernel, by decide +kernel⟩
def t_law (K : PySem.W.Frag) (s__law_right : Sp) (s__law_pot : Sp) : TS := (tRet (tCB (rAll K) (tCons (tLc (iRng1 (tCons (tCB (rMax2) (tCons (tC (.int 1)) (tCons (tCB (rMin2) (tCons (tC (.int 2)) (tCons (tCB (rLenN K) (tCons (tVar 0) tNil)) tNil))) tNil))) tNil)) (gName 1) tYes (tCall s__law_right [] E0 (tCons (tCall s__law_pot [] E0 (tCons (tVar 0) (tCons (tVar 1) tNil))) tNil)) [1]) tNil)))
theorem der_law (C : Cxt K mg) {s__law_right : Sp} {s__law_pot : Sp} (c__law_right : CalG P w K mg base j "_law_right" s__law_right) (c__law_pot : C8.Cal P w K mg base j "_law_pot" s__law_pot []) (cdv : Value) (A : Around) (outer : List Env) (s : Shared) (H : Hp) (E : XK) (hgd : A.guards = some []) (hr : Room (j + 1) (A.deeper (envOfC d_law.ql (defScope d_law.st) s.heap.objs.size d_law.ad cdv))) :
    PSs (cxOf CX0 P w K mg base n_law d_law.ql (defScope d_law.st) d_law.ad cdv A outer s H E).nox (defBody d_law.st) (t_law K s__law_right s__law_pot) := by
  have nd : (n_law).Nodup := by decide
  exact (pss_one (ps_ret (pe_callB (cr_all rfl) rfl (C.n C.T.f_all) PyProof.Rows.boot_all (pa_cons (pe_lc (own := [("_law_k", 1)]) rfl nd (pi_range1 rfl (C.n C.T.f_range) (pa_cons (pe_callB (call_max2 rfl) rfl (C.n C.T.f_max) PyProof.Rows.boot_max (pa_cons pe_int (pa_cons (pe_callB (call_min2 rfl) rfl (C.n C.T.f_min) PyProof.Rows.boot_min (pa_cons pe_int (pa_cons (pe_callB call_len_seq rfl (C.n C.T.f_len) PySem.boot_len (pa_cons (pe_var (i := 0) rfl (.inr (.inl rfl))) pa_nil)) pa_nil))) pa_nil))) pa_nil)) (blkOk_by (by kernel_rfl)) (fun _ _ _ _ _ => (pg_name (i := 1) nd rfl (.inl rfl) (.inr rfl))) (fun _ _ _ _ _ => pts_nil) (fun _ _ _ _ _ => (pe_cG c__law_right hgd hr (Nat.le_succ _) rfl (pa_cons (C8.pe_c c__law_pot hr (Nat.le_succ _) rfl (pa_cons (pe_var (i := 0) rfl (.inr (.inl rfl))) (pa_cons (pe_var (i := 1) rfl (.inl rfl)) pa_nil))) pa_nil)))) pa_nil))))
end N640

set_option maxHeartbeats 4000000
set_option linter.all false
/-! Gaussian rationals, their lowest form, sizes. -/
namespace N640
structure Gn where
  re : Rat
  im : Rat
  deriving DecidableEq
namespace Gn
instance : Add Gn := ⟨fun a b => ⟨a.re + b.re, a.im + b.im⟩⟩
instance : Mul Gn := ⟨fun a b => ⟨a.re * b.re - a.im * b.im, a.re * b.im + a.im * b.re⟩⟩
instance : Neg Gn := ⟨fun a => ⟨-a.re, -a.im⟩⟩
instance : Sub Gn := ⟨fun a b => ⟨a.re - b.re, a.im - b.im⟩⟩
instance : NatCast Gn := ⟨fun n => ⟨(n : Rat), 0⟩⟩
instance (n : Nat) : OfNat Gn n := ⟨⟨(n : Rat), 0⟩⟩
instance : IntCast Gn := ⟨fun n => ⟨(n : Rat), 0⟩⟩
instance : SMul Nat Gn := ⟨fun n a => ((n : Nat) : Gn) * a⟩
instance : SMul Int Gn := ⟨fun n a => ((n : Int) : Gn) * a⟩
def npow (a : Gn) : Nat → Gn
  | 0 => 1
  | n + 1 => npow a n * a
instance : HPow Gn Nat Gn := ⟨npow⟩
theorem ext' {a b : Gn} (h1 : a.re = b.re) (h2 : a.im = b.im) : a = b := by
  cases a; cases b; simp at h1 h2; simp [h1, h2]
theorem add_re (a b : Gn) : (a + b).re = a.re + b.re := rfl
theorem add_im (a b : Gn) : (a + b).im = a.im + b.im := rfl
theorem mul_re (a b : Gn) : (a * b).re = a.re * b.re - a.im * b.im := rfl
theorem mul_im (a b : Gn) : (a * b).im = a.re * b.im + a.im * b.re := rfl
theorem neg_re (a : Gn) : (-a).re = -a.re := rfl
theorem neg_im (a : Gn) : (-a).im = -a.im := rfl
theorem sub_re (a b : Gn) : (a - b).re = a.re - b.re := rfl
theorem sub_im (a b : Gn) : (a - b).im = a.im - b.im := rfl
theorem zero_re : (0 : Gn).re = 0 := rfl
theorem zero_im : (0 : Gn).im = 0 := rfl
theorem one_re : (1 : Gn).re = 1 := rfl
theorem one_im : (1 : Gn).im = 0 := rfl
instance : Lean.Grind.CommRing Gn where
  add_zero a := by apply ext' <;> simp only [add_re, add_im, zero_re, zero_im] <;> grind
  add_comm a b := by apply ext' <;> simp only [add_re, add_im] <;> grind
  add_assoc a b c := by apply ext' <;> simp only [add_re, add_im] <;> grind
  mul_assoc a b c := by apply ext' <;> simp only [mul_re, mul_im] <;> grind
  mul_comm a b := by apply ext' <;> simp only [mul_re, mul_im] <;> grind
  mul_one a := by apply ext' <;> simp only [mul_re, mul_im, one_re, one_im] <;> grind
  one_mul a := by apply ext' <;> simp only [mul_re, mul_im, one_re, one_im] <;> grind
  left_distrib a b c := by apply ext' <;> simp only [mul_re, mul_im, add_re, add_im] <;> grind
  right_distrib a b c := by apply ext' <;> simp only [mul_re, mul_im, add_re, add_im] <;> grind
  zero_mul a := by apply ext' <;> simp only [mul_re, mul_im, zero_re, zero_im] <;> grind
  mul_zero a := by apply ext' <;> simp only [mul_re, mul_im, zero_re, zero_im] <;> grind
  pow_zero a := rfl
  pow_succ a n := rfl
  ofNat_succ a := by
    apply ext'
    · show ((a + 1 : Nat) : Rat) = (a : Rat) + ((1 : Nat) : Rat)
      exact Rat.natCast_add a 1
    · show (0 : Rat) = 0 + 0
      grind
  ofNat_eq_natCast n := rfl
  nsmul_eq_natCast_mul n a := rfl
  neg_add_cancel a := by apply ext' <;> simp only [add_re, add_im, neg_re, neg_im, zero_re, zero_im] <;> grind
  sub_eq_add_neg a b := by apply ext' <;> simp only [add_re, add_im, neg_re, neg_im, sub_re, sub_im] <;> grind
  neg_zsmul i a := by
    show ((-i : Int) : Gn) * a = -(((i : Int) : Gn) * a)
    apply ext' <;> simp only [mul_re, mul_im, neg_re, neg_im]
    · show ((-i : Int) : Rat) * a.re - 0 * a.im = -(((i : Int) : Rat) * a.re - 0 * a.im)
      rw [Rat.intCast_neg]; grind
    · show ((-i : Int) : Rat) * a.im + 0 * a.re = -(((i : Int) : Rat) * a.im + 0 * a.re)
      rw [Rat.intCast_neg]; grind
  zsmul_natCast_eq_nsmul n a := rfl
  intCast_ofNat n := rfl
  intCast_neg i := by
    apply ext'
    · show ((-i : Int) : Rat) = -((i : Int) : Rat)
      exact Rat.intCast_neg i
    · show (0 : Rat) = -0
      grind
/-- mirror, size, the inverse -/
def conj (a : Gn) : Gn := ⟨a.re, -a.im⟩
def nsq (a : Gn) : Rat := a.re * a.re + a.im * a.im
def inv (a : Gn) : Gn := ⟨a.re / nsq a, -a.im / nsq a⟩
def ofR (q : Rat) : Gn := ⟨q, 0⟩
theorem conj_re (a : Gn) : (conj a).re = a.re := rfl
theorem conj_im (a : Gn) : (conj a).im = -a.im := rfl
theorem conj_mul (a b : Gn) : conj (a * b) = conj a * conj b := by
  apply ext' <;> simp only [conj, mul_re, mul_im] <;> grind
theorem conj_add (a b : Gn) : conj (a + b) = conj a + conj b := by
  apply ext' <;> simp only [conj, add_re, add_im] <;> grind
theorem conj_sub (a b : Gn) : conj (a - b) = conj a - conj b := by
  apply ext' <;> simp only [conj, sub_re, sub_im] <;> grind
theorem conj_neg (a : Gn) : conj (-a) = -conj a := by
  apply ext' <;> simp only [conj, neg_re, neg_im] <;> grind
theorem conj_conj (a : Gn) : conj (conj a) = a := by
  apply ext' <;> simp only [conj] <;> grind
theorem conj_zero : conj 0 = 0 := by apply ext' <;> simp only [conj, zero_re, zero_im] <;> grind
theorem conj_one : conj 1 = 1 := by apply ext' <;> simp only [conj, one_re, one_im] <;> grind
theorem sq_nonneg (a : Rat) : 0 ≤ a * a := by
  rcases Rat.le_total (a := 0) (b := a) with h | h
  · exact Rat.mul_nonneg h h
  · have h2 : 0 ≤ -a := by grind
    have := Rat.mul_nonneg h2 h2
    grind
theorem nsq_nonneg (a : Gn) : 0 ≤ nsq a := Rat.add_nonneg (sq_nonneg _) (sq_nonneg _)
theorem sq_zero {a : Rat} (h : a * a = 0) : a = 0 := by
  rcases Rat.mul_eq_zero.mp h with h | h <;> exact h
theorem nsq_zero {a : Gn} (h : nsq a = 0) : a = 0 := by
  unfold nsq at h
  have h1 := sq_nonneg a.re
  have h2 := sq_nonneg a.im
  have e1 : a.re * a.re = 0 := by grind
  have e2 : a.im * a.im = 0 := by grind
  exact ext' (sq_zero e1) (sq_zero e2)
theorem nsq_pos {a : Gn} (h : a ≠ 0) : 0 < nsq a := by
  have h1 := nsq_nonneg a
  have h2 : nsq a ≠ 0 := fun e => h (nsq_zero e)
  grind
theorem mul_inv {a : Gn} (h : a ≠ 0) : a * inv a = 1 := by
  have h1 := nsq_pos h
  have h2 : nsq a ≠ 0 := by grind
  apply ext' <;> simp only [mul_re, mul_im, inv, one_re, one_im]
  · have : a.re * (a.re / nsq a) - a.im * (-a.im / nsq a) = nsq a / nsq a := by unfold nsq; grind
    rw [this]; grind
  · grind
theorem mul_conj (a : Gn) : a * conj a = ofR (nsq a) := by
  apply ext' <;> simp only [mul_re, mul_im, conj, ofR, nsq] <;> grind
theorem conj_inv (a : Gn) : conj (inv a) = inv (conj a) := by
  have e : nsq (conj a) = nsq a := by simp only [nsq, conj]; grind
  apply ext'
  · show a.re / nsq a = a.re / nsq (conj a)
    rw [e]
  · show -(-a.im / nsq a) = - (-a.im) / nsq (conj a)
    rw [e]; grind
theorem mul_eq_zero {a b : Gn} (h : a * b = 0) : a = 0 ∨ b = 0 := by
  by_cases ha : a = 0
  · exact .inl ha
  · right
    have := mul_inv ha
    have e : b = inv a * (a * b) := by grind
    rw [e, h]; grind
theorem inv_ne {a : Gn} (h : a ≠ 0) : inv a ≠ 0 := fun e => by
  have := mul_inv h
  rw [e] at this
  have h2 : (0 : Gn) = 1 := by grind
  have h3 : (0 : Rat) = 1 := congrArg Gn.re h2
  exact absurd h3 (by decide)
theorem conj_ne {a : Gn} (h : a ≠ 0) : conj a ≠ 0 := fun e => h (by rw [← conj_conj a, e, conj_zero])
/-! ### by whole numbers over a whole number -/
def val (a b c : Int) : Gn := ⟨(a : Rat) / (c : Rat), (b : Rat) / (c : Rat)⟩
theorem cne {c : Int} (h : c ≠ 0) : (c : Rat) ≠ 0 := fun e => h (by exact_mod_cast e)
theorem val_mul {a b c a' b' c' : Int} (h : c ≠ 0) (h' : c' ≠ 0) : val a b c * val a' b' c' = val (a * a' - b * b') (a * b' + b * a') (c * c') := by
  have h1 := cne h; have h2 := cne h'
  apply ext' <;> simp only [val, mul_re, mul_im, Rat.intCast_mul, Rat.intCast_sub, Rat.intCast_add] <;> grind
theorem val_add {a b c a' b' c' : Int} (h : c ≠ 0) (h' : c' ≠ 0) : val a b c + val a' b' c' = val (a * c' + a' * c) (b * c' + b' * c) (c * c') := by
  have h1 := cne h; have h2 := cne h'
  apply ext' <;> simp only [val, add_re, add_im, Rat.intCast_mul, Rat.intCast_sub, Rat.intCast_add] <;> grind
theorem val_sub {a b c a' b' c' : Int} (h : c ≠ 0) (h' : c' ≠ 0) : val a b c - val a' b' c' = val (a * c' - a' * c) (b * c' - b' * c) (c * c') := by
  have h1 := cne h; have h2 := cne h'
  apply ext' <;> simp only [val, sub_re, sub_im, Rat.intCast_mul, Rat.intCast_sub, Rat.intCast_add] <;> grind
theorem val_conj {a b c : Int} : conj (val a b c) = val a (0 - b) c := by
  apply ext' <;> simp only [val, conj, Rat.intCast_sub] <;> grind
theorem val_neg {a b c : Int} : -(val a b c) = val (0 - a) (0 - b) c := by
  apply ext' <;> simp only [val, neg_re, neg_im, Rat.intCast_sub] <;> grind
theorem val_scale {a b c k : Int} (h : c ≠ 0) (hk : k ≠ 0) : val (a * k) (b * k) (c * k) = val a b c := by
  have h1 := cne h; have h2 := cne hk
  apply ext' <;> simp only [val, Rat.intCast_mul] <;> grind
theorem val_zero {a b c : Int} (h : c ≠ 0) : val a b c = 0 ↔ a = 0 ∧ b = 0 := by
  have h1 := cne h
  constructor
  · intro e
    have e1 : (a : Rat) / (c : Rat) = 0 := congrArg Gn.re e
    have e2 : (b : Rat) / (c : Rat) = 0 := congrArg Gn.im e
    have f1 : (a : Rat) = 0 := by grind
    have f2 : (b : Rat) = 0 := by grind
    exact ⟨by exact_mod_cast f1, by exact_mod_cast f2⟩
  · rintro ⟨rfl, rfl⟩
    apply ext'
    · show ((0 : Int) : Rat) / c = 0
      grind
    · show ((0 : Int) : Rat) / c = 0
      grind
theorem val_eq {a b c a' b' c' : Int} (h : c ≠ 0) (h' : c' ≠ 0) : val a b c = val a' b' c' ↔ a * c' = a' * c ∧ b * c' = b' * c := by
  have h1 := cne h; have h2 := cne h'
  constructor
  · intro e
    have e1 : (a : Rat) / (c : Rat) = (a' : Rat) / (c' : Rat) := congrArg Gn.re e
    have e2 : (b : Rat) / (c : Rat) = (b' : Rat) / (c' : Rat) := congrArg Gn.im e
    have f1 : (a : Rat) * c' = a' * c := by grind
    have f2 : (b : Rat) * c' = b' * c := by grind
    exact ⟨by exact_mod_cast f1, by exact_mod_cast f2⟩
  · rintro ⟨e1, e2⟩
    have f1 : (a : Rat) * c' = a' * c := by exact_mod_cast e1
    have f2 : (b : Rat) * c' = b' * c := by exact_mod_cast e2
    apply ext'
    · show (a : Rat) / (c : Rat) = (a' : Rat) / (c' : Rat)
      grind
    · show (b : Rat) / (c : Rat) = (b' : Rat) / (c' : Rat)
      grind
/-- the quotient -/
theorem val_div {a b c a' b' c' : Int} (h : c ≠ 0) (h' : c' ≠ 0) (hz : a' * a' + b' * b' ≠ 0) : val a b c * inv (val a' b' c') = val ((a * a' + b * b') * c') ((b * a' - a * b') * c') (c * (a' * a' + b' * b')) := by
  have hw : val a' b' c' ≠ 0 := fun e => hz (by obtain ⟨e1, e2⟩ := (val_zero h').mp e; rw [e1, e2]; rfl)
  have e : val ((a * a' + b * b') * c') ((b * a' - a * b') * c') (c * (a' * a' + b' * b')) * val a' b' c' = val a b c := by
    have hc : c * (a' * a' + b' * b') ≠ 0 := Int.mul_ne_zero h hz
    rw [val_mul hc h']
    refine (val_eq (Int.mul_ne_zero hc h') h).mpr ⟨?_, ?_⟩ <;> grind
  have := mul_inv hw
  rw [← e]; grind
/-! ### the lowest form -/
def Can (a b c : Int) : Prop := 0 < c ∧ Nat.gcd (Nat.gcd a.natAbs c.natAbs) b.natAbs = 1
theorem can_uniq {a b c a' b' c' : Int} (h : Can a b c) (h' : Can a' b' c') (e : val a b c = val a' b' c') : a = a' ∧ b = b' ∧ c = c' := by
  obtain ⟨c0, g⟩ := h
  obtain ⟨c0', g'⟩ := h'
  obtain ⟨e1, e2⟩ := (val_eq (by omega) (by omega)).mp e
  -- c ∣ c' and c' ∣ c
  have key : ∀ {a b c a' b' c' : Int}, 0 < c → 0 < c' → Nat.gcd (Nat.gcd a.natAbs c.natAbs) b.natAbs = 1 → a * c' = a' * c → b * c' = b' * c → c.natAbs ∣ c'.natAbs := by
    intro a b c a' b' c' p p' g e1 e2
    have d1 : c.natAbs ∣ a.natAbs * c'.natAbs := by rw [← Int.natAbs_mul, e1, Int.natAbs_mul]; exact Nat.dvd_mul_left _ _
    have d2 : c.natAbs ∣ b.natAbs * c'.natAbs := by rw [← Int.natAbs_mul, e2, Int.natAbs_mul]; exact Nat.dvd_mul_left _ _
    have d3 : c.natAbs ∣ c.natAbs * c'.natAbs := Nat.dvd_mul_right _ _
    have d4 : c.natAbs ∣ Nat.gcd (Nat.gcd (a.natAbs * c'.natAbs) (c.natAbs * c'.natAbs)) (b.natAbs * c'.natAbs) := Nat.dvd_gcd (Nat.dvd_gcd d1 d3) d2
    rw [Nat.gcd_mul_right, Nat.gcd_mul_right, g, Nat.one_mul] at d4
    exact d4
  have k1 := key c0 c0' g e1 e2
  have k2 := key c0' c0 g' e1.symm e2.symm
  have ec : c = c' := by have := Nat.dvd_antisymm k1 k2; omega
  subst ec
  exact ⟨Int.eq_of_mul_eq_mul_right (by omega) e1, Int.eq_of_mul_eq_mul_right (by omega) e2, rfl⟩
def gc3 (a b c : Int) : Nat := Nat.gcd (Nat.gcd a.natAbs c.natAbs) b.natAbs
theorem gc3_pos {a b c : Int} (h : c ≠ 0) : 0 < gc3 a b c := Nat.gcd_pos_of_pos_left _ (Nat.gcd_pos_of_pos_right _ (by omega))
theorem gc3_dvd (a b c : Int) : (gc3 a b c : Int) ∣ a ∧ (gc3 a b c : Int) ∣ b ∧ (gc3 a b c : Int) ∣ c := by
  have h1 : gc3 a b c ∣ Nat.gcd a.natAbs c.natAbs := Nat.gcd_dvd_left _ _
  have h2 : gc3 a b c ∣ b.natAbs := Nat.gcd_dvd_right _ _
  exact ⟨Int.ofNat_dvd_left.mpr (Nat.dvd_trans h1 (Nat.gcd_dvd_left _ _)), Int.ofNat_dvd_left.mpr h2, Int.ofNat_dvd_left.mpr (Nat.dvd_trans h1 (Nat.gcd_dvd_right _ _))⟩
theorem red {a b c : Int} (h : 0 < c) : Can (a / gc3 a b c) (b / gc3 a b c) (c / gc3 a b c) ∧ val (a / gc3 a b c) (b / gc3 a b c) (c / gc3 a b c) = val a b c := by
  have p := gc3_pos (a := a) (b := b) (c := c) (by omega)
  obtain ⟨d1, d2, d3⟩ := gc3_dvd a b c
  generalize hg : gc3 a b c = g at *
  obtain ⟨x, rfl⟩ := d1
  obtain ⟨y, rfl⟩ := d2
  obtain ⟨z, rfl⟩ := d3
  have pg : (0 : Int) < (g : Int) := by omega
  rw [Int.mul_ediv_cancel_left _ (by omega), Int.mul_ediv_cancel_left _ (by omega), Int.mul_ediv_cancel_left _ (by omega)]
  have hz : 0 < z := by
    rcases Int.lt_or_le 0 z with q | q
    · exact q
    · have := Int.mul_nonpos_of_nonneg_of_nonpos (Int.le_of_lt pg) q; omega
  refine ⟨⟨hz, ?_⟩, ?_⟩
  · unfold gc3 at hg
    rw [Int.natAbs_mul, Int.natAbs_mul, Int.natAbs_mul, Int.natAbs_natCast, Nat.gcd_mul_left, Nat.gcd_mul_left] at hg
    exact Nat.eq_of_mul_eq_mul_left p (by rw [hg, Nat.mul_one])
  · rw [← val_scale (a := x) (b := y) (c := z) (k := g) (by omega) (by omega), Int.mul_comm x, Int.mul_comm y, Int.mul_comm z]
/-- a numerator, a numerator, a bottom of z -/
def ga (z : Gn) : Int := z.re.num * z.im.den
def gb (z : Gn) : Int := z.im.num * z.re.den
def gc (z : Gn) : Int := z.re.den * z.im.den
theorem gc_pos (z : Gn) : 0 < gc z := Int.mul_pos (by have := z.re.den_pos; omega) (by have := z.im.den_pos; omega)
theorem rat_eq (q : Rat) : q = (q.num : Rat) / ((q.den : Int) : Rat) := by
  have h := Rat.num_divInt_den q
  rw [Rat.divInt_eq_div] at h
  exact h.symm
theorem val_self (z : Gn) : val (ga z) (gb z) (gc z) = z := by
  have h1 : ((z.re.den : Int) : Rat) ≠ 0 := cne (by have := z.re.den_pos; omega)
  have h2 : ((z.im.den : Int) : Rat) ≠ 0 := cne (by have := z.im.den_pos; omega)
  have e1 := rat_eq z.re
  have e2 := rat_eq z.im
  apply ext'
  · show ((z.re.num * z.im.den : Int) : Rat) / ((z.re.den * z.im.den : Int) : Rat) = z.re
    rw [Rat.intCast_mul, Rat.intCast_mul]
    grind
  · show ((z.im.num * z.re.den : Int) : Rat) / ((z.re.den * z.im.den : Int) : Rat) = z.im
    rw [Rat.intCast_mul, Rat.intCast_mul]
    grind
def gp (z : Gn) : Int := ga z / gc3 (ga z) (gb z) (gc z)
def gs (z : Gn) : Int := gb z / gc3 (ga z) (gb z) (gc z)
def gl (z : Gn) : Int := gc z / gc3 (ga z) (gb z) (gc z)
theorem can_g (z : Gn) : Can (gp z) (gs z) (gl z) := (red (gc_pos z)).1
theorem val_g (z : Gn) : val (gp z) (gs z) (gl z) = z := (red (gc_pos z)).2.trans (val_self z)
theorem gl_pos (z : Gn) : 0 < gl z := (can_g z).1
theorem gl_ne (z : Gn) : gl z ≠ 0 := by have := gl_pos z; omega
theorem g_of {a b c : Int} {z : Gn} (h : Can a b c) (e : val a b c = z) : a = gp z ∧ b = gs z ∧ c = gl z := can_uniq h (can_g z) (e.trans (val_g z).symm)
/-- lowered by the common part -/
theorem g_red {a b c : Int} {z : Gn} (h : 0 < c) (e : val a b c = z) : a / gc3 a b c = gp z ∧ b / gc3 a b c = gs z ∧ c / gc3 a b c = gl z := g_of (red h).1 ((red h).2.trans e)
theorem g_zero {z : Gn} : z = 0 ↔ gp z = 0 ∧ gs z = 0 := by
  rw [← val_zero (gl_ne z), val_g]
theorem gp_zero : gp 0 = 0 := (g_zero.mp rfl).1
theorem gs_zero : gs 0 = 0 := (g_zero.mp rfl).2
theorem gl_zero : gl 0 = 1 := by
  have h := can_g 0
  rw [gp_zero, gs_zero] at h
  obtain ⟨h1, h2⟩ := h
  simp at h2
  omega
theorem g_int (n : Int) : gp (ofR n) = n ∧ gs (ofR n) = 0 ∧ gl (ofR n) = 1 := by
  have h : Can n 0 1 := ⟨by decide, by simp⟩
  have e : val n 0 1 = ofR n := by
    apply ext'
    · show (n : Rat) / ((1 : Int) : Rat) = n
      have : ((1 : Int) : Rat) = 1 := rfl
      rw [this]; grind
    · show ((0 : Int) : Rat) / ((1 : Int) : Rat) = 0
      have : ((0 : Int) : Rat) = 0 := rfl
      rw [this]; grind
  obtain ⟨a, b, c⟩ := g_of h e
  exact ⟨a.symm, b.symm, c.symm⟩
theorem g_rat (q : Rat) : gp (ofR q) = q.num ∧ gs (ofR q) = 0 ∧ gl (ofR q) = q.den := by
  have h : Can q.num 0 q.den := ⟨by have := q.den_pos; omega, by
    have := q.reduced
    unfold Nat.Coprime at this
    simp [this]⟩
  have e : val q.num 0 q.den = ofR q := by
    apply ext'
    · exact (rat_eq q).symm
    · show ((0 : Int) : Rat) / ((q.den : Int) : Rat) = 0
      have : ((0 : Int) : Rat) = 0 := rfl
      rw [this]; grind
  obtain ⟨a, b, c⟩ := g_of h e
  exact ⟨a.symm, b.symm, c.symm⟩
theorem re_g (z : Gn) : z.re = (gp z : Rat) / (gl z : Rat) := by
  have := congrArg Gn.re (val_g z)
  exact this.symm
theorem im_g (z : Gn) : z.im = (gs z : Rat) / (gl z : Rat) := by
  have := congrArg Gn.im (val_g z)
  exact this.symm
/-! ### signs -/
theorem rat_div_nonneg {a c : Int} (h : 0 < c) : 0 ≤ (a : Rat) / (c : Rat) ↔ 0 ≤ a := by
  have hc : (0 : Rat) < (c : Rat) := by exact_mod_cast h
  constructor
  · intro e
    have : 0 ≤ (a : Rat) / (c : Rat) * c := Rat.mul_nonneg e (by grind)
    have e2 : (a : Rat) / (c : Rat) * c = a := by grind
    rw [e2] at this
    exact_mod_cast this
  · intro e
    have h1 : (0 : Rat) ≤ (a : Rat) := by exact_mod_cast e
    rcases Rat.le_total (a := 0) (b := (a : Rat) / (c : Rat)) with h2 | h2
    · exact h2
    · have : (0 : Rat) ≤ -((a : Rat) / (c : Rat)) * c := Rat.mul_nonneg (by grind) (by grind)
      have e2 : -((a : Rat) / (c : Rat)) * c = -a := by grind
      rw [e2] at this
      have e3 : (a : Rat) = 0 := by grind
      rw [e3]; grind
theorem re_nonneg (z : Gn) : 0 ≤ z.re ↔ 0 ≤ gp z := by rw [re_g]; exact rat_div_nonneg (gl_pos z)
theorem gp_neg (z : Gn) : gp (-z) = -gp z := by
  have h := can_g z
  have h2 : Can (-gp z) (-gs z) (gl z) := ⟨h.1, by rw [Int.natAbs_neg, Int.natAbs_neg]; exact h.2⟩
  have e : val (-gp z) (-gs z) (gl z) = -z := by
    have := val_neg (a := gp z) (b := gs z) (c := gl z)
    rw [val_g] at this
    rw [this, Int.zero_sub, Int.zero_sub]
  exact (g_of h2 e).1.symm
theorem re_pos (z : Gn) : 0 < z.re ↔ 0 < gp z := by
  have h := re_nonneg (-z)
  rw [neg_re, gp_neg] at h
  constructor
  · intro p
    have : ¬ (0 ≤ -gp z) := fun q => by have := h.mpr q; grind
    omega
  · intro p
    have : ¬ (0 ≤ -z.re) := fun q => by have := h.mp q; omega
    grind
theorem re_zero (z : Gn) : z.re = 0 ↔ gp z = 0 := by
  have h1 := re_nonneg z
  have h2 := re_pos z
  constructor
  · intro e
    have a : 0 ≤ gp z := h1.mp (by grind)
    have b : ¬ 0 < gp z := fun q => by have := h2.mpr q; grind
    omega
  · intro e
    have a : 0 ≤ z.re := h1.mpr (by omega)
    have b : ¬ 0 < z.re := fun q => by have := h2.mp q; omega
    grind
theorem num_pos (q : Rat) : 0 < q.num ↔ 0 < q := by
  have h := re_pos (ofR q)
  rw [(g_rat q).1] at h
  exact h.symm
theorem num_neg (q : Rat) : q.num < 0 ↔ q < 0 := by
  have h := re_nonneg (ofR q)
  rw [(g_rat q).1] at h
  have h' : 0 ≤ q ↔ 0 ≤ q.num := h
  constructor
  · intro e
    have : ¬ 0 ≤ q := fun z => by have := h'.mp z; omega
    grind
  · intro e
    have : ¬ 0 ≤ q.num := fun z => by have := h'.mpr z; grind
    omega
end Gn
end N640

set_option maxHeartbeats 4000000
set_option linter.all false
/-! Sizes of numbers. -/
namespace N640
open Gn
def Sz (n : Nat) (z : Gn) : Prop := (gp z).natAbs < 2 ^ n ∧ (gs z).natAbs < 2 ^ n ∧ (gl z).natAbs < 2 ^ n
theorem Sz.mono {m n : Nat} {z : Gn} (h : Sz m z) (e : m ≤ n) : Sz n z := by
  have := Nat.pow_le_pow_right (n := 2) (by decide) e
  exact ⟨Nat.lt_of_lt_of_le h.1 this, Nat.lt_of_lt_of_le h.2.1 this, Nat.lt_of_lt_of_le h.2.2 this⟩
theorem natAbs_ediv_le (a : Int) (g : Nat) : (a / (g : Int)).natAbs ≤ a.natAbs ∨ g = 0 ∨ ¬ (g : Int) ∣ a := by
  by_cases h0 : g = 0
  · exact .inr (.inl h0)
  by_cases hd : (g : Int) ∣ a
  · left
    obtain ⟨x, rfl⟩ := hd
    rw [Int.mul_ediv_cancel_left _ (by omega), Int.natAbs_mul, Int.natAbs_natCast]
    exact Nat.le_mul_of_pos_left _ (by omega)
  · exact .inr (.inr hd)
theorem red_le {a b c : Int} (h : 0 < c) : (a / (gc3 a b c : Int)).natAbs ≤ a.natAbs ∧ (b / (gc3 a b c : Int)).natAbs ≤ b.natAbs ∧ (c / (gc3 a b c : Int)).natAbs ≤ c.natAbs := by
  have p := gc3_pos (a := a) (b := b) (c := c) (by omega)
  obtain ⟨d1, d2, d3⟩ := gc3_dvd a b c
  refine ⟨?_, ?_, ?_⟩
  · rcases natAbs_ediv_le a (gc3 a b c) with q | q | q <;> first | exact q | omega | exact absurd d1 q
  · rcases natAbs_ediv_le b (gc3 a b c) with q | q | q <;> first | exact q | omega | exact absurd d2 q
  · rcases natAbs_ediv_le c (gc3 a b c) with q | q | q <;> first | exact q | omega | exact absurd d3 q
theorem Sz.of {a b c : Int} {z : Gn} {n : Nat} (h : 0 < c) (e : val a b c = z) (ha : a.natAbs < 2 ^ n) (hb : b.natAbs < 2 ^ n) (hc : c.natAbs < 2 ^ n) : Sz n z := by
  obtain ⟨e1, e2, e3⟩ := g_red h e
  obtain ⟨l1, l2, l3⟩ := red_le (a := a) (b := b) h
  rw [e1] at l1
  rw [e2] at l2
  rw [e3] at l3
  exact ⟨by omega, by omega, by omega⟩
/-! bounds of products and sums -/
theorem bm {i j : Int} {a b c : Nat} (ha : i.natAbs < 2 ^ a) (hb : j.natAbs < 2 ^ b) (h : a + b ≤ c) : (i * j).natAbs < 2 ^ c := by
  have h1 : (i * j).natAbs < 2 ^ (a + b) := by
    rw [Int.natAbs_mul, Nat.pow_add]
    exact Nat.mul_lt_mul'' ha hb
  exact Nat.lt_of_lt_of_le h1 (Nat.pow_le_pow_right (by decide) h)
theorem ba {i j : Int} {a b c : Nat} (ha : i.natAbs < 2 ^ a) (hb : j.natAbs < 2 ^ b) (h1 : a + 1 ≤ c) (h2 : b + 1 ≤ c) : (i + j).natAbs < 2 ^ c := by
  have e1 : 2 ^ (a + 1) ≤ 2 ^ c := Nat.pow_le_pow_right (by decide) h1
  have e2 : 2 ^ (b + 1) ≤ 2 ^ c := Nat.pow_le_pow_right (by decide) h2
  rw [Nat.pow_succ] at e1 e2
  omega
theorem bs {i j : Int} {a b c : Nat} (ha : i.natAbs < 2 ^ a) (hb : j.natAbs < 2 ^ b) (h1 : a + 1 ≤ c) (h2 : b + 1 ≤ c) : (i - j).natAbs < 2 ^ c := by
  have e1 : 2 ^ (a + 1) ≤ 2 ^ c := Nat.pow_le_pow_right (by decide) h1
  have e2 : 2 ^ (b + 1) ≤ 2 ^ c := Nat.pow_le_pow_right (by decide) h2
  rw [Nat.pow_succ] at e1 e2
  omega
theorem bn {i : Int} {a c : Nat} (ha : i.natAbs < 2 ^ a) (h : a ≤ c) : i.natAbs < 2 ^ c := Nat.lt_of_lt_of_le ha (Nat.pow_le_pow_right (by decide) h)
theorem b0 {i : Int} {c : Nat} (ha : i.natAbs < 2 ^ c) : (0 - i).natAbs < 2 ^ c := by omega
theorem Sz.mul {m n k : Nat} {z w : Gn} (h : Sz m z) (h' : Sz n w) (e : m + n + 1 ≤ k) : Sz k (z * w) := by
  have v := val_mul (a := gp z) (b := gs z) (a' := gp w) (b' := gs w) (gl_ne z) (gl_ne w)
  rw [val_g, val_g] at v
  refine Sz.of (Int.mul_pos (gl_pos z) (gl_pos w)) v.symm ?_ ?_ (bm h.2.2 h'.2.2 (by omega))
  · exact bs (bm h.1 h'.1 (Nat.le_refl _)) (bm h.2.1 h'.2.1 (Nat.le_refl _)) e e
  · exact ba (bm h.1 h'.2.1 (Nat.le_refl _)) (bm h.2.1 h'.1 (Nat.le_refl _)) e e
theorem Sz.add {m n k : Nat} {z w : Gn} (h : Sz m z) (h' : Sz n w) (e : m + n + 1 ≤ k) : Sz k (z + w) := by
  have v := val_add (a := gp z) (b := gs z) (a' := gp w) (b' := gs w) (gl_ne z) (gl_ne w)
  rw [val_g, val_g] at v
  refine Sz.of (Int.mul_pos (gl_pos z) (gl_pos w)) v.symm ?_ ?_ (bm h.2.2 h'.2.2 (by omega))
  · exact ba (bm h.1 h'.2.2 (Nat.le_refl _)) (bm h'.1 h.2.2 (Nat.le_refl _)) e (by omega)
  · exact ba (bm h.2.1 h'.2.2 (Nat.le_refl _)) (bm h'.2.1 h.2.2 (Nat.le_refl _)) e (by omega)
theorem Sz.sub {m n k : Nat} {z w : Gn} (h : Sz m z) (h' : Sz n w) (e : m + n + 1 ≤ k) : Sz k (z - w) := by
  have v := val_sub (a := gp z) (b := gs z) (a' := gp w) (b' := gs w) (gl_ne z) (gl_ne w)
  rw [val_g, val_g] at v
  refine Sz.of (Int.mul_pos (gl_pos z) (gl_pos w)) v.symm ?_ ?_ (bm h.2.2 h'.2.2 (by omega))
  · exact bs (bm h.1 h'.2.2 (Nat.le_refl _)) (bm h'.1 h.2.2 (Nat.le_refl _)) e (by omega)
  · exact bs (bm h.2.1 h'.2.2 (Nat.le_refl _)) (bm h'.2.1 h.2.2 (Nat.le_refl _)) e (by omega)
theorem g_conj (z : Gn) : gp (conj z) = gp z ∧ gs (conj z) = -gs z ∧ gl (conj z) = gl z := by
  have h := can_g z
  have h2 : Can (gp z) (-gs z) (gl z) := ⟨h.1, by rw [Int.natAbs_neg]; exact h.2⟩
  have e : val (gp z) (-gs z) (gl z) = conj z := by
    have v := val_conj (a := gp z) (b := gs z) (c := gl z)
    rw [val_g, Int.zero_sub] at v
    exact v.symm
  obtain ⟨a, b, c⟩ := g_of h2 e
  exact ⟨a.symm, b.symm, c.symm⟩
theorem g_neg (z : Gn) : gp (-z) = -gp z ∧ gs (-z) = -gs z ∧ gl (-z) = gl z := by
  have h := can_g z
  have h2 : Can (-gp z) (-gs z) (gl z) := ⟨h.1, by rw [Int.natAbs_neg, Int.natAbs_neg]; exact h.2⟩
  have e : val (-gp z) (-gs z) (gl z) = -z := by
    have v := val_neg (a := gp z) (b := gs z) (c := gl z)
    rw [val_g, Int.zero_sub, Int.zero_sub] at v
    exact v.symm
  obtain ⟨a, b, c⟩ := g_of h2 e
  exact ⟨a.symm, b.symm, c.symm⟩
theorem Sz.conj {n : Nat} {z : Gn} (h : Sz n z) : Sz n (Gn.conj z) := by
  obtain ⟨a, b, c⟩ := g_conj z
  unfold Sz
  rw [a, b, c, Int.natAbs_neg]; exact h
theorem Sz.neg {n : Nat} {z : Gn} (h : Sz n z) : Sz n (-z) := by
  obtain ⟨a, b, c⟩ := g_neg z
  unfold Sz
  rw [a, b, c, Int.natAbs_neg, Int.natAbs_neg]; exact h
theorem isq (a : Int) : 0 ≤ a * a := by
  rcases Int.le_total 0 a with h | h
  · exact Int.mul_nonneg h h
  · have := Int.mul_nonneg (a := -a) (b := -a) (by omega) (by omega)
    rw [Int.neg_mul_neg] at this
    exact this
theorem sq_ne {z : Gn} (h : z ≠ 0) : gp z * gp z + gs z * gs z ≠ 0 := fun e => h (by
  have h1 : 0 ≤ gp z * gp z := isq _
  have h2 : 0 ≤ gs z * gs z := isq _
  have e1 : gp z * gp z = 0 := by omega
  have e2 : gs z * gs z = 0 := by omega
  refine g_zero.mpr ⟨?_, ?_⟩
  · rcases Int.mul_eq_zero.mp e1 with q | q <;> exact q
  · rcases Int.mul_eq_zero.mp e2 with q | q <;> exact q)
theorem sq_pos {z : Gn} (h : z ≠ 0) : 0 < gp z * gp z + gs z * gs z := by
  have h1 : 0 ≤ gp z * gp z := isq _
  have h2 : 0 ≤ gs z * gs z := isq _
  have := sq_ne h
  omega
theorem Sz.div {m n k : Nat} {z w : Gn} (h : Sz m z) (h' : Sz n w) (hw : w ≠ 0) (e : m + 2 * n + 1 ≤ k) : Sz k (z * inv w) := by
  have v := val_div (a := gp z) (b := gs z) (a' := gp w) (b' := gs w) (gl_ne z) (gl_ne w) (sq_ne hw)
  rw [val_g, val_g] at v
  refine Sz.of (Int.mul_pos (gl_pos z) (sq_pos hw)) v.symm ?_ ?_ ?_
  · exact bm (ba (bm h.1 h'.1 (Nat.le_refl _)) (bm h.2.1 h'.2.1 (Nat.le_refl _)) (Nat.le_refl _) (Nat.le_refl _)) h'.2.2 (by omega)
  · exact bm (bs (bm h.2.1 h'.1 (Nat.le_refl _)) (bm h.1 h'.2.1 (Nat.le_refl _)) (Nat.le_refl _) (Nat.le_refl _)) h'.2.2 (by omega)
  · exact bm h.2.2 (ba (bm h'.1 h'.1 (Nat.le_refl _)) (bm h'.2.1 h'.2.1 (Nat.le_refl _)) (Nat.le_refl _) (Nat.le_refl _)) (by omega)
theorem sz0 : Sz 1 0 := by
  unfold Sz
  rw [gp_zero, gs_zero, gl_zero]; decide
theorem sz_int {n : Int} {k : Nat} (h : n.natAbs < 2 ^ k) (hk : 1 ≤ k) : Sz k (ofR n) := by
  obtain ⟨a, b, c⟩ := g_int n
  unfold Sz
  rw [a, b, c]
  have : 2 ^ 1 ≤ 2 ^ k := Nat.pow_le_pow_right (by decide) hk
  refine ⟨h, ?_, ?_⟩
  · show 0 < 2 ^ k
    omega
  · show 1 < 2 ^ k
    omega
theorem one_ofR : (1 : Gn) = ofR (1 : Int) := rfl
theorem sz1 : Sz 1 1 := by
  rw [one_ofR]; exact sz_int (by decide) (Nat.le_refl _)
/-- what the sums and products of the program ask -/
abbrev Ok (z : Gn) : Prop := Sz 4400 z
abbrev Ok2 (z : Gn) : Prop := Sz 2900 z
end N640

set_option maxHeartbeats 4000000
set_option linter.all false
/-! Forms, Schur's step, determinants up to four rows. -/
namespace N640
open Gn
abbrev Mx := Nat → Nat → Gn
def sm : List Nat → (Nat → Gn) → Gn
  | [], _ => 0
  | i :: l, f => f i + sm l f
theorem sm_congr : ∀ {l : List Nat} {f g : Nat → Gn}, (∀ i, i ∈ l → f i = g i) → sm l f = sm l g
  | [], _, _, _ => rfl
  | i :: l, f, g, h => by
    show f i + sm l f = g i + sm l g
    rw [h i List.mem_cons_self, sm_congr fun j hj => h j (List.mem_cons_of_mem _ hj)]
theorem sm_add (l : List Nat) (f g : Nat → Gn) : sm l (fun i => f i + g i) = sm l f + sm l g := by
  induction l with
  | nil => show (0 : Gn) = 0 + 0; grind
  | cons i l ih => simp only [sm, ih]; grind
theorem sm_sub (l : List Nat) (f g : Nat → Gn) : sm l (fun i => f i - g i) = sm l f - sm l g := by
  induction l with
  | nil => show (0 : Gn) = 0 - 0; grind
  | cons i l ih => simp only [sm, ih]; grind
theorem sm_mulL (l : List Nat) (c : Gn) (f : Nat → Gn) : sm l (fun i => c * f i) = c * sm l f := by
  induction l with
  | nil => show (0 : Gn) = c * 0; grind
  | cons i l ih => simp only [sm, ih]; grind
theorem sm_mulR (l : List Nat) (c : Gn) (f : Nat → Gn) : sm l (fun i => f i * c) = sm l f * c := by
  induction l with
  | nil => show (0 : Gn) = 0 * c; grind
  | cons i l ih => simp only [sm, ih]; grind
theorem sm_zero {l : List Nat} {f : Nat → Gn} (h : ∀ i, i ∈ l → f i = 0) : sm l f = 0 := by
  induction l with
  | nil => rfl
  | cons i l ih =>
    show f i + sm l f = 0
    rw [h i List.mem_cons_self, ih fun j hj => h j (List.mem_cons_of_mem _ hj)]; grind
theorem sm_conj (l : List Nat) (f : Nat → Gn) : conj (sm l f) = sm l fun i => conj (f i) := by
  induction l with
  | nil => exact conj_zero
  | cons i l ih => simp only [sm, conj_add, ih]
theorem sm_append (l l' : List Nat) (f : Nat → Gn) : sm (l ++ l') f = sm l f + sm l' f := by
  induction l with
  | nil => show sm l' f = 0 + sm l' f; grind
  | cons i l ih => show f i + sm (l ++ l') f = f i + sm l f + sm l' f; rw [ih]; grind
theorem sm_comm (l l' : List Nat) (f : Nat → Nat → Gn) : sm l (fun i => sm l' fun j => f i j) = sm l' fun j => sm l fun i => f i j := by
  induction l with
  | nil => exact (sm_zero fun _ _ => rfl).symm
  | cons i l ih => show sm l' (fun j => f i j) + sm l (fun i => sm l' fun j => f i j) = _; rw [ih, ← sm_add]; rfl
theorem sm_filter {l : List Nat} {f : Nat → Gn} (c : Nat → Bool) (h : ∀ i, i ∈ l → c i = false → f i = 0) : sm l f = sm (l.filter c) f := by
  induction l with
  | nil => rfl
  | cons i l ih =>
    have ih' := ih fun j hj => h j (List.mem_cons_of_mem _ hj)
    rw [List.filter_cons]
    cases e : c i with
    | true => show f i + sm l f = f i + sm (l.filter c) f; rw [ih']
    | false =>
      show f i + sm l f = sm (l.filter c) f
      rw [h i List.mem_cons_self e, ih']; grind
theorem sm_pick {l : List Nat} {f : Nat → Gn} {p : Nat} (nd : l.Nodup) (hp : p ∈ l) : sm l f = f p + sm (l.filter (fun i => decide (i ≠ p))) f := by
  induction l with
  | nil => cases hp
  | cons i l ih =>
    rw [List.nodup_cons] at nd
    rw [List.filter_cons]
    by_cases e : i = p
    · subst e
      have : l.filter (fun j => decide (j ≠ i)) = l := List.filter_eq_self.mpr fun j hj => by simp; rintro rfl; exact nd.1 hj
      simp only [ne_eq, not_true_eq_false, decide_false, Bool.false_eq_true, if_false]
      rw [show l.filter (fun j => decide (¬ j = i)) = l from this]
      rfl
    · have hp' : p ∈ l := by rcases List.mem_cons.mp hp with q | q; exact absurd q.symm e; exact q
      have hd : decide (i ≠ p) = true := decide_eq_true e
      rw [if_pos hd]
      show f i + sm l f = f p + (f i + sm (l.filter _) f)
      rw [ih nd.2 hp']; grind
theorem sm_one {l : List Nat} {f : Nat → Gn} {p : Nat} (nd : l.Nodup) (hp : p ∈ l) (h : ∀ i, i ∈ l → i ≠ p → f i = 0) : sm l f = f p := by
  rw [sm_pick nd hp, sm_zero fun i hi => ?_]
  · grind
  · obtain ⟨h1, h2⟩ := List.mem_filter.mp hi
    exact h i h1 (by simpa using h2)
/-! ### forms -/
def pf (m : Mx) (J : List Nat) (u w : Nat → Gn) : Gn := sm J fun i => sm J fun j => u i * m i j * conj (w j)
abbrev fm (m : Mx) (J : List Nat) (w : Nat → Gn) : Gn := pf m J w w
def PSD (m : Mx) (J : List Nat) : Prop := ∀ w, 0 ≤ (fm m J w).re
def Her (m : Mx) (J : List Nat) : Prop := ∀ i, i ∈ J → ∀ j, j ∈ J → m j i = conj (m i j)
def sch (m : Mx) (p : Nat) : Mx := fun i j => m i j - m i p * inv (m p p) * m p j
def sc2 (m : Mx) (p q : Nat) : Mx := fun i j => m i j - m i p * inv (m q p) * m q j - m i q * inv (m p q) * m p j
theorem Her.im {m : Mx} {J : List Nat} (h : Her m J) {i : Nat} (hi : i ∈ J) : (m i i).im = 0 := by
  have := congrArg Gn.im (h i hi i hi)
  rw [conj_im] at this
  grind
theorem Her.zero {m : Mx} {J : List Nat} (h : Her m J) {i : Nat} (hi : i ∈ J) (e : (m i i).re = 0) : m i i = 0 := ext' e (h.im hi)
theorem Her.ne {m : Mx} {J : List Nat} {i : Nat} (e : (m i i).re ≠ 0) : m i i ≠ 0 := fun z => e (by rw [z]; rfl)
theorem conj_real {z : Gn} (h : z.im = 0) : conj z = z := ext' rfl (by rw [conj_im, h]; grind)
theorem Her.sch {m : Mx} {J : List Nat} (h : Her m J) {p : Nat} (hp : p ∈ J) : Her (sch m p) J := fun i hi j hj => by
  have e0 : conj (inv (m p p)) = inv (m p p) := by rw [conj_inv, conj_real (h.im hp)]
  unfold N640.sch
  rw [conj_sub, conj_mul, conj_mul, e0, ← h i hi j hj, ← h i hi p hp, ← h p hp j hj]; grind
theorem Her.sc2 {m : Mx} {J : List Nat} (h : Her m J) {p q : Nat} (hp : p ∈ J) (hq : q ∈ J) : Her (sc2 m p q) J := fun i hi j hj => by
  unfold N640.sc2
  rw [conj_sub, conj_sub, conj_mul, conj_mul, conj_mul, conj_mul, conj_inv, conj_inv, ← h i hi j hj, ← h i hi p hp, ← h i hi q hq, ← h p hp j hj, ← h q hq j hj, ← h q hq p hp, ← h p hp q hq]; grind
theorem Her.sub {m : Mx} {J J' : List Nat} (h : Her m J) (s : ∀ i, i ∈ J' → i ∈ J) : Her m J' := fun i hi j hj => h i (s i hi) j (s j hj)
theorem pf_congr {m m' : Mx} {J : List Nat} {u w u' w' : Nat → Gn} (h : ∀ i, i ∈ J → ∀ j, j ∈ J → m i j = m' i j) (hu : ∀ i, i ∈ J → u i = u' i) (hw : ∀ i, i ∈ J → w i = w' i) : pf m J u w = pf m' J u' w' :=
  sm_congr fun i hi => sm_congr fun j hj => by rw [h i hi j hj, hu i hi, hw j hj]
theorem PSD.congr {m m' : Mx} {J : List Nat} (h : ∀ i, i ∈ J → ∀ j, j ∈ J → m i j = m' i j) : PSD m J ↔ PSD m' J := by
  unfold PSD
  have e : ∀ w, fm m J w = fm m' J w := fun w => pf_congr h (fun _ _ => rfl) fun _ _ => rfl
  simp only [e]
theorem pf_sch (m : Mx) (p : Nat) (J : List Nat) (u w : Nat → Gn) :
    pf (sch m p) J u w = pf m J u w - (sm J fun i => u i * m i p) * inv (m p p) * sm J fun j => m p j * conj (w j) := by
  unfold pf sch
  have e : ∀ i, (sm J fun j => u i * (m i j - m i p * inv (m p p) * m p j) * conj (w j)) = (sm J fun j => u i * m i j * conj (w j)) - (u i * m i p) * (inv (m p p) * sm J fun j => m p j * conj (w j)) := by
    intro i
    rw [← sm_mulL, ← sm_mulL, ← sm_sub]
    exact sm_congr fun j _ => by grind
  rw [sm_congr (g := fun i => (sm J fun j => u i * m i j * conj (w j)) - (u i * m i p) * (inv (m p p) * sm J fun j => m p j * conj (w j))) fun i _ => e i, sm_sub, sm_mulR]; grind
theorem inv_real {z : Gn} (h : z.im = 0) (p : 0 < z.re) : (inv z).im = 0 ∧ 0 < (inv z).re := by
  have hz : z ≠ 0 := fun e => by rw [e] at p; exact absurd p (by decide)
  have hn := nsq_pos hz
  constructor
  · show -z.im / nsq z = 0
    rw [h]; grind
  · show 0 < z.re / nsq z
    rw [Rat.div_def]
    exact Rat.mul_pos p (by
      have : nsq z * (nsq z)⁻¹ = 1 := Rat.mul_inv_cancel _ (by grind)
      by_cases q : 0 < (nsq z)⁻¹
      · exact q
      · have h2 : 0 ≤ nsq z * -(nsq z)⁻¹ := Rat.mul_nonneg (by grind) (by grind)
        grind)
theorem re_real_mul {a b : Gn} (h : a.im = 0) : (a * b).re = a.re * b.re := by rw [mul_re, h]; grind
/-- the row and the column of p are nought -/
theorem pf_out {s : Mx} {J : List Nat} {p : Nat} (h : ∀ j, j ∈ J → s p j = 0 ∧ s j p = 0) (u w : Nat → Gn) : pf s J u w = pf s (J.filter (fun i => decide (i ≠ p))) u w := by
  unfold pf
  rw [sm_filter (fun i => decide (i ≠ p)) fun i hi e => ?_]
  · exact sm_congr fun i hi => sm_filter (fun j => decide (j ≠ p)) fun j hj e => by
      have e' : j = p := by simpa using e
      rw [e', (h i (List.mem_filter.mp hi).1).2]; grind
  · have e' : i = p := by simpa using e
    refine sm_zero fun j hj => ?_
    rw [e', (h j hj).1]; grind
theorem sch_row {m : Mx} {p : Nat} (h : m p p ≠ 0) (j : Nat) : sch m p p j = 0 ∧ sch m p j p = 0 := by
  have := mul_inv h
  unfold sch
  constructor <;> grind
theorem PSD.out {s : Mx} {J : List Nat} {p : Nat} (h : ∀ j, j ∈ J → s p j = 0 ∧ s j p = 0) : PSD s J ↔ PSD s (J.filter (fun i => decide (i ≠ p))) := by
  unfold PSD
  simp only [pf_out h]
theorem PSD.sch {m : Mx} {J : List Nat} {p : Nat} (nd : J.Nodup) (hp : p ∈ J) (H : Her m J) (pos : 0 < (m p p).re) : PSD m J ↔ PSD (sch m p) J := by
  have hne : m p p ≠ 0 := fun e => by rw [e] at pos; exact absurd pos (by decide)
  obtain ⟨ti, tp⟩ := inv_real (H.im hp) pos
  have hB : ∀ w : Nat → Gn, (sm J fun j => m p j * conj (w j)) = conj (sm J fun i => w i * m i p) := fun w => by
    rw [sm_conj]
    exact sm_congr fun j hj => by rw [conj_mul, ← H j hj p hp]; grind
  have key : ∀ w, (fm m J w).re = (fm (N640.sch m p) J w).re + (inv (m p p)).re * nsq (sm J fun i => w i * m i p) := fun w => by
    have e := pf_sch m p J w w
    rw [hB] at e
    have e2 : (sm J fun i => w i * m i p) * inv (m p p) * conj (sm J fun i => w i * m i p) = inv (m p p) * ofR (nsq (sm J fun i => w i * m i p)) := by
      rw [← mul_conj]; grind
    rw [e2] at e
    have e3 := congrArg Gn.re e
    rw [sub_re, re_real_mul ti] at e3
    have e4 : (ofR (nsq (sm J fun i => w i * m i p))).re = nsq (sm J fun i => w i * m i p) := rfl
    rw [e4] at e3
    grind
  constructor
  · intro h w
    -- the weight at p such that the sum is nought
    let c := sm (J.filter (fun i => decide (i ≠ p))) fun i => w i * m i p
    let w' : Nat → Gn := fun i => if i = p then -c * inv (m p p) else w i
    have hA : (sm J fun i => w' i * m i p) = 0 := by
      rw [sm_pick nd hp]
      have e1 : sm (J.filter (fun i => decide (i ≠ p))) (fun i => w' i * m i p) = c := sm_congr fun i hi => by
        have : i ≠ p := by simpa using (List.mem_filter.mp hi).2
        show (if i = p then _ else w i) * m i p = w i * m i p
        rw [if_neg this]
      rw [e1]
      have e2 : w' p = -c * inv (m p p) := by show (if p = p then _ else _) = _; rw [if_pos rfl]
      rw [e2]
      have := mul_inv hne
      grind
    have h1 := h w'
    rw [key w', hA] at h1
    have e0 : nsq 0 = 0 := by unfold nsq; rw [zero_re, zero_im]; grind
    rw [e0] at h1
    have e3 : fm (N640.sch m p) J w' = fm (N640.sch m p) J w := by
      have hr := fun j (_ : j ∈ J) => sch_row hne j
      rw [show fm (N640.sch m p) J w' = _ from pf_out hr w' w', show fm (N640.sch m p) J w = _ from pf_out hr w w]
      have ew : ∀ i, i ∈ J.filter (fun i => decide (i ≠ p)) → w' i = w i := fun i hi => by
        have : i ≠ p := by simpa using (List.mem_filter.mp hi).2
        show (if i = p then _ else w i) = w i
        rw [if_neg this]
      exact pf_congr (fun _ _ _ _ => rfl) ew ew
    rw [e3] at h1
    grind
  · intro h w
    rw [key w]
    exact Rat.add_nonneg (h w) (Rat.mul_nonneg (by grind) (nsq_nonneg _))
/-- weights at one or two places -/
theorem pf_one {m : Mx} {J : List Nat} {p : Nat} (nd : J.Nodup) (hp : p ∈ J) : fm m J (fun i => if i = p then 1 else 0) = m p p := by
  unfold fm pf
  rw [sm_one nd hp fun i _ hne => ?_, sm_one nd hp fun j _ hne => ?_]
  · simp only [if_pos]; rw [conj_one]; grind
  · simp only [if_neg hne]; rw [conj_zero]; grind
  · exact sm_zero fun j _ => by simp only [if_neg hne]; grind
theorem PSD.diag {m : Mx} {J : List Nat} {p : Nat} (nd : J.Nodup) (hp : p ∈ J) (h : PSD m J) : 0 ≤ (m p p).re := by
  have := h fun i => if i = p then 1 else 0
  rwa [pf_one nd hp] at this
theorem sm_two {l : List Nat} {f : Nat → Gn} {p q : Nat} (nd : l.Nodup) (hp : p ∈ l) (hq : q ∈ l) (hne : p ≠ q) (h : ∀ i, i ∈ l → i ≠ p → i ≠ q → f i = 0) : sm l f = f p + f q := by
  rw [sm_pick nd hp, sm_one (nd.filter _) (List.mem_filter.mpr ⟨hq, by simpa using hne.symm⟩) fun i hi e => ?_]
  obtain ⟨h1, h2⟩ := List.mem_filter.mp hi
  exact h i h1 (by simpa using h2) e
theorem pf_two {m : Mx} {J : List Nat} {p q : Nat} (nd : J.Nodup) (hp : p ∈ J) (hq : q ∈ J) (hne : p ≠ q) (u : Gn) :
    fm m J (fun i => if i = p then u else if i = q then 1 else 0) = u * m p p * conj u + u * m p q + m q p * conj u + m q q := by
  unfold fm pf
  have hi : ∀ i, (sm J fun j => (if i = p then u else if i = q then 1 else 0) * m i j * conj (if j = p then u else if j = q then 1 else 0)) = (if i = p then u else if i = q then 1 else 0) * (m i p * conj u + m i q) := by
    intro i
    rw [sm_two nd hp hq hne fun j _ h1 h2 => by simp only [if_neg h1, if_neg h2]; rw [conj_zero]; grind]
    simp only [if_pos, if_neg hne.symm]; rw [conj_one]; grind
  rw [sm_congr fun i _ => hi i, sm_two nd hp hq hne fun j _ h1 h2 => by simp only [if_neg h1, if_neg h2]; grind]
  simp only [if_pos, if_neg hne.symm]; grind
/-- a turn by which two rows are below -/
def bturn (z : Gn) (c : Rat) : Gn := conj z * ofR ((c + 1) / (nsq z * -2))
theorem bturn_re {z : Gn} (hz : z ≠ 0) (c : Rat) : (bturn z c * z).re = -(c + 1) / 2 ∧ (conj (bturn z c) * conj z).re = -(c + 1) / 2 := by
  have hn := nsq_pos hz
  have hn' : nsq z ≠ 0 := by grind
  have e : bturn z c * z = ofR (-(c + 1) / 2) := by
    unfold bturn
    have : conj z * ofR ((c + 1) / (nsq z * -2)) * z = (z * conj z) * ofR ((c + 1) / (nsq z * -2)) := by grind
    rw [this, mul_conj]
    apply ext' <;> simp only [mul_re, mul_im, ofR] <;> grind
  refine ⟨by rw [e]; rfl, ?_⟩
  rw [← conj_mul, e]; rfl
theorem PSD.beside {m : Mx} {J : List Nat} {p q : Nat} (nd : J.Nodup) (hp : p ∈ J) (hq : q ∈ J) (H : Her m J) (hz : m p p = 0) (hpq : m p q ≠ 0) (h : PSD m J) : False := by
  have hne : p ≠ q := fun e => by rw [← e] at hpq; exact hpq hz
  have := h fun i => if i = p then bturn (m p q) (m q q).re else if i = q then 1 else 0
  rw [pf_two nd hp hq hne, hz, H p hp q hq] at this
  obtain ⟨e1, e2⟩ := bturn_re hpq (m q q).re
  have e3 : (bturn (m p q) (m q q).re * 0 * conj (bturn (m p q) (m q q).re) + bturn (m p q) (m q q).re * m p q + conj (m p q) * conj (bturn (m p q) (m q q).re) + m q q).re = -1 := by
    have a1 : bturn (m p q) (m q q).re * 0 * conj (bturn (m p q) (m q q).re) = 0 := by grind
    have a2 : conj (m p q) * conj (bturn (m p q) (m q q).re) = conj (bturn (m p q) (m q q).re) * conj (m p q) := by grind
    rw [a1, a2, add_re, add_re, add_re, e1, e2, zero_re]; grind
  rw [e3] at this
  exact absurd this (by decide)
theorem PSD.nought {m : Mx} {J : List Nat} (h : ∀ i, i ∈ J → ∀ j, j ∈ J → m i j = 0) : PSD m J := fun w => by
  have : fm m J w = 0 := sm_zero fun i hi => sm_zero fun j hj => by rw [h i hi j hj]; grind
  rw [this]; decide
theorem PSD.sub {m : Mx} {J J' : List Nat} (nd : J.Nodup) (s : J'.Sublist J) (h : PSD m J) : PSD m J' := fun w => by
  have := h fun i => if i ∈ J' then w i else 0
  have e : fm m J (fun i => if i ∈ J' then w i else 0) = fm m J' w := by
    have eJ : J.filter (fun i => decide (i ∈ J')) = J' := by
      refine (List.Sublist.eq_of_length_le (List.Sublist.trans (l₂ := J'.filter (fun i => decide (i ∈ J'))) ?_ (s.filter _)) ?_).symm
      · rw [List.filter_eq_self.mpr fun i hi => by simpa using hi]; exact List.Sublist.refl _
      · have hnd : (J.filter (fun i => decide (i ∈ J'))).Nodup := nd.filter _
        exact List.Nodup.length_le_of_subset hnd fun i hi => by simpa using (List.mem_filter.mp hi).2
    unfold fm pf
    rw [sm_filter (fun i => decide (i ∈ J')) fun i _ hi => ?_, eJ]
    · refine sm_congr fun i hi => ?_
      rw [sm_filter (fun j => decide (j ∈ J')) fun j _ hj => ?_, eJ]
      · exact sm_congr fun j hj => by simp only [if_pos hi, if_pos hj]
      · have hj' : j ∉ J' := by simpa using hj
        simp only [if_neg hj']; rw [conj_zero]; grind
    · have hi' : i ∉ J' := by simpa using hi
      exact sm_zero fun j _ => by simp only [if_neg hi']; grind
  rwa [e] at this
end N640

set_option maxHeartbeats 8000000
set_option linter.all false
/-! Determinants up to four rows. -/
namespace N640
open Gn
/-- by the first row -/
def det : Nat → Mx → Gn
  | 0, _ => 1
  | k + 1, m => sm (List.range (k + 1)) fun j => (if 2 * (j / 2) = j then 1 else -1) * (m 0 j * det k fun a b => m (a + 1) (if b < j then b else b + 1))
def pk (m : Mx) (J : List Nat) : Mx := fun a b => m (J.getD a 0) (J.getD b 0)
def detJ (m : Mx) (J : List Nat) : Gn := det J.length (pk m J)
theorem det1 (m : Mx) : det 1 m = m 0 0 := by
  simp only [det, List.range, List.range.loop, sm]; simp; grind
theorem det2 (m : Mx) : det 2 m = m 0 0 * m 1 1 - m 0 1 * m 1 0 := by
  simp only [det, List.range, List.range.loop, sm]; simp; grind
theorem det3 (m : Mx) : det 3 m = m 0 0 * (m 1 1 * m 2 2 - m 1 2 * m 2 1) - m 0 1 * (m 1 0 * m 2 2 - m 1 2 * m 2 0) + m 0 2 * (m 1 0 * m 2 1 - m 1 1 * m 2 0) := by
  rw [det]
  simp only [List.range, List.range.loop, sm, det2]; simp; grind
theorem det4 (m : Mx) : det 4 m = m 0 0 * (m 1 1 * (m 2 2 * m 3 3 - m 2 3 * m 3 2) - m 1 2 * (m 2 1 * m 3 3 - m 2 3 * m 3 1) + m 1 3 * (m 2 1 * m 3 2 - m 2 2 * m 3 1))
    - m 0 1 * (m 1 0 * (m 2 2 * m 3 3 - m 2 3 * m 3 2) - m 1 2 * (m 2 0 * m 3 3 - m 2 3 * m 3 0) + m 1 3 * (m 2 0 * m 3 2 - m 2 2 * m 3 0))
    + m 0 2 * (m 1 0 * (m 2 1 * m 3 3 - m 2 3 * m 3 1) - m 1 1 * (m 2 0 * m 3 3 - m 2 3 * m 3 0) + m 1 3 * (m 2 0 * m 3 1 - m 2 1 * m 3 0))
    - m 0 3 * (m 1 0 * (m 2 1 * m 3 2 - m 2 2 * m 3 1) - m 1 1 * (m 2 0 * m 3 2 - m 2 2 * m 3 0) + m 1 2 * (m 2 0 * m 3 1 - m 2 1 * m 3 0)) := by
  rw [det]
  simp only [List.range, List.range.loop, sm, det3]; simp; grind
theorem dJ0 (m : Mx) : detJ m [] = 1 := rfl
theorem dJ1 (m : Mx) (a : Nat) : detJ m [a] = m a a := det1 _
theorem dJ2 (m : Mx) (a b : Nat) : detJ m [a, b] = m a a * m b b - m a b * m b a := det2 _
theorem dJ3 (m : Mx) (a b c : Nat) : detJ m [a, b, c] = m a a * (m b b * m c c - m b c * m c b) - m a b * (m b a * m c c - m b c * m c a) + m a c * (m b a * m c b - m b b * m c a) := det3 _
theorem dJ4 (m : Mx) (a b c d : Nat) : detJ m [a, b, c, d] = m a a * (m b b * (m c c * m d d - m c d * m d c) - m b c * (m c b * m d d - m c d * m d b) + m b d * (m c b * m d c - m c c * m d b))
    - m a b * (m b a * (m c c * m d d - m c d * m d c) - m b c * (m c a * m d d - m c d * m d a) + m b d * (m c a * m d c - m c c * m d a))
    + m a c * (m b a * (m c b * m d d - m c d * m d b) - m b b * (m c a * m d d - m c d * m d a) + m b d * (m c a * m d b - m c b * m d a))
    - m a d * (m b a * (m c b * m d c - m c c * m d b) - m b b * (m c a * m d c - m c c * m d a) + m b c * (m c a * m d b - m c b * m d a)) := det4 _
/-- Schur's step takes a row and a column -/
theorem det_sch {m : Mx} {p : Nat} (h : m p p ≠ 0) : ∀ (i1 i2 : List Nat), i1.length + i2.length ≤ 3 → detJ m (i1 ++ p :: i2) = m p p * detJ (sch m p) (i1 ++ i2) := by
  have t := mul_inv h
  unfold sch
  generalize inv (m p p) = z at t
  intro i1 i2 hl
  match i1, i2, hl with
  | [], [], _ => simp only [List.nil_append, dJ1, dJ0]; grind
  | [], [a], _ => simp only [List.nil_append, dJ2, dJ1]; grind
  | [a], [], _ => simp only [List.cons_append, List.nil_append, dJ2, dJ1]; grind
  | [], [a, b], _ => simp only [List.nil_append, dJ3, dJ2]; grind
  | [a], [b], _ => simp only [List.cons_append, List.nil_append, dJ3, dJ2]; grind
  | [a, b], [], _ => simp only [List.cons_append, List.nil_append, dJ3, dJ2]; grind
  | [], [a, b, c], _ => simp only [List.nil_append, dJ4, dJ3]; grind
  | [a], [b, c], _ => simp only [List.cons_append, List.nil_append, dJ4, dJ3]; grind
  | [a, b], [c], _ => simp only [List.cons_append, List.nil_append, dJ4, dJ3]; grind
  | [a, b, c], [], _ => simp only [List.cons_append, List.nil_append, dJ4, dJ3]; grind
  | _ :: _ :: _ :: _ :: _, _, hl => simp at hl <;> omega
  | _ :: _ :: _ :: [], _ :: _, hl => simp at hl <;> omega
  | _ :: _ :: [], _ :: _ :: _, hl => simp at hl <;> omega
  | _ :: [], _ :: _ :: _ :: _, hl => simp at hl <;> omega
  | [], _ :: _ :: _ :: _ :: _, hl => simp at hl <;> omega
/-- the second kind takes two -/
theorem det_sc2 {m : Mx} {p q : Nat} (hp : m p p = 0) (hq : m q q = 0) (h : m p q ≠ 0) (h' : m q p ≠ 0) : ∀ (i1 i2 i3 : List Nat), i1.length + i2.length + i3.length ≤ 2 →
    detJ m (i1 ++ p :: (i2 ++ q :: i3)) = -(m p q * m q p) * detJ (sc2 m p q) (i1 ++ (i2 ++ i3)) := by
  have t := mul_inv h
  have t' := mul_inv h'
  unfold sc2
  generalize inv (m p q) = z at t
  generalize inv (m q p) = y at t'
  intro i1 i2 i3 hl
  match i1, i2, i3, hl with
  | [], [], [], _ => simp only [List.nil_append, dJ2, dJ0]; grind
  | [a], [], [], _ => simp only [List.cons_append, List.nil_append, dJ3, dJ1]; grind
  | [], [a], [], _ => simp only [List.cons_append, List.nil_append, dJ3, dJ1]; grind
  | [], [], [a], _ => simp only [List.cons_append, List.nil_append, dJ3, dJ1]; grind
  | [a, b], [], [], _ => simp only [List.cons_append, List.nil_append, dJ4, dJ2]; grind
  | [a], [b], [], _ => simp only [List.cons_append, List.nil_append, dJ4, dJ2]; grind
  | [a], [], [b], _ => simp only [List.cons_append, List.nil_append, dJ4, dJ2]; grind
  | [], [a, b], [], _ => simp only [List.cons_append, List.nil_append, dJ4, dJ2]; grind
  | [], [a], [b], _ => simp only [List.cons_append, List.nil_append, dJ4, dJ2]; grind
  | [], [], [a, b], _ => simp only [List.cons_append, List.nil_append, dJ4, dJ2]; grind
  | _ :: _ :: _ :: _, _, _, hl => simp at hl <;> omega
  | _ :: _ :: [], _ :: _, _, hl => simp at hl <;> omega
  | _ :: _ :: [], [], _ :: _, hl => simp at hl <;> omega
  | _ :: [], _ :: _ :: _, _, hl => simp at hl <;> omega
  | _ :: [], _ :: [], _ :: _, hl => simp at hl <;> omega
  | _ :: [], [], _ :: _ :: _, hl => simp at hl <;> omega
  | [], _ :: _ :: _ :: _, _, hl => simp at hl <;> omega
  | [], _ :: _ :: [], _ :: _, hl => simp at hl <;> omega
  | [], _ :: [], _ :: _ :: _, hl => simp at hl <;> omega
  | [], [], _ :: _ :: _ :: _, hl => simp at hl <;> omega
theorem detJ_congr {m m' : Mx} {J : List Nat} (hl : J.length ≤ 4) (h : ∀ i, i ∈ J → ∀ j, j ∈ J → m i j = m' i j) : detJ m J = detJ m' J := by
  match J, hl with
  | [], _ => rfl
  | [a], _ => simp only [dJ1]; rw [h a (by simp) a (by simp)]
  | [a, b], _ => simp only [dJ2]; rw [h a (by simp) a (by simp), h a (by simp) b (by simp), h b (by simp) a (by simp), h b (by simp) b (by simp)]
  | [a, b, c], _ =>
    simp only [dJ3]
    rw [h a (by simp) a (by simp), h a (by simp) b (by simp), h a (by simp) c (by simp), h b (by simp) a (by simp), h b (by simp) b (by simp), h b (by simp) c (by simp), h c (by simp) a (by simp), h c (by simp) b (by simp), h c (by simp) c (by simp)]
  | [a, b, c, d], _ =>
    simp only [dJ4]
    rw [h a (by simp) a (by simp), h a (by simp) b (by simp), h a (by simp) c (by simp), h a (by simp) d (by simp), h b (by simp) a (by simp), h b (by simp) b (by simp), h b (by simp) c (by simp), h b (by simp) d (by simp),
      h c (by simp) a (by simp), h c (by simp) b (by simp), h c (by simp) c (by simp), h c (by simp) d (by simp), h d (by simp) a (by simp), h d (by simp) b (by simp), h d (by simp) c (by simp), h d (by simp) d (by simp)]
  | _ :: _ :: _ :: _ :: _ :: _, hl => simp at hl <;> omega
theorem detJ_nought {m : Mx} {J : List Nat} (hl : J.length ≤ 4) (hne : J ≠ []) (h : ∀ i, i ∈ J → ∀ j, j ∈ J → m i j = 0) : detJ m J = 0 := by
  rw [detJ_congr (m' := fun _ _ => 0) hl h]
  match J, hl, hne with
  | [a], _, _ => simp only [dJ1]
  | [a, b], _, _ => simp only [dJ2]; grind
  | [a, b, c], _, _ => simp only [dJ3]; grind
  | [a, b, c, d], _, _ => simp only [dJ4]; grind
  | _ :: _ :: _ :: _ :: _ :: _, hl, _ => simp at hl <;> omega
end N640

set_option maxHeartbeats 4000000
set_option linter.all false
/-! Never below by determinants. -/
namespace N640
open Gn
theorem re_ne {z : Gn} (e : z.re ≠ 0) : z ≠ 0 := fun h => e (by rw [h]; rfl)
theorem out_eq {i1 i2 : List Nat} {p : Nat} (nd : (i1 ++ p :: i2).Nodup) : (i1 ++ p :: i2).filter (fun i => decide (i ≠ p)) = i1 ++ i2 := by
  rw [List.filter_append, List.filter_cons]
  have h1 : i1.filter (fun i => decide (i ≠ p)) = i1 := List.filter_eq_self.mpr fun j hj => by
    have := (List.nodup_append.mp nd).2.2 j hj p List.mem_cons_self
    simpa using this
  have h2 : i2.filter (fun i => decide (i ≠ p)) = i2 := List.filter_eq_self.mpr fun j hj => by
    have := (List.nodup_cons.mp (List.nodup_append.mp nd).2.1).1
    simp; rintro rfl; exact this hj
  rw [h1, h2]; simp
theorem mid_sub {i1 i2 : List Nat} {p : Nat} : (i1 ++ i2).Sublist (i1 ++ p :: i2) := (List.Sublist.refl i1).append (List.sublist_cons_self p i2)
theorem PSD.step {m : Mx} {i1 i2 : List Nat} {p : Nat} (nd : (i1 ++ p :: i2).Nodup) (H : Her m (i1 ++ p :: i2)) (pos : 0 < (m p p).re) : PSD m (i1 ++ p :: i2) ↔ PSD (N640.sch m p) (i1 ++ i2) := by
  have hp : p ∈ i1 ++ p :: i2 := by simp
  rw [PSD.sch nd hp H pos, PSD.out (p := p) fun j _ => sch_row (re_ne (by grind)) j, out_eq nd]
/-- two places of a list, in their order -/
theorem two_of {J : List Nat} {a b : Nat} (ha : a ∈ J) (hb : b ∈ J) (hne : a ≠ b) : (∃ i1 i2 i3, J = i1 ++ a :: (i2 ++ b :: i3)) ∨ ∃ i1 i2 i3, J = i1 ++ b :: (i2 ++ a :: i3) := by
  obtain ⟨s, t, rfl⟩ := List.append_of_mem ha
  rcases List.mem_append.mp hb with h | h
  · obtain ⟨s1, s2, rfl⟩ := List.append_of_mem h
    exact .inr ⟨s1, s2, t, by simp⟩
  · rcases List.mem_cons.mp h with h | h
    · exact absurd h.symm hne
    · obtain ⟨t1, t2, rfl⟩ := List.append_of_mem h
      exact .inl ⟨s, t1, t2, rfl⟩
theorem ne_im {z w : Gn} (hz : z.im = 0) (hw : w.im = 0) : (z * w).im = 0 := by rw [mul_im, hz, hw]; grind
theorem sc2_sym (m : Mx) (p q : Nat) : sc2 m p q = sc2 m q p := by
  funext i j
  unfold sc2; grind
theorem det_real : ∀ (n : Nat) (m : Mx) (J : List Nat), J.length = n → n ≤ 4 → J.Nodup → Her m J → (detJ m J).im = 0 := by
  intro n
  induction n using Nat.strongRecOn with
  | ind n ih =>
    intro m J hl h4 nd H
    by_cases hd : ∃ p, p ∈ J ∧ m p p ≠ 0
    · obtain ⟨p, hp, hne⟩ := hd
      obtain ⟨i1, i2, rfl⟩ := List.append_of_mem hp
      have hlen : i1.length + i2.length + 1 = n := by rw [← hl]; simp; omega
      rw [det_sch hne i1 i2 (by omega)]
      refine ne_im (H.im hp) (ih (i1.length + i2.length) (by omega) _ _ (by simp) (by omega) (mid_sub.nodup nd) ((H.sch hp).sub fun i hi => mid_sub.subset hi))
    · by_cases ho : ∃ p q, p ∈ J ∧ q ∈ J ∧ m p q ≠ 0
      · obtain ⟨p, q, hp, hq, hne⟩ := ho
        have zd : ∀ i, i ∈ J → m i i = 0 := fun i hi => Classical.byContradiction fun z => hd ⟨i, hi, z⟩
        have hpq : p ≠ q := fun e => hne (by rw [← e]; exact zd p hp)
        have main : ∀ a b, a ∈ J → b ∈ J → m a b ≠ 0 → (∃ i1 i2 i3, J = i1 ++ a :: (i2 ++ b :: i3)) → (detJ m J).im = 0 := by
          rintro a b ha hb hab ⟨i1, i2, i3, rfl⟩
          have hba : m b a ≠ 0 := by rw [H a ha b hb]; exact conj_ne hab
          have hlen : i1.length + i2.length + i3.length + 2 = n := by rw [← hl]; simp; omega
          rw [det_sc2 (zd a ha) (zd b hb) hab hba i1 i2 i3 (by omega)]
          have hsub : (i1 ++ (i2 ++ i3)).Sublist (i1 ++ a :: (i2 ++ b :: i3)) := (List.Sublist.refl i1).append (((List.Sublist.refl i2).append (List.sublist_cons_self b i3)).cons a)
          refine ne_im ?_ (ih (i1.length + i2.length + i3.length) (by omega) _ _ (by simp; omega) (by omega) (hsub.nodup nd) ((H.sc2 ha hb).sub fun i hi => hsub.subset hi))
          rw [H a ha b hb, neg_im, mul_conj]
          show -(0 : Rat) = 0
          grind
        rcases two_of hp hq hpq with h | h
        · exact main p q hp hq hne h
        · exact main q p hq hp (by rw [H p hp q hq]; exact conj_ne hne) h
      · have zz : ∀ i, i ∈ J → ∀ j, j ∈ J → m i j = 0 := fun i hi j hj => Classical.byContradiction fun z => ho ⟨i, j, hi, hj, z⟩
        by_cases hJ : J = []
        · subst hJ; rfl
        · rw [detJ_nought (by omega) hJ zz]; rfl
theorem det_nonneg : ∀ (n : Nat) (m : Mx) (J : List Nat), J.length = n → n ≤ 4 → J.Nodup → Her m J → PSD m J → 0 ≤ (detJ m J).re := by
  intro n
  induction n using Nat.strongRecOn with
  | ind n ih =>
    intro m J hl h4 nd H P
    by_cases hd : ∃ p, p ∈ J ∧ 0 < (m p p).re
    · obtain ⟨p, hp, pos⟩ := hd
      obtain ⟨i1, i2, rfl⟩ := List.append_of_mem hp
      have hlen : i1.length + i2.length + 1 = n := by rw [← hl]; simp; omega
      rw [det_sch (re_ne (by grind)) i1 i2 (by omega), re_real_mul (H.im hp)]
      exact Rat.mul_nonneg (by grind) (ih (i1.length + i2.length) (by omega) _ _ (by simp) (by omega) (mid_sub.nodup nd) ((H.sch hp).sub fun i hi => mid_sub.subset hi) ((PSD.step nd H pos).mp P))
    · have zd : ∀ i, i ∈ J → m i i = 0 := fun i hi => H.zero hi (by
        have h1 := PSD.diag nd hi P
        have h2 : ¬ 0 < (m i i).re := fun z => hd ⟨i, hi, z⟩
        grind)
      have zz : ∀ i, i ∈ J → ∀ j, j ∈ J → m i j = 0 := fun i hi j hj => Classical.byContradiction fun z => PSD.beside nd hi hj H (zd i hi) z P
      by_cases hJ : J = []
      · subst hJ
        show 0 ≤ (1 : Gn).re
        decide
      · rw [detJ_nought (by omega) hJ zz]; decide
theorem minors_psd : ∀ (n : Nat) (m : Mx) (J : List Nat), J.length = n → n ≤ 4 → J.Nodup → Her m J → (∀ I : List Nat, I.Sublist J → I ≠ [] → 0 ≤ (detJ m I).re) → PSD m J := by
  intro n
  induction n using Nat.strongRecOn with
  | ind n ih =>
    intro m J hl h4 nd H P
    by_cases hd : ∃ p, p ∈ J ∧ 0 < (m p p).re
    · obtain ⟨p, hp, pos⟩ := hd
      obtain ⟨i1, i2, rfl⟩ := List.append_of_mem hp
      have hlen : i1.length + i2.length + 1 = n := by rw [← hl]; simp; omega
      rw [PSD.step nd H pos]
      refine ih (i1.length + i2.length) (by omega) _ _ (by simp) (by omega) (mid_sub.nodup nd) ((H.sch hp).sub fun i hi => mid_sub.subset hi) fun I hI hne => ?_
      obtain ⟨a1, a2, rfl, s1, s2⟩ := List.sublist_append_iff.mp hI
      have h1 := P (a1 ++ p :: a2) (s1.append (s2.cons₂ p)) (by simp)
      have l1 := s1.length_le
      have l2 := s2.length_le
      rw [det_sch (re_ne (by grind)) a1 a2 (by omega), re_real_mul (H.im hp)] at h1
      rcases Rat.le_total (a := 0) (b := (detJ (N640.sch m p) (a1 ++ a2)).re) with q | q
      · exact q
      · have h2 := Rat.mul_nonneg (a := (m p p).re) (b := -(detJ (N640.sch m p) (a1 ++ a2)).re) (by grind) (by grind)
        have e : (m p p).re * (detJ (N640.sch m p) (a1 ++ a2)).re = 0 := by grind
        rcases Rat.mul_eq_zero.mp e with e | e
        · grind
        · rw [e]; grind
    · have zd : ∀ i, i ∈ J → m i i = 0 := fun i hi => H.zero hi (by
        have h1 := P [i] (List.singleton_sublist.mpr hi) (by simp)
        rw [dJ1] at h1
        have h2 : ¬ 0 < (m i i).re := fun z => hd ⟨i, hi, z⟩
        grind)
      refine PSD.nought fun i hi j hj => Classical.byContradiction fun z => ?_
      have hij : i ≠ j := fun e => z (by rw [← e]; exact zd i hi)
      have main : ∀ a b, a ∈ J → b ∈ J → m a b ≠ 0 → (∃ i1 i2 i3, J = i1 ++ a :: (i2 ++ b :: i3)) → False := by
        rintro a b ha hb hab ⟨i1, i2, i3, hJ⟩
        have hs : [a, b].Sublist J := by
          rw [hJ]
          have h3 : [b].Sublist (i2 ++ b :: i3) := List.singleton_sublist.mpr (by simp)
          exact List.Sublist.trans (h3.cons₂ a) (List.sublist_append_right i1 _)
        have h1 := P [a, b] hs (by simp)
        rw [dJ2, zd a ha, zd b hb, H a ha b hb] at h1
        have e : (0 * 0 - m a b * conj (m a b) : Gn).re = -nsq (m a b) := by
          rw [mul_conj, sub_re]
          show (0 * 0 : Gn).re - nsq (m a b) = _
          have : (0 * 0 : Gn) = 0 := by grind
          rw [this, zero_re]; grind
        rw [e] at h1
        have := nsq_pos hab
        grind
      rcases two_of hi hj hij with h | h
      · exact main i j hi hj z h
      · exact main j i hj hi (by rw [H i hi j hj]; exact conj_ne z) h
/-- never below exactly if every picked determinant is at least 0 -/
theorem psd_minors {m : Mx} {J : List Nat} (h4 : J.length ≤ 4) (nd : J.Nodup) (H : Her m J) : PSD m J ↔ ∀ I : List Nat, I.Sublist J → I ≠ [] → 0 ≤ (detJ m I).re :=
  ⟨fun P I hI _ => det_nonneg I.length m I rfl (Nat.le_trans hI.length_le h4) (hI.nodup nd) (H.sub fun i hi => hI.subset hi) (P.sub nd hI), minors_psd J.length m J rfl h4 nd H⟩
end N640

set_option maxHeartbeats 4000000
set_option linter.all false
/-! Steps of the walks: what is kept. -/
namespace N640
open Gn
/-! ### bounds by one bottom -/
def Bd (k n : Nat) (X : Mx) : Prop := ∃ d : Int, 0 < d ∧ d.natAbs < 2 ^ k ∧ ∀ i, i < n → ∀ j, j < n → ∃ a b : Int, X i j = val a b d ∧ a.natAbs < 2 ^ k ∧ b.natAbs < 2 ^ k
theorem Bd.mono {k k' n : Nat} {X : Mx} (h : Bd k n X) (e : k ≤ k') : Bd k' n X := by
  obtain ⟨d, d0, db, h⟩ := h
  exact ⟨d, d0, bn db e, fun i hi j hj => let ⟨a, b, e1, e2, e3⟩ := h i hi j hj; ⟨a, b, e1, bn e2 e, bn e3 e⟩⟩
theorem Bd.sz {k n : Nat} {X : Mx} (h : Bd k n X) {i j : Nat} (hi : i < n) (hj : j < n) : Sz k (X i j) := by
  obtain ⟨d, d0, db, h⟩ := h
  obtain ⟨a, b, e1, e2, e3⟩ := h i hi j hj
  exact Sz.of d0 e1.symm e2 e3 db
theorem Bd.congr {k n : Nat} {X Y : Mx} (h : Bd k n X) (e : ∀ i, i < n → ∀ j, j < n → Y i j = X i j) : Bd k n Y := by
  obtain ⟨d, d0, db, h⟩ := h
  exact ⟨d, d0, db, fun i hi j hj => by rw [e i hi j hj]; exact h i hi j hj⟩
/-- quotients by one bottom -/
def Qd (k n : Nat) (q : Nat → Gn) : Prop := ∃ c : Int, 0 < c ∧ c.natAbs < 2 ^ k ∧ ∀ i, i < n → ∃ x y : Int, q i = val x y c ∧ x.natAbs < 2 ^ k ∧ y.natAbs < 2 ^ k
theorem Qd.sz {k n : Nat} {q : Nat → Gn} (h : Qd k n q) {i : Nat} (hi : i < n) : Sz k (q i) := by
  obtain ⟨d, d0, db, h⟩ := h
  obtain ⟨a, b, e1, e2, e3⟩ := h i hi
  exact Sz.of d0 e1.symm e2 e3 db
/-- rows less multiples of one row -/
def rw1 (X : Mx) (q : Nat → Gn) (p : Nat) : Mx := fun i j => X i j - q i * X p j
theorem Bd.row {k kq n : Nat} {X : Mx} {q : Nat → Gn} {p : Nat} (h : Bd k n X) (hq : Qd kq n q) (hp : p < n) : Bd (k + kq + 2) n (rw1 X q p) := by
  obtain ⟨d, d0, db, h⟩ := h
  obtain ⟨c, c0, cb, hq⟩ := hq
  refine ⟨d * c, Int.mul_pos d0 c0, bm db cb (by omega), fun i hi j hj => ?_⟩
  obtain ⟨a, b, e1, e2, e3⟩ := h i hi j hj
  obtain ⟨u, v, f1, f2, f3⟩ := h p hp j hj
  obtain ⟨x, y, g1, g2, g3⟩ := hq i hi
  refine ⟨a * c - (x * u - y * v), b * c - (x * v + y * u), ?_, ?_, ?_⟩
  · show X i j - q i * X p j = _
    have hd : d ≠ 0 := by omega
    have hc : c ≠ 0 := by omega
    rw [e1, f1, g1, val_mul hc hd, val_sub hd (Int.mul_ne_zero hc hd)]
    refine (val_eq (Int.mul_ne_zero hd (Int.mul_ne_zero hc hd)) (Int.mul_ne_zero hd hc)).mpr ⟨?_, ?_⟩ <;> grind
  · exact bs (bm e2 cb (Nat.le_refl _)) (bs (bm g2 f2 (Nat.le_refl _)) (bm g3 f3 (Nat.le_refl _)) (Nat.le_refl _) (Nat.le_refl _)) (by omega) (by omega)
  · exact bs (bm e3 cb (Nat.le_refl _)) (ba (bm g2 f3 (Nat.le_refl _)) (bm g3 f2 (Nat.le_refl _)) (Nat.le_refl _) (Nat.le_refl _)) (by omega) (by omega)
/-- the quotients of a column by a value without a side -/
theorem Bd.col {k n : Nat} {X : Mx} {p : Nat} (h : Bd k n X) (hp : p < n) (im : (X p p).im = 0) (ne : X p p ≠ 0) (c : Nat → Bool) : Qd k n (fun i => if c i then X i p * inv (X p p) else 0) := by
  obtain ⟨d, d0, db, h⟩ := h
  obtain ⟨a, b, e1, e2, e3⟩ := h p hp p hp
  have hd : d ≠ 0 := by omega
  have hb : b = 0 := by
    have : (b : Rat) / (d : Rat) = 0 := by rw [e1] at im; exact im
    have h1 := cne hd
    have f : (b : Rat) = 0 := by grind
    exact_mod_cast f
  have ha : a ≠ 0 := fun z => ne (by rw [e1]; exact (val_zero hd).mpr ⟨z, hb⟩)
  subst hb
  have hsq : a * a + 0 * 0 ≠ 0 := by
    have : a * a ≠ 0 := Int.mul_ne_zero ha ha
    omega
  rcases Int.lt_or_lt_of_ne ha with neg | pos
  · refine ⟨-a, by omega, by omega, fun i hi => ?_⟩
    cases hc : c i with
    | false => exact ⟨0, 0, by dsimp only; rw [if_neg (by rw [hc]; decide)]; exact ((val_zero (c := -a) (by omega)).mpr ⟨rfl, rfl⟩).symm, by have := Nat.two_pow_pos k; simpa using this, by have := Nat.two_pow_pos k; simpa using this⟩
    | true =>
      obtain ⟨x, y, f1, f2, f3⟩ := h i hi p hp
      refine ⟨-x, -y, ?_, by omega, by omega⟩
      dsimp only
      rw [if_pos hc, f1, e1, val_div hd hd hsq]
      refine (val_eq (Int.mul_ne_zero hd hsq) (by omega)).mpr ⟨?_, ?_⟩ <;> grind
  · refine ⟨a, pos, e2, fun i hi => ?_⟩
    cases hc : c i with
    | false => exact ⟨0, 0, by dsimp only; rw [if_neg (by rw [hc]; decide)]; exact ((val_zero ha).mpr ⟨rfl, rfl⟩).symm, by have := Nat.two_pow_pos k; simpa using this, by have := Nat.two_pow_pos k; simpa using this⟩
    | true =>
      obtain ⟨x, y, f1, f2, f3⟩ := h i hi p hp
      refine ⟨x, y, ?_, f2, f3⟩
      dsimp only
      rw [if_pos hc, f1, e1, val_div hd hd hsq]
      refine (val_eq (Int.mul_ne_zero hd hsq) ha).mpr ⟨?_, ?_⟩ <;> grind
/-- by any value that is not 0 -/
theorem Bd.col2 {k n : Nat} {X : Mx} {p r s : Nat} (h : Bd k n X) (hp : p < n) (hr : r < n) (hs : s < n) (ne : X r s ≠ 0) (c : Nat → Bool) : Qd (2 * k + 1) n (fun i => if c i then X i p * inv (X r s) else 0) := by
  obtain ⟨d, d0, db, h⟩ := h
  obtain ⟨a, b, e1, e2, e3⟩ := h r hr s hs
  have hd : d ≠ 0 := by omega
  have hsq : a * a + b * b ≠ 0 := fun z => ne (by
    have h1 : 0 ≤ a * a := isq _
    have h2 : 0 ≤ b * b := isq _
    have z1 : a * a = 0 := by omega
    have z2 : b * b = 0 := by omega
    rw [e1]
    refine (val_zero hd).mpr ⟨?_, ?_⟩
    · rcases Int.mul_eq_zero.mp z1 with q | q <;> exact q
    · rcases Int.mul_eq_zero.mp z2 with q | q <;> exact q)
  have hsp : 0 < a * a + b * b := by
    have h1 : 0 ≤ a * a := isq _
    have h2 : 0 ≤ b * b := isq _
    omega
  refine ⟨a * a + b * b, hsp, ba (bm e2 e2 (Nat.le_refl _)) (bm e3 e3 (Nat.le_refl _)) (by omega) (by omega), fun i hi => ?_⟩
  cases hc : c i with
  | false => exact ⟨0, 0, by dsimp only; rw [if_neg (by rw [hc]; decide)]; exact ((val_zero hsq).mpr ⟨rfl, rfl⟩).symm, by have := Nat.two_pow_pos (2 * k + 1); simpa using this, by have := Nat.two_pow_pos (2 * k + 1); simpa using this⟩
  | true =>
    obtain ⟨x, y, f1, f2, f3⟩ := h i hi p hp
    refine ⟨x * a + y * b, y * a - x * b, ?_, ba (bm f2 e2 (Nat.le_refl _)) (bm f3 e3 (Nat.le_refl _)) (by omega) (by omega), bs (bm f3 e2 (Nat.le_refl _)) (bm f2 e3 (Nat.le_refl _)) (by omega) (by omega)⟩
    dsimp only
    rw [if_pos hc, f1, e1, val_div hd hd hsq]
    refine (val_eq (Int.mul_ne_zero hd hsq) hsq).mpr ⟨?_, ?_⟩ <;> grind
/-- bits behind so many steps -/
def kx : Nat → Nat
  | 0 => 9
  | t + 1 => 3 * kx t + 4
theorem kx_ge (t : Nat) : 9 ≤ kx t := by
  induction t with
  | zero => exact Nat.le_refl _
  | succ t ih => show 9 ≤ 3 * kx t + 4; omega
theorem kx_mono {s t : Nat} (h : s ≤ t) : kx s ≤ kx t := by
  induction h with
  | refl => exact Nat.le_refl _
  | step _ ih => show _ ≤ 3 * kx _ + 4; omega
theorem kx3 {t : Nat} (h : t ≤ 3) : kx t ≤ 295 := Nat.le_trans (kx_mono h) (by decide)
/-! ### the program's walk -/
def qcol (V : Mx) (left : List Nat) (p : Nat) : Nat → Gn := fun i => if decide (i ∈ left) then V i p * inv (V p p) else 0
/-- the places that are left -/
def wo (left : List Nat) (p : Nat) : List Nat := left.filter (fun i => decide (i ≠ p))
def tk (X V : Mx) (left : List Nat) (p : Nat) : Mx := rw1 X (qcol V (wo left p) p) p
structure Wk (n : Nat) (V W : Mx) (left : List Nat) : Prop where
  sub : left.Sublist (List.range n)
  her : Her V left
  bv : Bd (kx (n - left.length)) n V
  bw : Bd (kx (n - left.length)) n W
theorem Wk.nd {n : Nat} {V W : Mx} {left : List Nat} (h : Wk n V W left) : left.Nodup := h.sub.nodup List.nodup_range
theorem Wk.lt {n : Nat} {V W : Mx} {left : List Nat} (h : Wk n V W left) {i : Nat} (hi : i ∈ left) : i < n := by simpa using h.sub.subset hi
theorem Wk.len {n : Nat} {V W : Mx} {left : List Nat} (h : Wk n V W left) : left.length ≤ n := by simpa using h.sub.length_le
theorem wo_len {left : List Nat} {p : Nat} (nd : left.Nodup) (hp : p ∈ left) : (wo left p).length + 1 = left.length := by
  obtain ⟨i1, i2, rfl⟩ := List.append_of_mem hp
  unfold wo
  rw [out_eq nd]; simp; omega
theorem mem_wo {left : List Nat} {p i : Nat} : i ∈ wo left p ↔ i ∈ left ∧ i ≠ p := by
  unfold wo; simp [List.mem_filter]
theorem tk_left {X V : Mx} {left : List Nat} {p i j : Nat} (hi : i ∈ wo left p) : tk X V left p i j = X i j - V i p * inv (V p p) * X p j := by
  unfold tk rw1 qcol; rw [if_pos (decide_eq_true hi)]
theorem tk_out {X V : Mx} {left : List Nat} {p i j : Nat} (hi : i ∉ wo left p) : tk X V left p i j = X i j := by
  unfold tk rw1 qcol; rw [if_neg (by simpa using hi)]; grind
theorem tk_sch {V : Mx} {left : List Nat} {p i j : Nat} (hi : i ∈ wo left p) : tk V V left p i j = N640.sch V p i j := by
  rw [tk_left hi]; unfold sch; grind
theorem Wk.take {n : Nat} {V W : Mx} {left : List Nat} {p : Nat} (h : Wk n V W left) (hp : p ∈ left) (ne : V p p ≠ 0) : Wk n (tk V V left p) (tk W V left p) (wo left p) := by
  have hl := wo_len h.nd hp
  have hlen := h.len
  have e : n - (wo left p).length = (n - left.length) + 1 := by omega
  have hq : Qd (kx (n - left.length)) n (qcol V (wo left p) p) := h.bv.col (h.lt hp) (h.her.im hp) ne fun i => decide (i ∈ wo left p)
  refine ⟨(List.filter_sublist ..).trans h.sub, fun i hi j hj => ?_, ?_, ?_⟩
  · rw [tk_sch hi, tk_sch hj]
    exact h.her.sch hp i (mem_wo.mp hi).1 j (mem_wo.mp hj).1
  · rw [e]; exact (h.bv.row hq (h.lt hp)).mono (by show _ ≤ 3 * kx _ + 4; omega)
  · rw [e]; exact (h.bw.row hq (h.lt hp)).mono (by show _ ≤ 3 * kx _ + 4; omega)
theorem psd_tk {V : Mx} {left : List Nat} {p : Nat} (nd : left.Nodup) (H : Her V left) (hp : p ∈ left) (pos : 0 < (V p p).re) : PSD V left ↔ PSD (tk V V left p) (wo left p) := by
  rw [PSD.sch nd hp H pos, PSD.out (p := p) fun j _ => sch_row (re_ne (by grind)) j]
  exact (PSD.congr fun i hi j hj => (tk_sch hi)).symm
theorem det_tk {V : Mx} {left : List Nat} {p : Nat} (nd : left.Nodup) (h4 : left.length ≤ 4) (hp : p ∈ left) (ne : V p p ≠ 0) : detJ V left = V p p * detJ (tk V V left p) (wo left p) := by
  obtain ⟨i1, i2, rfl⟩ := List.append_of_mem hp
  have hlen : i1.length + i2.length + 1 ≤ 4 := by simp at h4; omega
  rw [det_sch ne i1 i2 (by omega)]
  have e : wo (i1 ++ p :: i2) p = i1 ++ i2 := out_eq nd
  rw [← e, detJ_congr (m' := tk V V (i1 ++ p :: i2) p) (by rw [e]; simp; omega) fun i hi j hj => (tk_sch hi).symm]
/-- both rows of a step of the second kind -/
def wo2 (left : List Nat) (p q : Nat) : List Nat := left.filter (fun i => decide (i ≠ p ∧ i ≠ q))
def tw (V : Mx) (left : List Nat) (p q : Nat) : Mx :=
  rw1 (rw1 V (fun i => if decide (i ∈ wo2 left p q) then V i p * inv (V q p) else 0) q) (fun i => if decide (i ∈ wo2 left p q) then V i q * inv (V p q) else 0) p
theorem mem_wo2 {left : List Nat} {p q i : Nat} : i ∈ wo2 left p q ↔ i ∈ left ∧ i ≠ p ∧ i ≠ q := by
  unfold wo2; simp [List.mem_filter]
theorem wo2_eq {left : List Nat} {p q : Nat} : wo2 left p q = wo (wo left p) q := by
  unfold wo2 wo
  rw [List.filter_filter]
  exact List.filter_congr fun i _ => by simp [Bool.and_comm]
theorem wo2_len {left : List Nat} {p q : Nat} (nd : left.Nodup) (hp : p ∈ left) (hq : q ∈ left) (hne : p ≠ q) : (wo2 left p q).length + 2 = left.length := by
  have h1 := wo_len nd hp
  have h2 := wo_len (left := wo left p) (p := q) (nd.filter _) (mem_wo.mpr ⟨hq, hne.symm⟩)
  rw [wo2_eq]; omega
theorem tw_left {V : Mx} {left : List Nat} {p q i j : Nat} (hi : i ∈ wo2 left p q) : tw V left p q i j = V i j - V i p * inv (V q p) * V q j - V i q * inv (V p q) * V p j := by
  have hp : p ∉ wo2 left p q := fun z => (mem_wo2.mp z).2.1 rfl
  unfold tw rw1
  simp only [decide_eq_true hi, if_true]
  have : (if decide (p ∈ wo2 left p q) = true then V p p * inv (V q p) else 0) = 0 := by rw [if_neg (by simpa using hp)]
  rw [this]; grind
theorem tw_out {V : Mx} {left : List Nat} {p q i j : Nat} (hi : i ∉ wo2 left p q) : tw V left p q i j = V i j := by
  unfold tw rw1
  have : decide (i ∈ wo2 left p q) = false := by simpa using hi
  simp only [this, Bool.false_eq_true, if_false]; grind
theorem tw_sc2 {V : Mx} {left : List Nat} {p q i j : Nat} (hi : i ∈ wo2 left p q) : tw V left p q i j = N640.sc2 V p q i j := by
  rw [tw_left hi]; rfl
theorem Wk.two {n : Nat} {V W : Mx} {left : List Nat} {p q : Nat} (h : Wk n V W left) (hp : p ∈ left) (hq : q ∈ left) (hne : p ≠ q) (ne : V p q ≠ 0) : Wk n (tw V left p q) W (wo2 left p q) := by
  have hl := wo2_len h.nd hp hq hne
  have hlen := h.len
  have e : n - (wo2 left p q).length = (n - left.length) + 1 + 1 := by omega
  have ne' : V q p ≠ 0 := by rw [h.her p hp q hq]; exact conj_ne ne
  have q1 := h.bv.col2 (h.lt hp) (h.lt hq) (h.lt hp) ne' fun i => decide (i ∈ wo2 left p q)
  have q2 := h.bv.col2 (h.lt hq) (h.lt hp) (h.lt hq) ne fun i => decide (i ∈ wo2 left p q)
  have k0 := kx_ge (n - left.length)
  refine ⟨(List.filter_sublist ..).trans h.sub, fun i hi j hj => ?_, ?_, ?_⟩
  · rw [tw_sc2 hi, tw_sc2 hj]
    exact h.her.sc2 hp hq i (mem_wo2.mp hi).1 j (mem_wo2.mp hj).1
  · rw [e]
    refine ((h.bv.row q1 (h.lt hq)).row q2 (h.lt hp)).mono ?_
    show _ ≤ 3 * (3 * kx (n - left.length) + 4) + 4
    omega
  · rw [e]; exact h.bw.mono (by show _ ≤ 3 * (3 * kx (n - left.length) + 4) + 4; omega)
theorem det_tw {V : Mx} {left : List Nat} {p q : Nat} (nd : left.Nodup) (h4 : left.length ≤ 4) (H : Her V left) (hp : p ∈ left) (hq : q ∈ left) (hne : p ≠ q) (zp : V p p = 0) (zq : V q q = 0) (ne : V p q ≠ 0) :
    detJ V left = -(V p q * V q p) * detJ (tw V left p q) (wo2 left p q) := by
  have ne' : V q p ≠ 0 := by rw [H p hp q hq]; exact conj_ne ne
  have hw : ∀ a b i1 i2 i3, left = i1 ++ a :: (i2 ++ b :: i3) → wo2 left a b = i1 ++ (i2 ++ i3) := by
    rintro a b i1 i2 i3 rfl
    rw [wo2_eq]
    have e1 : wo (i1 ++ a :: (i2 ++ b :: i3)) a = i1 ++ (i2 ++ b :: i3) := out_eq nd
    rw [e1]
    have nd2 : ((i1 ++ i2) ++ b :: i3).Nodup := by
      rw [List.append_assoc]
      exact mid_sub.nodup nd
    have e2 : wo ((i1 ++ i2) ++ b :: i3) b = (i1 ++ i2) ++ i3 := out_eq nd2
    rw [List.append_assoc, List.append_assoc] at e2
    exact e2
  have hc : ∀ J, J = wo2 left p q → J.length ≤ 4 → detJ (N640.sc2 V p q) J = detJ (tw V left p q) (wo2 left p q) := by
    rintro J rfl hJ
    exact detJ_congr hJ fun i hi j hj => (tw_sc2 hi).symm
  rcases two_of hp hq hne with ⟨i1, i2, i3, e⟩ | ⟨i1, i2, i3, e⟩
  · have hlen : i1.length + i2.length + i3.length + 2 ≤ 4 := by rw [e] at h4; simp at h4; omega
    have e2 := hw p q i1 i2 i3 e
    rw [← hc _ e2.symm (by simp; omega)]
    conv => lhs; rw [e]
    exact det_sc2 zp zq ne ne' i1 i2 i3 (by omega)
  · have hlen : i1.length + i2.length + i3.length + 2 ≤ 4 := by rw [e] at h4; simp at h4; omega
    have e2 := hw q p i1 i2 i3 e
    have e3 : wo2 left q p = wo2 left p q := by
      unfold wo2; exact List.filter_congr fun i _ => by simp [Bool.and_comm, and_comm]
    rw [← hc _ (e3 ▸ e2.symm) (by simp; omega)]
    conv => lhs; rw [e]
    rw [det_sc2 zq zp ne' ne i1 i2 i3 (by omega), sc2_sym V q p]; grind
/-! ### weights of the walk -/
structure Wb (n : Nat) (M V W : Mx) (left : List Nat) : Prop extends Wk n V W left where
  lin : ∀ i, i < n → ∀ j, j < n → V i j = sm (List.range n) fun k => W i k * M k j
  wl : ∀ i, i ∈ left → ∀ l, l ∈ left → W i l = if i = l then 1 else 0
  vz : ∀ i, i ∈ left → ∀ l, l < n → l ∉ left → V i l = 0
theorem Wb.take {n : Nat} {M V W : Mx} {left : List Nat} {p : Nat} (h : Wb n M V W left) (hp : p ∈ left) (ne : V p p ≠ 0) : Wb n M (tk V V left p) (tk W V left p) (wo left p) := by
  refine ⟨h.toWk.take hp ne, fun i hi j hj => ?_, fun i hi l hl => ?_, fun i hi l hl hn => ?_⟩
  · show V i j - qcol V (wo left p) p i * V p j = sm (List.range n) fun k => (W i k - qcol V (wo left p) p i * W p k) * M k j
    rw [h.lin i hi j hj, h.lin p (h.lt hp) j hj, ← sm_mulL, ← sm_sub]
    exact sm_congr fun k _ => by grind
  · have e1 := h.wl p hp l (mem_wo.mp hl).1
    rw [if_neg (fun z => (mem_wo.mp hl).2 z.symm)] at e1
    rw [tk_left hi, h.wl i (mem_wo.mp hi).1 l (mem_wo.mp hl).1, e1]; grind
  · rw [tk_left hi]
    by_cases e : l = p
    · subst e
      have := mul_inv ne
      grind
    · have hl' : l ∉ left := fun z => hn (mem_wo.mpr ⟨z, e⟩)
      rw [h.vz i (mem_wo.mp hi).1 l hl hl', h.vz p hp l hl hl']; grind
theorem Wb.pf {n : Nat} {M V W : Mx} {left : List Nat} (h : Wb n M V W left) {i j : Nat} (hi : i ∈ left) (hj : j ∈ left) : pf M (List.range n) (W i) (W j) = V i j := by
  unfold N640.pf
  rw [sm_comm]
  have e : ∀ l, l ∈ List.range n → (sm (List.range n) fun k => W i k * M k l * conj (W j l)) = V i l * conj (W j l) := fun l hl => by
    rw [sm_mulR, h.lin i (h.lt hi) l (by simpa using hl)]
  rw [sm_congr e, sm_one List.nodup_range (p := j) (by simpa using h.lt hj) fun l hl hne => ?_]
  · rw [h.wl j hj j hj, if_pos rfl, conj_one]; grind
  · by_cases hm : l ∈ left
    · rw [h.wl j hj l hm, if_neg (fun z => hne z.symm), conj_zero]; grind
    · rw [h.vz i hi l (by simpa using hl) hm]; grind
theorem pf_linL (m : Mx) (J : List Nat) (c : Gn) (u v w : Nat → Gn) : pf m J (fun k => c * u k + v k) w = c * pf m J u w + pf m J v w := by
  unfold pf
  rw [← sm_mulL, ← sm_add]
  refine sm_congr fun i _ => ?_
  rw [← sm_mulL, ← sm_add]
  exact sm_congr fun j _ => by grind
theorem pf_linR (m : Mx) (J : List Nat) (c : Gn) (u v w : Nat → Gn) : pf m J w (fun k => c * u k + v k) = conj c * pf m J w u + pf m J w v := by
  unfold pf
  rw [← sm_mulL, ← sm_add]
  refine sm_congr fun i _ => ?_
  rw [← sm_mulL, ← sm_add]
  exact sm_congr fun j _ => by rw [conj_add, conj_mul]; grind
/-- the bars that the walk hands out -/
theorem Wb.low {n : Nat} {M V W : Mx} {left : List Nat} (h : Wb n M V W left) {p : Nat} (hp : p ∈ left) (neg : (V p p).re < 0) : (fm M (List.range n) (W p)).re < 0 := by
  rw [show fm M (List.range n) (W p) = _ from h.pf hp hp]; exact neg
theorem Wb.bent {n : Nat} {M V W : Mx} {left : List Nat} (h : Wb n M V W left) {p q : Nat} (hp : p ∈ left) (hq : q ∈ left) (hz : (V p p).re = 0) (ne : V p q ≠ 0) :
    (fm M (List.range n) (fun k => bturn (V p q) (V q q).re * W p k + W q k)).re < 0 := by
  have e : fm M (List.range n) (fun k => bturn (V p q) (V q q).re * W p k + W q k) =
      conj (bturn (V p q) (V q q).re) * (bturn (V p q) (V q q).re * V p p + V q p) + (bturn (V p q) (V q q).re * V p q + V q q) := by
    show N640.pf M (List.range n) (fun k => bturn (V p q) (V q q).re * W p k + W q k) (fun k => bturn (V p q) (V q q).re * W p k + W q k) = _
    rw [pf_linR, pf_linL, pf_linL, h.pf hp hp, h.pf hp hq, h.pf hq hp, h.pf hq hq]
  rw [e, h.her.zero hp hz, h.her p hp q hq]
  obtain ⟨e1, e2⟩ := bturn_re ne (V q q).re
  have a1 : conj (bturn (V p q) (V q q).re) * (bturn (V p q) (V q q).re * 0 + conj (V p q)) = conj (bturn (V p q) (V q q).re) * conj (V p q) := by grind
  rw [a1, add_re, add_re, e1, e2]
  have : -((V q q).re + 1) / 2 + (-((V q q).re + 1) / 2 + (V q q).re) = -1 := by grind
  rw [this]; decide
end N640

set_option maxHeartbeats 4000000
set_option linter.all false
/-! Sums by one bottom; sizes of rationals. -/
namespace N640
open Gn
theorem Qd.mono {k k' n : Nat} {q : Nat → Gn} (h : Qd k n q) (e : k ≤ k') : Qd k' n q := by
  obtain ⟨d, d0, db, h⟩ := h
  exact ⟨d, d0, bn db e, fun i hi => let ⟨a, b, e1, e2, e3⟩ := h i hi; ⟨a, b, e1, bn e2 e, bn e3 e⟩⟩
theorem Bd.row1 {k n : Nat} {X : Mx} (h : Bd k n X) {i : Nat} (hi : i < n) : Qd k n (X i) := by
  obtain ⟨d, d0, db, h⟩ := h
  exact ⟨d, d0, db, fun j hj => h i hi j hj⟩
theorem Qd.conj {k n : Nat} {q : Nat → Gn} (h : Qd k n q) : Qd k n fun i => Gn.conj (q i) := by
  obtain ⟨d, d0, db, h⟩ := h
  refine ⟨d, d0, db, fun i hi => ?_⟩
  obtain ⟨a, b, e1, e2, e3⟩ := h i hi
  exact ⟨a, 0 - b, by show Gn.conj (q i) = _; rw [e1, val_conj], e2, b0 e3⟩
theorem val_same {a b a' b' c : Int} : val a b c + val a' b' c = val (a + a') (b + b') c := by
  apply ext'
  · show (a : Rat) / (c : Rat) + (a' : Rat) / (c : Rat) = ((a + a' : Int) : Rat) / (c : Rat)
    rw [Rat.intCast_add]; grind
  · show (b : Rat) / (c : Rat) + (b' : Rat) / (c : Rat) = ((b + b' : Int) : Rat) / (c : Rat)
    rw [Rat.intCast_add]; grind
theorem val_00 (c : Int) (h : c ≠ 0) : (0 : Gn) = val 0 0 c := ((val_zero h).mpr ⟨rfl, rfl⟩).symm
/-- a sum of products whose factors have one bottom each -/
theorem sum_one {a b : Nat} {c e : Int} (c0 : 0 < c) (e0 : 0 < e) {u r : Nat → Gn} : ∀ xs : List Nat, (∀ i, i ∈ xs → ∃ x y : Int, u i = val x y c ∧ x.natAbs < 2 ^ a ∧ y.natAbs < 2 ^ a) → (∀ i, i ∈ xs → ∃ x y : Int, r i = val x y e ∧ x.natAbs < 2 ^ b ∧ y.natAbs < 2 ^ b) →
    ∃ p q : Int, sm xs (fun i => u i * r i) = val p q (c * e) ∧ p.natAbs ≤ xs.length * 2 ^ (a + b + 1) ∧ q.natAbs ≤ xs.length * 2 ^ (a + b + 1)
  | [], _, _ => ⟨0, 0, val_00 _ (by have := Int.mul_pos c0 e0; omega), by simp, by simp⟩
  | i :: xs, hu, hr => by
    obtain ⟨p, q, e1, e2, e3⟩ := sum_one c0 e0 xs (fun j hj => hu j (List.mem_cons_of_mem _ hj)) fun j hj => hr j (List.mem_cons_of_mem _ hj)
    obtain ⟨x, y, f1, f2, f3⟩ := hu i List.mem_cons_self
    obtain ⟨x', y', g1, g2, g3⟩ := hr i List.mem_cons_self
    have h1 : (x * x' - y * y').natAbs < 2 ^ (a + b + 1) := bs (bm f2 g2 (Nat.le_refl _)) (bm f3 g3 (Nat.le_refl _)) (Nat.le_refl _) (Nat.le_refl _)
    have h2 : (x * y' + y * x').natAbs < 2 ^ (a + b + 1) := ba (bm f2 g3 (Nat.le_refl _)) (bm f3 g2 (Nat.le_refl _)) (Nat.le_refl _) (Nat.le_refl _)
    refine ⟨(x * x' - y * y') + p, (x * y' + y * x') + q, ?_, ?_, ?_⟩
    · show u i * r i + sm xs (fun i => u i * r i) = _
      rw [e1, f1, g1, val_mul (by omega) (by omega), val_same]
    · have := Int.natAbs_add_le (x * x' - y * y') p
      rw [List.length_cons, Nat.succ_mul]; omega
    · have := Int.natAbs_add_le (x * y' + y * x') q
      rw [List.length_cons, Nat.succ_mul]; omega
theorem len_pow {l n k : Nat} (h : l ≤ 8) {p : Int} (hp : p.natAbs ≤ l * 2 ^ k) : p.natAbs < 2 ^ (k + 4) := by
  have h1 : l * 2 ^ k ≤ 8 * 2 ^ k := Nat.mul_le_mul_right _ h
  have h2 := Nat.two_pow_pos k
  rw [Nat.pow_add]
  omega
theorem Qd.psum {a b n : Nat} {u r : Nat → Gn} (hu : Qd a n u) (hr : Qd b n r) (xs : List Nat) (hx : ∀ i, i ∈ xs → i < n) (hl : xs.length ≤ 8) : Sz (a + b + 5) (sm xs fun i => u i * r i) := by
  obtain ⟨c, c0, cb, hu⟩ := hu
  obtain ⟨e, e0, eb, hr⟩ := hr
  obtain ⟨p, q, h1, h2, h3⟩ := sum_one c0 e0 xs (fun i hi => hu i (hx i hi)) fun i hi => hr i (hx i hi)
  refine Sz.of (Int.mul_pos c0 e0) h1.symm ?_ ?_ (bm cb eb (by omega))
  · exact len_pow (n := n) hl h2
  · exact len_pow (n := n) hl h3
/-- sums row by row -/
theorem Bd.rows {k a n : Nat} {m : Mx} {w : Nat → Gn} (h : Bd k n m) (hw : Qd a n w) (n8 : n ≤ 8) : Qd (k + a + 5) n fun i => sm (List.range n) fun j => m i j * w j := by
  obtain ⟨c, c0, cb, h⟩ := h
  obtain ⟨e, e0, eb, hw⟩ := hw
  refine ⟨c * e, Int.mul_pos c0 e0, bm cb eb (by omega), fun i hi => ?_⟩
  obtain ⟨p, q, h1, h2, h3⟩ := sum_one (u := m i) (r := w) c0 e0 (List.range n) (fun j hj => h i hi j (by simpa using hj)) fun j hj => hw j (by simpa using hj)
  have hl : (List.range n).length ≤ 8 := by simpa using n8
  exact ⟨p, q, h1, len_pow (n := n) hl h2, len_pow (n := n) hl h3⟩
/-- a value times a row, and a row more -/
theorem Qd.comb {a b n : Nat} {t : Gn} {u v : Nat → Gn} {c : Int} (ht : Sz a t) (c0 : 0 < c) (cb : c.natAbs < 2 ^ b) (hu : ∀ i, i < n → ∃ x y : Int, u i = val x y c ∧ x.natAbs < 2 ^ b ∧ y.natAbs < 2 ^ b) (hv : ∀ i, i < n → ∃ x y : Int, v i = val x y c ∧ x.natAbs < 2 ^ b ∧ y.natAbs < 2 ^ b) :
    Qd (a + b + 2) n fun i => t * u i + v i := by
  obtain ⟨t1, t2, t3⟩ := ht
  have l0 := gl_pos t
  refine ⟨gl t * c, Int.mul_pos l0 c0, bm t3 cb (by omega), fun i hi => ?_⟩
  obtain ⟨x, y, e1, e2, e3⟩ := hu i hi
  obtain ⟨x', y', f1, f2, f3⟩ := hv i hi
  refine ⟨gp t * x - gs t * y + x' * gl t, gp t * y + gs t * x + y' * gl t, ?_, ?_, ?_⟩
  · show t * u i + v i = _
    have hc : c ≠ 0 := by omega
    have hl : gl t ≠ 0 := by omega
    have ev : val x' y' c = val (x' * gl t) (y' * gl t) (gl t * c) := by rw [Int.mul_comm (gl t) c, val_scale hc hl]
    conv => lhs; rw [← val_g t]
    rw [e1, f1, val_mul hl hc, ev, val_same]
  · exact ba (bs (bm t1 e2 (Nat.le_refl _)) (bm t2 e3 (Nat.le_refl _)) (Nat.le_refl _) (Nat.le_refl _)) (bm f2 t3 (Nat.le_refl _)) (by omega) (by omega)
  · exact ba (ba (bm t1 e3 (Nat.le_refl _)) (bm t2 e2 (Nat.le_refl _)) (Nat.le_refl _) (Nat.le_refl _)) (bm f3 t3 (Nat.le_refl _)) (by omega) (by omega)
end N640

set_option Elab.async false
set_option linter.all false
set_option maxRecDepth 100000
set_option maxHeartbeats 4000000
/-! What stands for what; from a reading to a promise. -/
namespace N640
open PySem PySem.Spec PyProof.Rows L2 Gn
/-! ### Ratios by fdiv -/
theorem ratio_low {a b : Int} (hb : b ≠ 0) : ∃ c : Int, c = (if b < 0 then 0 - ((Nat.gcd a.natAbs b.natAbs : Nat) : Int) else ((Nat.gcd a.natAbs b.natAbs : Nat) : Int)) ∧ c ≠ 0 ∧ c.natAbs ≤ b.natAbs ∧ a.fdiv c = ((a : Rat) / (b : Rat)).num ∧ b.fdiv c = ((a : Rat) / (b : Rat)).den := by
  have gp : 0 < Nat.gcd a.natAbs b.natAbs := Nat.gcd_pos_of_pos_right _ (by omega)
  have hle : Nat.gcd a.natAbs b.natAbs ≤ b.natAbs := Nat.gcd_le_right _ (by omega)
  refine ⟨_, rfl, by split <;> omega, by split <;> omega, ?_⟩
  have d1 : (((Nat.gcd a.natAbs b.natAbs : Nat) : Int)) ∣ a := Int.ofNat_dvd_left.mpr (Nat.gcd_dvd_left _ _)
  have d2 : (((Nat.gcd a.natAbs b.natAbs : Nat) : Int)) ∣ b := Int.ofNat_dvd_left.mpr (Nat.gcd_dvd_right _ _)
  generalize hg : Nat.gcd a.natAbs b.natAbs = g at *
  obtain ⟨x, rfl⟩ := d1
  obtain ⟨y, rfl⟩ := d2
  have hy : y ≠ 0 := fun e => hb (by rw [e, Int.mul_zero])
  have g1 : Nat.gcd x.natAbs y.natAbs = 1 := by
    rw [Int.natAbs_mul, Int.natAbs_mul, Int.natAbs_natCast, Nat.gcd_mul_left] at hg
    exact Nat.eq_of_mul_eq_mul_left gp (by rw [hg, Nat.mul_one])
  have hq : ∀ n d : Int, 0 < d → Nat.gcd n.natAbs d.natAbs = 1 → (n : Rat) / (d : Rat) = (((g : Int) * x : Int) : Rat) / (((g : Int) * y : Int) : Rat) → n = ((((g : Int) * x : Int) : Rat) / (((g : Int) * y : Int) : Rat)).num ∧ d = (((((g : Int) * x : Int) : Rat) / (((g : Int) * y : Int) : Rat)).den : Int) := by
    intro n d hd hn e
    have hc : Can n 0 d := ⟨hd, by rw [hn]; rfl⟩
    have e2 : val n 0 d = ofR ((((g : Int) * x : Int) : Rat) / (((g : Int) * y : Int) : Rat)) := by
      apply ext'
      · exact e
      · show ((0 : Int) : Rat) / _ = 0
        rw [show ((0 : Int) : Rat) = 0 from rfl]; grind
    obtain ⟨h1, h2, h3⟩ := g_of hc e2
    obtain ⟨k1, k2, k3⟩ := g_rat ((((g : Int) * x : Int) : Rat) / (((g : Int) * y : Int) : Rat))
    exact ⟨h1.trans k1, h3.trans k3⟩
  have hgr : ((g : Int) : Rat) ≠ 0 := cne (by omega)
  have hyr : (y : Rat) ≠ 0 := cne hy
  by_cases hn : (g : Int) * y < 0
  · have hy0 : y < 0 := by
      rcases Int.lt_or_le y 0 with q | q
      · exact q
      · have := Int.mul_nonneg (show (0 : Int) ≤ g by omega) q; omega
    rw [if_pos hn, Int.zero_sub]
    have f : ∀ z : Int, ((g : Int) * z).fdiv (-(g : Int)) = -z := fun z => by
      rw [show (g : Int) * z = (-z) * (-(g : Int)) by grind]
      exact Int.mul_fdiv_cancel _ (by omega)
    rw [f x, f y]
    refine hq (-x) (-y) (by omega) (by rw [Int.natAbs_neg, Int.natAbs_neg]; exact g1) ?_
    rw [Rat.intCast_mul, Rat.intCast_mul, Rat.intCast_neg, Rat.intCast_neg]
    grind
  · have hy0 : 0 < y := by
      rcases Int.lt_or_le 0 y with q | q
      · exact q
      · have := Int.mul_nonpos_of_nonneg_of_nonpos (show (0 : Int) ≤ g by omega) q
        have : (g : Int) * y = 0 := by omega
        rcases Int.mul_eq_zero.mp this with q | q <;> omega
    rw [if_neg hn]
    have f : ∀ z : Int, ((g : Int) * z).fdiv (g : Int) = z := fun z => by
      rw [Int.mul_comm]
      exact Int.mul_fdiv_cancel _ (by omega)
    rw [f x, f y]
    refine hq x y hy0 g1 ?_
    rw [Rat.intCast_mul, Rat.intCast_mul]
    grind
/-! ### objects -/
def FR (q : Rat) : List (Str × V) := [("own_top", .int q.num), ("own_bottom", .int q.den)]
def FT (z : Gn) : List (Str × V) := [("own_plain", .int (gp z)), ("own_side", .int (gs z)), ("own_low", .int (gl z))]
def FP (a b c : Int) : List (Str × V) := [("own_left", .int a), ("own_right", .int b), ("own_below", .int c)]
def TI0 (C : Addr) (fs : List (Str × V)) : Prd := fun v G => ∃ a dx, v = .ref a ∧ G a = some (.ins C dx fs)
instance {C : Addr} {fs : List (Str × V)} : Mono (TI0 C fs) := ⟨fun e ⟨a, dx, h1, h2⟩ => ⟨a, dx, h1, e _ _ h2⟩⟩
abbrev TRt (q : Rat) : Prd := TI0 N640.CR (FR q)
abbrev TTw (z : Gn) : Prd := TI0 N640.CT (FT z)
abbrev TPa (a b c : Int) : Prd := TI0 N640.CP (FP a b c)
/-- an int or a Ratio -/
def TRi (q : Rat) : Prd := fun v G => TRt q v G ∨ ∃ i : Int, v = .int i ∧ q = (i : Rat)
instance {q : Rat} : Mono (TRi q) := ⟨fun e h => h.imp (Mono.mono e) id⟩
/-- an int, a Ratio or a Twin -/
def TVal (z : Gn) : Prd := fun v G => TTw z v G ∨ ∃ q : Rat, TRi q v G ∧ z = ofR q
instance {z : Gn} : Mono (TVal z) := ⟨fun e h => h.imp (Mono.mono e) fun ⟨q, h, e2⟩ => ⟨q, Mono.mono e h, e2⟩⟩
/-- a number of the law's own -/
abbrev TNum (z : Gn) : Prd := TTr (TZ (gp z)) (TZ (gs z)) (TZ (gl z))
theorem TI0.isI {C : Addr} {fs : List (Str × V)} : ∀ v G, TI0 C fs v G → IsI C v G := fun v G ⟨a, dx, h1, h2⟩ => ⟨a, dx, fs, h1, h2⟩
section
variable {α : Type} {mu : Mu} {σ : L2.St} {G G' H : Hp} {ta tb te : TE} {P P1 P2 : Prd} {K : PySem.W.Frag}
theorem evp_fI {C : Addr} {fs : List (Str × V)} {f : Str} {x : V} (c : Cls K C) (n : NoAttr K C f) (hl : fs.lookup f = some x) (h : EvP mu ta σ G (TI0 C fs)) : EvP mu (tFld K ta f) σ G (TIs x) :=
  fun G1 H e a Q q => h G1 H e a _ fun v G2 H2 s2 ⟨b, dx, e1, e2⟩ => ⟨b, C, dx, fs, x, e1, (a.stp s2).ex _ _ e2, c, n, hl, q x G2 H2 s2 rfl⟩
variable (T : Tx K)
include T
theorem evp_top {q : Rat} (h : EvP mu ta σ G (TRt q)) : EvP mu (tFld K ta "own_top") σ G (TZ q.num) := evp_fI (bCls_ok T.clsR) (He.eqO_ok T.no_own_top) rfl h
theorem evp_bot {q : Rat} (h : EvP mu ta σ G (TRt q)) : EvP mu (tFld K ta "own_bottom") σ G (TZ q.den) := evp_fI (bCls_ok T.clsR) (He.eqO_ok T.no_own_bottom) rfl h
theorem evp_pl {z : Gn} (h : EvP mu ta σ G (TTw z)) : EvP mu (tFld K ta "own_plain") σ G (TZ (gp z)) := evp_fI (bCls_ok T.clsT) (He.eqO_ok T.no_own_plain) rfl h
theorem evp_si {z : Gn} (h : EvP mu ta σ G (TTw z)) : EvP mu (tFld K ta "own_side") σ G (TZ (gs z)) := evp_fI (bCls_ok T.clsT) (He.eqO_ok T.no_own_side) rfl h
theorem evp_lo {z : Gn} (h : EvP mu ta σ G (TTw z)) : EvP mu (tFld K ta "own_low") σ G (TZ (gl z)) := evp_fI (bCls_ok T.clsT) (He.eqO_ok T.no_own_low) rfl h
theorem evp_p1 {a b c : Int} (h : EvP mu ta σ G (TPa a b c)) : EvP mu (tFld K ta "own_left") σ G (TZ a) := evp_fI (bCls_ok T.clsP) (He.eqO_ok T.no_own_left) rfl h
theorem evp_p2 {a b c : Int} (h : EvP mu ta σ G (TPa a b c)) : EvP mu (tFld K ta "own_right") σ G (TZ b) := evp_fI (bCls_ok T.clsP) (He.eqO_ok T.no_own_right) rfl h
theorem evp_p3 {a b c : Int} (h : EvP mu ta σ G (TPa a b c)) : EvP mu (tFld K ta "own_below") σ G (TZ c) := evp_fI (bCls_ok T.clsP) (He.eqO_ok T.no_own_below) rfl h
/-! isinstance -/
inductive Kd where | int | rat | twin | part | list | tup
def Kd.ty : Kd → Value
  | .int => .type "int" | .rat => .ref N640.CR | .twin => .ref N640.CT | .part => .ref N640.CP | .list => .type "list" | .tup => .type "tuple"
def IsK (k : Kd) (v : V) (G : Hp) : Prop := match k with
  | .int => ∃ i, v = .int i
  | .rat => IsI N640.CR v G
  | .twin => IsI N640.CT v G
  | .part => IsI N640.CP v G
  | .list => ∃ a vs, v = .ref a ∧ G a = some (.lst vs)
  | .tup => ∃ a vs, v = .ref a ∧ G a = some (.tup vs)
theorem insF {C : Addr} (h : bIns K C = true) : PySem.W.findIn K (.ref C) "__class__" = some (some (.builtin "object.__class__")) ∧ PySem.W.mroIn K C (.type "object") = some true ∧ PySem.W.selfFirst K C = true := by
  obtain ⟨a, h⟩ := bb h
  obtain ⟨b, c⟩ := bb h
  exact ⟨He.eqO_ok a, of_decide_eq_true b, c⟩
theorem tyI {C : Addr} {v : V} (c : bCls K C = true) (i : bIns K C = true) (h : IsI C v G) (hA : Ex G H) : TyX K H v (.ref C) := by
  obtain ⟨a, dx, fs, rfl, g⟩ := h
  obtain ⟨h1, h2, _⟩ := insF T i
  exact .base (.ins (hA _ _ g) (bCls_ok c) h1 (He.eqO_ok T.oc1) (of_decide_eq_true T.oc2) h2)
theorem ty_of {k : Kd} {v : V} (h : IsK k v G) (hA : Ex G H) : TyX K H v k.ty := by
  cases k with
  | int => obtain ⟨i, rfl⟩ := h; exact .base (.int i)
  | rat => exact tyI T T.clsR T.insR h hA
  | twin => exact tyI T T.clsT T.insT h hA
  | part => exact tyI T T.clsP T.insP h hA
  | list => obtain ⟨a, vs, rfl, g⟩ := h; exact .base (.lst (hA _ _ g))
  | tup => obtain ⟨a, vs, rfl, g⟩ := h; exact .base (.tup (hA _ _ g))
/-- isinstance by the kinds a value may have -/
theorem evp_isi {c : V} {u : Value} {b : Bool} [m : Mono P] (h : EvP mu ta σ G P) (k : ClsV c u) (hk : ∀ v G1, Ex G G1 → P v G1 → ∃ kd, IsK kd v G1 ∧ PySem.W.kitOne K kd.ty u = some b) : EvP mu (tCB (rIsi K) (tCons ta (tCons (tC c) tNil))) σ G (TB b) :=
  evp_tcb (eva_2 h (evp_c (v := c))) fun vs G1 e ⟨v, w, ev, p, ew⟩ => by
    cases ew
    obtain ⟨kd, h1, h2⟩ := hk v G1 e p
    exact RvP.pure (v := .bl b) (fun Q H hA q => ⟨v, c, kd.ty, u, b, ev, k, ty_of T h1 hA.ex, h2, q⟩) rfl
/-- .. of a pair of classes -/
theorem evp_isi2 {c d : V} {u u2 : Value} {b b2 : Bool} [m : Mono P] (h : EvP mu ta σ G P) (k : ClsV c u) (k2 : ClsV d u2) (hk : ∀ v G1, Ex G G1 → P v G1 → ∃ kd, IsK kd v G1 ∧ PySem.W.kitOne K kd.ty u = some b ∧ PySem.W.kitOne K kd.ty u2 = some b2) :
    EvP mu (tCB (rIsiT K) (tCons ta (tCons (tTup (tCons (tC c) (tCons (tC d) tNil))) tNil))) σ G (TB (b || b2)) :=
  evp_tcb (eva_2 h (evp_tup2 (evp_c (v := c)) (evp_c (v := d)))) fun vs G1 e ⟨v, w, ev, p, a, x, y, ew, g, ex, ey⟩ => by
    cases ex
    cases ey
    subst ew
    obtain ⟨kd, h1, h2, h3⟩ := hk v G1 e p
    exact RvP.pure (v := .bl (b || b2)) (fun Q H hA q => ⟨v, a, [c, d], kd.ty, [u, u2], b || b2, ev, hA.ex _ _ g, .cons k (.cons k2 .nil), ty_of T h1 hA.ex,
      kitAny_cons h2 (fun e => by rw [e, Bool.false_or]; exact kitAny_cons h3 (fun e => by rw [e]; exact kitAny_nil) (fun e => e)) (fun e => by rw [e]; rfl), q⟩) rfl
end
/-! ### promises from readings -/
/-- x: what the arguments stand for -/
def pR {τ : Type} (A : τ → List V → Hp → Prop) (B : τ → Prd) : Rq := fun mu vs G P => ∃ x, A x vs G ∧ ∀ v G', Ex G G' → B x v G' → P v G'
def pI {τ : Type} (A : τ → List V → Hp → Prop) (F : τ → List (Str × V)) : RqI := fun mu vs G P => ∃ x, A x vs G ∧ ∀ G', Ex G G' → P (F x) G'
/-- a pure def's reading -/
def SemP {τ : Type} (t : TS) (N : List Str) (A : τ → List V → Hp → Prop) (B : τ → Prd) : Prop :=
  ∀ (mu : Mu) (x : τ) (vs : List V) (G H : Hp), At mu G H → A x vs G → ∀ D : Ends, (∀ v G' H', Stp mu G H G' H' → B x v G' → D.rt v H') → t D (start N vs) H
section
variable {P : Program} {w : World} {K : PySem.W.Frag} {mg : Str → Option Value} {base : Heap} {j : Nat} {N ps : List Str} {d : Df} {R : Rq} {t : TS} {x : Str}
def Der (P : Program) (w : World) (K : PySem.W.Frag) (mg : Str → Option Value) (base : Heap) (j : Nat) (N : List Str) (d : Df) (t : TS) : Prop :=
  ∀ (cdv : Value) (A : Around) (outer : List Env) (s : Shared) (H : Hp) (E : XK), Room (j + 1) (A.deeper (envOfC d.ql (defScope d.st) s.heap.objs.size d.ad cdv)) →
    PSs (cxOf CX0 P w K mg base N d.ql (defScope d.st) d.ad cdv A outer s H E).nox (defBody d.st) t
def BindA (d : Df) (ps : List Str) : Prop := ∀ (kV doc pm : Value) (an : Option Addr) (cdv ct : Value) (us : List Value), us.length = ps.length →
  bindArgs (PySem.W.fnOf d.nm d.ql (defArgs d.st) (defBody d.st) (defScope d.st) .none kV doc pm an cdv ct) ⟨us, []⟩ = pure (ps.zip us)
abbrev FnF (K : PySem.W.Frag) (d : Df) : Prop := (∃ fd, FnD K d fd) ∧ PySem.W.isFn K (.ref d.ad) = true ∧ PySem.W.keepIn K (.ref d.ad) = true
/-- the reading meets the promise -/
def Meets (t : TS) (N : List Str) (R : Rq) : Prop := ∀ (mu : Mu) (vs : List V) (G H : Hp) (P : Prd), At mu G H → R mu vs G P → ∀ Q : VK, (∀ (v : V) (G' H' : Hp), Stp mu G H G' H' → P v G' → Q v H') → t { nx := fun _ H' => Q .non H', rt := Q } (start N vs) H
theorem SemP.meets {τ : Type} {A : τ → List V → Hp → Prop} {B : τ → Prd} (h : SemP t N A B) : Meets t N (pR A B) := fun mu vs G H P hA ⟨x, a, b⟩ Q q =>
  h mu x vs G H hA a _ fun v G' H' s p => q v G' H' s (b v G' s.gg p)
theorem fn_ok {fd : FuncData} (F : FnD K d fd) (S : FnScope N ps (defScope d.st)) (hl : ∀ mu vs G P, R mu vs G P → vs.length = ps.length) (der : Der P w K mg base j N d t) (m : Meets t N R) : FnOk P w K mg base CX0 (j + 2) d.ad fd ps (spP R) := by
  refine F.ok S (fun vs H Q E ⟨mu, G, P, _, r, _⟩ => hl mu vs G P r) fun cdv A outer s H vs Q E hr ⟨mu, G, P, hA, r, q⟩ => ⟨t, (der cdv A outer s H E hr).nox, m mu vs G H P hA r Q q⟩
theorem cal_of (C : Cxt K mg) (F : FnF K d) (g : bGlo K x d.ad = true) (b : d.ds = [] ∧ BindA d ps) (S : FnScope N ps (defScope d.st)) (hl : ∀ mu vs G P, R mu vs G P → vs.length = ps.length) (der : Der P w K mg base j N d t) (m : Meets t N R) : C8.Cal P w K mg base (j + 2) x (spP R) [] := by
  obtain ⟨⟨fd, F1⟩, F2, F3⟩ := F
  have F1' : FunD K d.nm d.ql (defArgs d.st) (defBody d.st) (defScope d.st) [] [] d.ad fd := b.1 ▸ F1
  exact ⟨d.ad, fd, ps, [], fn_ok F1 S hl der m, C.r g, F3, F1'.bindsN b.2, .nil⟩
theorem met_of {Cl : Addr} {mm : Str} (C : Cxt K mg) (F : FnF K d) (c : bCls K Cl = true) (g : bAt K Cl mm d.ad = true) (b : d.ds = [] ∧ BindA d ps) (S : FnScope N ps (defScope d.st)) (hl : ∀ mu vs G P, R mu vs G P → vs.length = ps.length) (der : Der P w K mg base j N d t) (m : Meets t N R) : C8.Met P w K mg base (j + 2) Cl mm (spP R) [] := by
  obtain ⟨⟨fd, F1⟩, F2, F3⟩ := F
  have F1' : FunD K d.nm d.ql (defArgs d.st) (defBody d.st) (defScope d.st) [] [] d.ad fd := b.1 ▸ F1
  exact ⟨d.ad, fd, ps, [], bCls_ok c, ⟨He.eqO_ok g, F2, F3⟩, fn_ok F1 S hl der m, F1'.bindsN b.2, .nil⟩
theorem prp_of {Cl q : Addr} {f : Str} (C : Cxt K mg) (F : FnF K d) (c : bCls K Cl = true) (g : bProp K Cl f q d.ad = true) (b : d.ds = [] ∧ BindA d ps) (S : FnScope N ps (defScope d.st)) (hl : ∀ mu vs G P, R mu vs G P → vs.length = ps.length) (der : Der P w K mg base j N d t) (m : Meets t N R) : Prp P w K mg base (j + 2) Cl f (spP R) := by
  obtain ⟨⟨fd, F1⟩, F2, F3⟩ := F
  have F1' : FunD K d.nm d.ql (defArgs d.st) (defBody d.st) (defScope d.st) [] [] d.ad fd := b.1 ▸ F1
  exact ⟨⟨q, d.ad, fd, ps, bCls_ok c, bProp_ok g, fn_ok F1 S hl der m, F1'.bindsN b.2⟩⟩
theorem own_of {Cl : Addr} {op : Operator} {ar : Addr} (C : Cxt K mg) (F : FnF K d) (i : bIns K Cl = true) (g : bAt K Cl (PySem.dunder op.info.2) d.ad = true) (gr : bAt K Cl (dunderR op.info.2) ar = true) (b : d.ds = [] ∧ BindA d ps) (S : FnScope N ps (defScope d.st)) (hl : ∀ mu vs G P, R mu vs G P → vs.length = ps.length) (der : Der P w K mg base j N d t) (m : Meets t N R) : OwnB P w K mg base (j + 2) Cl op (spP R) := by
  obtain ⟨⟨fd, F1⟩, F2, F3⟩ := F
  have F1' : FunD K d.nm d.ql (defArgs d.st) (defBody d.st) (defScope d.st) [] [] d.ad fd := b.1 ▸ F1
  exact ⟨⟨d.ad, fd, ps, He.eqO_ok g, F2, fn_ok F1 S hl der m, F1'.bindsN b.2⟩, ⟨ar, He.eqO_ok gr⟩, (insF C.T i).2.2⟩
theorem ne_of' {Cl : Addr} (C : Cxt K mg) (F : FnF K d) (i : bIns K Cl = true) (g : bAt K Cl "__eq__" d.ad = true) (n : He.eqO (PySem.W.findIn K (.ref Cl) "__ne__") (some (some (.builtin "object.__ne__"))) = true) (b : d.ds = [] ∧ BindA d ps) (S : FnScope N ps (defScope d.st)) (hl : ∀ mu vs G P, R mu vs G P → vs.length = ps.length) (der : Der P w K mg base j N d t) (m : Meets t N R) : NeB P w K mg base (j + 2) Cl (spP R) := by
  obtain ⟨⟨fd, F1⟩, F2, F3⟩ := F
  have F1' : FunD K d.nm d.ql (defArgs d.st) (defBody d.st) (defScope d.st) [] [] d.ad fd := b.1 ▸ F1
  exact ⟨⟨d.ad, fd, ps, fn_ok F1 S hl der m, F1'.bindsN b.2, He.eqO_ok g, F2, He.eqO_ok n, (insF C.T i).2.1⟩⟩
/-- an __init__ -/
def MeetsI (t : TS) (N : List Str) (Cl : Addr) (R : RqI) : Prop := ∀ (mu : Mu) (G H : Hp) (P : List (Str × V) → Hp → Prop) (a dx : Addr) (us : List V), At mu G H → G a = none → ¬ mu.mt a → H a = some (.ins Cl dx []) → R mu us G P →
  ∀ D : Ends, (∀ (σ : L2.St) (fs : List (Str × V)) (G' H' : Hp), Rel (fun b => mu.mt b ∨ b = a) G H G' H' → mu.inv H' → H' a = some (.ins Cl dx fs) → P fs G' → D.nx σ H') → t D (start N (.ref a :: us)) H
theorem fn_init {Cl : Addr} {fd : FuncData} {R : RqI} (F : FnD K d fd) (S : FnScope N ps (defScope d.st)) (hl : ∀ mu vs G P, R mu vs G P → (vs.length + 1) = ps.length) (der : Der P w K mg base j N d t) (m : MeetsI t N Cl R) : FnOk P w K mg base CX0 (j + 2) d.ad fd ps (spI Cl R) := by
  refine F.ok S (fun vs H Q E ⟨mu, G, P, a, dx, us, e, _, _, _, _, r, _⟩ => by rw [e]; exact hl mu us G P r) fun cdv A outer s H vs Q E hr ⟨mu, G, P, a, dx, us, e, hA, g, nm, ha, r, q⟩ => ⟨t, (der cdv A outer s H E hr).nox, ?_⟩
  subst e
  exact m mu G H P a dx us hA g nm ha r _ fun σ fs G' H' rl iv hx p => q fs G' H' rl iv hx p
theorem mak_of {Cl : Addr} {R : RqI} {dvs : List V} (C : Cxt K mg) (F : FnF K d) (mk : PySem.W.makesIn K Cl = true) (kp : PySem.W.keepIn K (.ref Cl) = true) (gl : bGlo K x Cl = true) (g : bAt K Cl "__init__" d.ad = true) (S : FnScope N ps (defScope d.st))
    (b : ∀ fd, FnD K d fd → ∃ ds, Vals dvs ds ∧ Binds K fd ps ds) (hl : ∀ mu vs G P, R mu vs G P → (vs.length + 1) = ps.length) (der : Der P w K mg base j N d t) (m : MeetsI t N Cl R) : C8.Mak P w K mg base (j + 2) x Cl (spI Cl R) dvs := by
  obtain ⟨⟨fd, F1⟩, F2, F3⟩ := F
  obtain ⟨ds, h1, h2⟩ := b fd F1
  exact ⟨d.ad, fd, ps, ds, ⟨mk, He.eqO_ok g, F2, kp⟩, fn_init F1 S hl der m, C.r gl, h2, h1⟩
end
end N640

set_option Elab.async false
set_option linter.all false
set_option maxRecDepth 100000
set_option maxHeartbeats 4000000
namespace N640
open PySem PySem.Spec PyProof.Rows L2 Gn
section
variable {α τ : Type} {mu : Mu} {σ : L2.St} {G G' H : Hp} {ta tb tc te : TE} {t : TT} {P P1 P2 P3 : Prd} {K : PySem.W.Frag} {D : Ends} {tu tw : TS} {A : τ → List V → Hp → Prop} {B : τ → Prd} {x : τ}
theorem siff (a : At mu G H) (h : EvT mu t σ G (· = false)) (h2 : ∀ G' H', Stp mu G H G' H' → tw D σ H') : tIfS t tu tw D σ H := sif a h (fun _ _ _ z => nomatch z) fun G' H' s _ => h2 G' H' s
theorem sift (a : At mu G H) (h : EvT mu t σ G (· = true)) (h2 : ∀ G' H', Stp mu G H G' H' → tu D σ H') : tIfS t tu tw D σ H := sif a h (fun G' H' s _ => h2 G' H' s) fun _ _ _ z => nomatch z
theorem sifb {b : Bool} (a : At mu G H) (h : EvT mu t σ G (· = b)) (h1 : b = true → ∀ G' H', Stp mu G H G' H' → tu D σ H') (h2 : b = false → ∀ G' H', Stp mu G H G' H' → tw D σ H') : tIfS t tu tw D σ H := sif a h (fun G' H' s e => h1 e.symm G' H' s) fun G' H' s e => h2 e.symm G' H' s
theorem sasg2 {A B : Prd} {i j : Nat} (a : At mu G H) (h : EvP mu te σ G (TPr A B)) (k : ∀ x y G' H', Stp mu G H G' H' → A x G' → B y G' → D.nx ((σ.set i (some x)).set j (some y)) H') : tAsg te (gTup K 2 (gCons (gName i) (gCons (gName j) gNil))) D σ H :=
  h G H Ex.rfl' a _ fun v G' H' s ⟨p, x, y, e, g, h1, h2⟩ => ⟨p, [x, y], e, sqt_at (a.stp s) g, rfl, x, [y], rfl, y, [], rfl, rfl, k x y G' H' s h1 h2⟩
theorem sasg3 {A B C : Prd} {i j l : Nat} (a : At mu G H) (h : EvP mu te σ G (TTr A B C)) (k : ∀ x y z G' H', Stp mu G H G' H' → A x G' → B y G' → C z G' → D.nx (((σ.set i (some x)).set j (some y)).set l (some z)) H') : tAsg te (gTup K 3 (gCons (gName i) (gCons (gName j) (gCons (gName l) gNil)))) D σ H :=
  h G H Ex.rfl' a _ fun v G' H' s ⟨p, x, y, z, e, g, h1, h2, h3⟩ => ⟨p, [x, y, z], e, sqt_at (a.stp s) g, rfl, x, [y, z], rfl, y, [z], rfl, z, [], rfl, rfl, k x y z G' H' s h1 h2 h3⟩
/-! calls of pure promises -/
theorem evp_c0 (k : ∀ G1, Ex G G1 → A x [] G1) : EvP mu (tCall (spP (pR A B)) [] E0 tNil) σ G (B x) :=
  evp_call (PA := fun vs _ => vs = []) eva_nil fun vs G1 e p => ⟨x, by rw [p]; exact k G1 e, fun v G' _ b => b⟩
theorem evp_c1 [Mono P1] (h : EvP mu ta σ G P1) (k : ∀ v G1, Ex G G1 → P1 v G1 → A x [v] G1) : EvP mu (tCall (spP (pR A B)) [] E0 (tCons ta tNil)) σ G (B x) :=
  evp_call (eva_1 h) fun vs G1 e ⟨v, ev, p⟩ => ⟨x, by rw [ev]; exact k v G1 e p, fun v G' _ b => b⟩
theorem evp_c2 [Mono P1] [Mono P2] (h : EvP mu ta σ G P1) (h2 : EvP mu tb σ G P2) (k : ∀ v u G1, Ex G G1 → P1 v G1 → P2 u G1 → A x [v, u] G1) : EvP mu (tCall (spP (pR A B)) [] E0 (tCons ta (tCons tb tNil))) σ G (B x) :=
  evp_call (eva_2 h h2) fun vs G1 e ⟨v, u, ev, p, q⟩ => ⟨x, by rw [ev]; exact k v u G1 e p q, fun v G' _ b => b⟩
theorem evp_c3 [Mono P1] [Mono P2] [Mono P3] (h : EvP mu ta σ G P1) (h2 : EvP mu tb σ G P2) (h3 : EvP mu tc σ G P3) (k : ∀ v u w G1, Ex G G1 → P1 v G1 → P2 u G1 → P3 w G1 → A x [v, u, w] G1) : EvP mu (tCall (spP (pR A B)) [] E0 (tCons ta (tCons tb (tCons tc tNil)))) σ G (B x) :=
  evp_call (eva_3 h h2 h3) fun vs G1 e ⟨v, u, w, ev, p, q, r⟩ => ⟨x, by rw [ev]; exact k v u w G1 e p q r, fun v G' _ b => b⟩
/-- a call whose arguments are exact -/
theorem evp_cX {tr : TA} {vs : List V} (h : EvA mu tr σ G (fun us _ => us = vs)) (k : ∀ G1, Ex G G1 → A x vs G1) : EvP mu (tCall (spP (pR A B)) [] E0 tr) σ G (B x) :=
  evp_call h fun us G1 e p => ⟨x, by rw [p, List.append_nil]; exact k G1 e, fun v G' _ b => b⟩
/-! methods of objects that stand still, properties -/
theorem evp_m0 {C : Addr} {fs : List (Str × V)} {m : Str} (h : EvP mu ta σ G (TI0 C fs)) (hm : fs.lookup m = none) (k : ∀ v G1, Ex G G1 → TI0 C fs v G1 → A x [v] G1) : EvP mu (tMeth C m (spP (pR A B)) [] E0 ta tNil) σ G (B x) :=
  evp_meth (PA := fun vs _ => vs = []) h (fun v G1 _ ⟨a, dx, e1, e2⟩ H hA => ⟨a, dx, fs, e1, hA.ex _ _ e2, hm⟩) eva_nil fun v vs G1 e p pv => ⟨x, by rw [pv]; exact k v G1 e p, fun v G' _ b => b⟩
theorem evp_m1 {C : Addr} {fs : List (Str × V)} {m : Str} [Mono P1] (h : EvP mu ta σ G (TI0 C fs)) (hm : fs.lookup m = none) (h1 : EvP mu tb σ G P1) (k : ∀ v u G1, Ex G G1 → TI0 C fs v G1 → P1 u G1 → A x [v, u] G1) : EvP mu (tMeth C m (spP (pR A B)) [] E0 ta (tCons tb tNil)) σ G (B x) :=
  evp_meth h (fun v G1 _ ⟨a, dx, e1, e2⟩ H hA => ⟨a, dx, fs, e1, hA.ex _ _ e2, hm⟩) (eva_1 h1) fun v vs G1 e p ⟨u, pv, q⟩ => ⟨x, by rw [pv]; exact k v u G1 e p q, fun v G' _ b => b⟩
theorem evp_pr {C : Addr} {fs : List (Str × V)} (h : EvP mu ta σ G (TI0 C fs)) (k : ∀ v G1, Ex G G1 → TI0 C fs v G1 → A x [v] G1) : EvP mu (tProp C (spP (pR A B)) [] E0 ta) σ G (B x) :=
  evp_prop h (fun v G1 _ ⟨a, dx, e1, e2⟩ H hA => ⟨a, dx, fs, e1, hA.ex _ _ e2⟩) fun v G1 e p => ⟨x, k v G1 e p, fun v G' _ b => b⟩
/-- a new object -/
theorem evp_mk {C : Addr} {Fs : τ → List (Str × V)} {dvs : List V} {tr : TA} {PA : List V → Hp → Prop} (h : EvA mu tr σ G PA) (k : ∀ vs G1, Ex G G1 → PA vs G1 → A x (vs ++ dvs) G1) : EvP mu (tMake C (spI C (pI A Fs)) dvs E0 tr) σ G (TI0 C (Fs x)) :=
  evp_make (Pf := fun fs _ => fs = Fs x) h (fun vs G1 e p => ⟨x, k vs G1 e p, fun _ _ => rfl⟩) fun a dx fs G1 G2 _ _ g e => ⟨a, dx, rfl, e ▸ g⟩
/-! the own binary operators -/
theorem evp_bin {C E : Addr} {fs gs : List (Str × V)} (ha : EvP mu ta σ G (TI0 C fs)) (hb : EvP mu tb σ G (TI0 E gs)) (k : ∀ v u G1, Ex G G1 → TI0 C fs v G1 → TI0 E gs u G1 → A x [v, u] G1) : EvP mu (tOp (rOwn C E (spP (pR A B))) ta tb) σ G (B x) :=
  evp_own ha hb TI0.isI TI0.isI fun v u G1 e p q => ⟨x, k v u G1 e p q, fun v G' _ b => b⟩
/-! exact ints -/
theorem evp_add {i j : Int} (ha : EvP mu ta σ G (TZ i)) (hb : EvP mu tb σ G (TZ j)) : EvP mu (tOp rAddI ta tb) σ G (TZ (i + j)) := evp_I0 ha hb
theorem evp_sub {i j : Int} (ha : EvP mu ta σ G (TZ i)) (hb : EvP mu tb σ G (TZ j)) : EvP mu (tOp rSubI ta tb) σ G (TZ (i - j)) := evp_I0 ha hb
theorem evp_mul {i j : Int} {a b : Nat} (ha : EvP mu ta σ G (TZ i)) (hb : EvP mu tb σ G (TZ j)) (h1 : i.natAbs < 2 ^ a) (h2 : j.natAbs < 2 ^ b) (h0 : 0 < a := by decide) (h00 : 0 < b := by decide) (h3 : a + b ≤ 1000000 := by decide) : EvP mu (tOp rMulW ta tb) σ G (TZ (i * j)) :=
  evp_I ha hb (wide_mul h1 h2 h0 h00 h3)
theorem evp_div {i j : Int} {b : Nat} (ha : EvP mu ta σ G (TZ i)) (hb : EvP mu tb σ G (TZ j)) (h : 0 < j) (h2 : j.natAbs < 2 ^ b) (h0 : 0 < b := by decide) (h3 : b ≤ 9000 := by decide) : EvP mu (tOp rFdivW ta tb) σ G (TZ (i / j)) :=
  evp_I ha hb (wide_div h h2 h0 h3)
theorem evp_divS {i j : Int} {b : Nat} (ha : EvP mu ta σ G (TZ i)) (hb : EvP mu tb σ G (TZ j)) (h : j ≠ 0) (h2 : j.natAbs < 2 ^ b) (h0 : 0 < b := by decide) (h3 : b ≤ 9000 := by decide) : EvP mu (tOp rFdivS ta tb) σ G (TZ (i.fdiv j)) :=
  evp_I ha hb ⟨h, Nat.lt_of_lt_of_le (PySem.Flt.log2_lt_of h0 h2) h3⟩
theorem evp_mod {i j : Int} (ha : EvP mu ta σ G (TZ i)) (hb : EvP mu tb σ G (TZ j)) (h : 0 < j) : EvP mu (tOp rModI ta tb) σ G (TZ (i % j)) := evp_I ha hb h
theorem evp_lt {i j : Int} (ha : EvP mu ta σ G (TZ i)) (hb : EvP mu tb σ G (TZ j)) : EvP mu (tOp rLtI ta tb) σ G (TB (decide (i < j))) := evp_I0 ha hb
theorem evp_le {i j : Int} (ha : EvP mu ta σ G (TZ i)) (hb : EvP mu tb σ G (TZ j)) : EvP mu (tOp rLeI ta tb) σ G (TB (decide (i ≤ j))) := evp_I0 ha hb
theorem evp_gt {i j : Int} (ha : EvP mu ta σ G (TZ i)) (hb : EvP mu tb σ G (TZ j)) : EvP mu (tOp rGtI ta tb) σ G (TB (decide (j < i))) := evp_I0 ha hb
theorem evp_ge {i j : Int} (ha : EvP mu ta σ G (TZ i)) (hb : EvP mu tb σ G (TZ j)) : EvP mu (tOp rGeI ta tb) σ G (TB (decide (j ≤ i))) := evp_I0 ha hb
theorem evp_eqI {i j : Int} (ha : EvP mu ta σ G (TZ i)) (hb : EvP mu tb σ G (TZ j)) : EvP mu (tOp rEq ta tb) σ G (TB (decide (i = j))) := evp_to (evp_eq ha hb rfl) (by simp)
theorem evp_neI {i j : Int} (ha : EvP mu ta σ G (TZ i)) (hb : EvP mu tb σ G (TZ j)) : EvP mu (tOp rNe ta tb) σ G (TB (!decide (i = j))) := evp_to (evp_ne ha hb rfl) (by simp)
theorem evp_neB {i j : Bool} (ha : EvP mu ta σ G (TB i)) (hb : EvP mu tb σ G (TB j)) : EvP mu (tOp rNe ta tb) σ G (TB (!decide (i = j))) := evp_to (evp_ne ha hb rfl) (by simp)
theorem evp_neg {i : Int} (ha : EvP mu ta σ G (TZ i)) : EvP mu (tUn rNeg ta) σ G (TZ (-i)) := evp_un ha fun v G1 _ p => by
  cases p
  exact RvP.pure (v := .int (-i)) (fun Q H hA q => ⟨i, rfl, q⟩) rfl
theorem evp_gcd {i j : Int} (ha : EvP mu ta σ G (TZ i)) (hb : EvP mu tb σ G (TZ j)) : EvP mu (tCB rGcd (tCons ta (tCons tb tNil))) σ G (TZ ((Nat.gcd i.natAbs j.natAbs : Nat) : Int)) :=
  evp_tcb (eva_2 ha hb) fun vs G1 _ ⟨v, u, e, p, q⟩ => by
    cases p; cases q
    exact RvP.pure (v := .int ((Nat.gcd i.natAbs j.natAbs : Nat) : Int)) (fun Q H hA q => ⟨i, j, e, q⟩) rfl
theorem evp_intB {b : Bool} (ha : EvP mu ta σ G (TB b)) : EvP mu (tCB rInt1 (tCons ta tNil)) σ G (TZ (if b then 1 else 0)) :=
  evp_tcb (eva_1 ha) fun vs G1 _ ⟨v, e, p⟩ => by
    cases p
    exact RvP.pure (v := .int (if b then 1 else 0)) (fun Q H hA q => .inr ⟨b, e, q⟩) rfl
theorem evp_intI {i : Int} (ha : EvP mu ta σ G (TZ i)) : EvP mu (tCB rInt1 (tCons ta tNil)) σ G (TZ i) :=
  evp_tcb (eva_1 ha) fun vs G1 _ ⟨v, e, p⟩ => by
    cases p
    exact RvP.pure (v := .int i) (fun Q H hA q => .inl ⟨i, e, q⟩) rfl
theorem evp_abs {i : Int} (ha : EvP mu ta σ G (TZ i)) : EvP mu (tCB rAbs1 (tCons ta tNil)) σ G (TZ (i.natAbs : Int)) :=
  evp_tcb (eva_1 ha) fun vs G1 _ ⟨v, e, p⟩ => by
    cases p
    refine RvP.pure (v := .int (i.natAbs : Int)) (fun Q H hA q => ⟨i, e, ?_⟩) rfl
    have : (if i < 0 then -i else i) = (i.natAbs : Int) := by split <;> omega
    rw [this]; exact q
/-! an object under its __init__ -/
theorem Rel.putA {m : Addr → Prop} {G0 H0 G H : Hp} {a : Addr} (o : HO) (r : Rel m G0 H0 G H) (ma : m a) (g : G a = none) : Rel m G0 H0 G (upd H a o) := by
  refine ⟨fun b u n e => ?_, fun b e => ?_, r.gg, fun b u e => ?_, r.fr⟩
  · have : b ≠ a := fun q => n (q ▸ ma)
    rw [upd_ne this]; exact r.hh b u n e
  · by_cases q : b = a
    · rw [q, upd_same]; intro z; cases z
    · rw [upd_ne q]; exact r.lv b e
  · rw [upd_ne (ne_of_none e g)]; exact r.gh b u e
/-- the state of a new object's __init__: a with fields fs -/
structure Ini (mu : Mu) (a dx C : Addr) (G0 H0 G H : Hp) (fs : List (Str × V)) : Prop where
  at_ : At mu G H
  g : G a = none
  nm : ¬ mu.mt a
  h : H a = some (.ins C dx fs)
  r : Rel (fun b => mu.mt b ∨ b = a) G0 H0 G H
theorem Ini.start {a dx C : Addr} (hA : At mu G H) (g : G a = none) (nm : ¬ mu.mt a) (h : H a = some (.ins C dx [])) : Ini mu a dx C G H G H [] := ⟨hA, g, nm, h, Rel.refl hA.ex⟩
theorem Ini.stp {a dx C : Addr} {G0 H0 G H G' H' : Hp} {fs : List (Str × V)} (i : Ini mu a dx C G0 H0 G H fs) (s : Stp mu G H G' H') : Ini mu a dx C G0 H0 G' H' fs :=
  ⟨i.at_.stp s, (s.fr a (by rw [i.h]; intro z; cases z)).trans i.g, i.nm, s.hh a _ i.nm i.h, i.r.trans (s.toRel.weaken fun b z => .inl z)⟩
theorem Ini.put {a dx C : Addr} {G0 H0 G H : Hp} {fs gs : List (Str × V)} (i : Ini mu a dx C G0 H0 G H fs) : Ini mu a dx C G0 H0 G (upd H a (.ins C dx gs)) gs :=
  ⟨i.at_.put _ i.g i.nm, i.g, i.nm, upd_same, i.r.putA _ (.inr rfl) i.g⟩
theorem sfldI {a dx C : Addr} {G0 H0 : Hp} {fs : List (Str × V)} {f : Str} {k : Nat} {tv : TE} (i : Ini mu a dx C G0 H0 G H fs) (hs : σ[k]? = some (some (.ref a))) (c : Cls K C) (n : NoAttr K C f) (hl : fs.length < 1000) (h : EvP mu tv σ G P)
    (kk : ∀ y G' H', Ini mu a dx C G0 H0 G' H' (putF f y fs) → Ex G G' → P y G' → D.nx σ H') : sFld K (tVar k) tv f D σ H :=
  h G H Ex.rfl' i.at_ _ fun y G' H' s p => ⟨.ref a, hs, a, C, dx, fs, rfl, (i.stp s).h, c, n, hl, kk y G' _ (i.stp s).put s.gg p⟩
theorem Ini.fin {a dx C : Addr} {G0 H0 : Hp} {fs gs : List (Str × V)} {Pf : List (Str × V) → Hp → Prop} (i : Ini mu a dx C G0 H0 G H fs) (hP : ∀ G', Ex G0 G' → Pf gs G') (e : fs = gs)
    (k : ∀ (σ : L2.St) (fs : List (Str × V)) (G' H' : Hp), Rel (fun b => mu.mt b ∨ b = a) G0 H0 G' H' → mu.inv H' → H' a = some (.ins C dx fs) → Pf fs G' → D.nx σ H') (σ : L2.St) : D.nx σ H :=
  k σ fs G H i.r i.at_.iv i.h (by rw [e]; exact hP G i.r.gg)
end
end N640

set_option Elab.async false
set_option linter.all false
set_option maxRecDepth 100000
set_option maxHeartbeats 4000000
/-! The numbers' defs: what their readings give. -/
namespace N640
open PySem PySem.Spec PyProof.Rows L2 Gn
def Kd.isInt : Kd → Bool
  | .int => true
  | _ => false
instance {k : Kd} : Mono (IsK k) := ⟨fun {v H H'} e h => by
  cases k with
  | int => exact h
  | rat => obtain ⟨a, dx, fs, e1, g⟩ := h; exact ⟨a, dx, fs, e1, e _ _ g⟩
  | twin => obtain ⟨a, dx, fs, e1, g⟩ := h; exact ⟨a, dx, fs, e1, e _ _ g⟩
  | part => obtain ⟨a, dx, fs, e1, g⟩ := h; exact ⟨a, dx, fs, e1, e _ _ g⟩
  | list => obtain ⟨a, vs, e1, g⟩ := h; exact ⟨a, vs, e1, e _ _ g⟩
  | tup => obtain ⟨a, vs, e1, g⟩ := h; exact ⟨a, vs, e1, e _ _ g⟩⟩
variable {K : PySem.W.Frag} {mu : Mu} {G H : Hp}
def A_isint (k : Kd) (vs : List V) (G : Hp) : Prop := ∃ v, vs = [v] ∧ IsK k v G ∧ (k = .int ∨ k = .rat ∨ k = .twin)
abbrev B_isint (k : Kd) : Prd := TB k.isInt
abbrev R_isint : Rq := pR A_isint B_isint
def A_count (i : Int) (vs : List V) (G : Hp) : Prop := vs = [.int i]
abbrev B_count (i : Int) : Prd := TB (decide (0 ≤ i))
def A_islist (k : Kd) (vs : List V) (G : Hp) : Prop := ∃ v, vs = [v] ∧ IsK k v G ∧ (k = .list ∨ k = .tup)
abbrev B_islist (_ : Kd) : Prd := TB true
def A_gcd (x : Int × Int) (vs : List V) (G : Hp) : Prop := vs = [.int x.1, .int x.2]
abbrev B_gcd (x : Int × Int) : Prd := TZ ((Nat.gcd x.1.natAbs x.2.natAbs : Nat) : Int)
theorem m_isint (T : Tx K) : SemP (t_is_integer K) n_is_integer A_isint B_isint := by
  intro mu k vs G H hA ⟨v, e, hv, hk⟩ D q
  subst e
  have var : EvP mu (tVar 0) (start n_is_integer [v]) G (IsK k) := evp_var rfl hv
  have go : EvP mu (tAndV (tCB (rIsi K) (tCons (tVar 0) (tCons (tC (.ty "int")) tNil))) (tNotV (tCB (rIsi K) (tCons (tVar 0) (tCons (tC (.ty "bool")) tNil))))) (start n_is_integer [v]) G (B_isint k) := by
    rcases hk with rfl | rfl | rfl
    · exact evp_and (evp_isi T var (.ty _) fun v G1 _ p => ⟨_, p, of_decide_eq_true T.kit_i_i⟩) fun _ => evp_not (evp_isi T var (.ty _) fun v G1 _ p => ⟨_, p, of_decide_eq_true T.kit_i_b⟩)
    · exact evp_and (evp_isi T var (.ty _) fun v G1 _ p => ⟨_, p, of_decide_eq_true T.kit_R_i⟩) (b := true) fun z => nomatch z
    · exact evp_and (evp_isi T var (.ty _) fun v G1 _ p => ⟨_, p, of_decide_eq_true T.kit_T_i⟩) (b := true) fun z => nomatch z
  exact sret hA go q
theorem m_count : SemP (t_is_count K (spP R_isint)) n_is_count A_count B_count := by
  intro mu i vs G H hA e D q
  subst e
  refine sret hA (evp_to (evp_and (a := true) (b := decide (0 ≤ i)) (evp_c1 (x := Kd.int) (A := A_isint) (B := B_isint) (evp_is (v := .int i) rfl) fun v G1 _ p => ⟨v, rfl, ⟨i, p⟩, .inl rfl⟩) fun _ => evp_ge (evp_is rfl) evp_c) (by simp)) q
theorem m_islist (T : Tx K) : SemP (t_is_list K) n_is_list A_islist B_islist := by
  intro mu k vs G H hA ⟨v, e, hv, hk⟩ D q
  subst e
  have var : EvP mu (tVar 0) (start n_is_list [v]) G (IsK k) := evp_var rfl hv
  refine sret (P := TB true) hA ?_ q
  rcases hk with rfl | rfl
  · exact evp_isi2 (b := true) (b2 := false) T var (.ty _) (.ty _) fun v G1 _ p => ⟨_, p, of_decide_eq_true T.kit_l_l, of_decide_eq_true T.kit_l_t⟩
  · exact evp_isi2 (b := false) (b2 := true) T var (.ty _) (.ty _) fun v G1 _ p => ⟨_, p, of_decide_eq_true T.kit_t_l, of_decide_eq_true T.kit_t_t⟩
theorem m_gcd : SemP (t_common_part K) n_common_part A_gcd B_gcd := by
  intro mu x vs G H hA e D q
  subst e
  exact sret hA (evp_gcd (evp_is rfl) (evp_is rfl)) q
/-! Ratio -/
/-- sizes of a rational -/
def RO (n : Nat) (q : Rat) : Prop := q.num.natAbs < 2 ^ n ∧ (q.den : Int).natAbs < 2 ^ n
def A_ratio (q : Rat) (us : List V) (G : Hp) : Prop := ∃ a b : Int, us = [.int a, .int b] ∧ b ≠ 0 ∧ b.natAbs < 2 ^ 8900 ∧ q = (a : Rat) / (b : Rat)
theorem m_ratio (T : Tx K) : MeetsI (t_Ratio_init K (spP R_isint) (spP (pR A_gcd B_gcd))) n_Ratio_init N640.CR (pI A_ratio FR) := by
  intro mu G H P a dx us hA g nm ha ⟨q, ⟨m, b, e, hb, hz, hq⟩, hP⟩ D k
  subst e
  obtain ⟨c, ec, c0, cle, d1, d2⟩ := ratio_low (a := m) hb
  rw [← hq] at d1 d2
  have isi : ∀ {G1 : Hp} {σ : L2.St} {i : Nat} {n : Int}, σ[i]? = some (some (.int n)) → EvP mu (tCall (spP R_isint) [] E0 (tCons (tVar i) tNil)) σ G1 (TB true) := fun hs =>
    evp_c1 (x := Kd.int) (A := A_isint) (B := B_isint) (evp_is hs) fun v G1 _ p => ⟨v, rfl, ⟨_, p⟩, .inl rfl⟩
  have i0 := Ini.start hA g nm ha
  refine siff hA (evt_to (evt_not (evt_B (isi rfl))) rfl) fun G1 H1 s1 => ?_
  have i1 := i0.stp s1
  refine siff i1.at_ (evt_to (evt_or (a := false) (b := false) (evt_to (evt_not (evt_B (isi rfl))) rfl) fun _ => evt_to (evt_test (evp_eqI (evp_is rfl) evp_c)) (by simp [hb])) rfl) fun G2 H2 s2 => ?_
  have i2 := i1.stp s2
  refine sasg i2.at_ (evp_cX (x := (m, b)) (A := A_gcd) (B := B_gcd) (vs := [.int m, .int b]) ((eva_2 (evp_is rfl) (evp_is rfl)).imp fun vs G1 _ ⟨v, w, e, p, q⟩ => by rw [e, p, q]) fun _ _ => rfl) fun v G3 H3 s3 p3 => ?_
  cases p3
  have i3 := i2.stp s3
  -- the common part with its sign
  have fin : ∀ {G4 H4 : Hp}, Ini mu a dx N640.CR G H G4 H4 [] → ∀ σ : L2.St, σ[0]? = some (some (.ref a)) → σ[1]? = some (some (.int m)) → σ[2]? = some (some (.int b)) → σ[3]? = some (some (.int c)) →
      tSeq (sFld K (tVar 0) (tOp rFdivS (tVar 1) (tVar 3)) "own_top") (sFld K (tVar 0) (tOp rFdivS (tVar 2) (tVar 3)) "own_bottom") D σ H4 := by
    intro G4 H4 i4 σ h0 h1 h2 h3
    refine sfldI i4 h0 (bCls_ok T.clsR) (He.eqO_ok T.no_own_top) (by decide) (evp_divS (b := 8900) (evp_is h1) (evp_is h3) c0 (Nat.lt_of_le_of_lt cle hz)) fun y G6 H6 i6 e6 p6 => ?_
    cases p6
    refine sfldI i6 h0 (bCls_ok T.clsR) (He.eqO_ok T.no_own_bottom) (by show 1 < 1000; decide) (evp_divS (b := 8900) (evp_is h2) (evp_is h3) c0 (Nat.lt_of_le_of_lt cle hz)) fun y G7 H7 i7 e7 p7 => ?_
    cases p7
    rw [d1, d2] at i7
    exact i7.fin hP rfl k σ
  refine sifb (b := decide (b < 0)) i3.at_ (evt_test (evp_lt (evp_is rfl) evp_c)) (fun hneg G4 H4 s4 => ?_) fun hneg G4 H4 s4 => ?_
  · have hn : b < 0 := of_decide_eq_true hneg
    have i4 := i3.stp s4
    refine sasg i4.at_ (evp_sub evp_c (evp_is rfl)) fun v G5 H5 s5 p5 => ?_
    cases p5
    rw [if_pos hn] at ec
    exact fin (i4.stp s5) _ rfl rfl rfl (by rw [ec]; rfl)
  · have hn : ¬ b < 0 := of_decide_eq_false hneg
    rw [if_neg hn] at ec
    exact fin (i3.stp s4) _ rfl rfl rfl (by rw [ec]; rfl)
end N640

set_option Elab.async false
set_option linter.all false
set_option maxRecDepth 100000
set_option maxHeartbeats 4000000
namespace N640
open PySem PySem.Spec PyProof.Rows L2 Gn
variable {K : PySem.W.Frag} {mu : Mu} {G H : Hp} {σ : L2.St} {ta tb : TE}
abbrev S_isint : Sp := spP R_isint
abbrev S_gcd : Sp := spP (pR A_gcd B_gcd)
abbrev S_ratio : Sp := spI N640.CR (pI A_ratio FR)
/-- what the sign of a rational is -/
def sg (q : Rat) : Int := (if decide (0 < q.num) then 1 else 0) - (if decide (q.num < 0) then 1 else 0)
def A_rat (q : Rat) (vs : List V) (G : Hp) : Prop := ∃ v, vs = [v] ∧ TRt q v G
abbrev B_sign (q : Rat) : Prd := TZ (sg q)
theorem m_sign (T : Tx K) : SemP (t_Ratio_sign K) n_Ratio_sign A_rat B_sign := by
  intro mu x vs G H hA ⟨v, e, hv⟩ D q
  subst e
  exact sret hA (evp_sub (evp_intB (evp_gt (evp_top T (evp_var rfl hv)) evp_c)) (evp_intB (evp_lt (evp_top T (evp_var rfl hv)) evp_c))) q
/-! pairs and triples -/
def A_pair (q : Rat) (vs : List V) (G : Hp) : Prop := ∃ v, vs = [v] ∧ TRi q v G
abbrev B_pair (q : Rat) : Prd := TPr (TZ q.num) (TZ q.den)
abbrev S_pair : Sp := spP (pR A_pair B_pair)
theorem evp_isint {P : Prd} [Mono P] {b : Bool} {k : Kd} (h : EvP mu ta σ G P) (hb : k.isInt = b) (hk : k = .int ∨ k = .rat ∨ k = .twin) (hp : ∀ v G1, Ex G G1 → P v G1 → IsK k v G1) : EvP mu (tCall S_isint [] E0 (tCons ta tNil)) σ G (TB b) :=
  hb ▸ evp_c1 (x := k) (A := A_isint) (B := B_isint) h fun v G1 e p => ⟨v, rfl, hp v G1 e p, hk⟩
theorem m_pair (T : Tx K) : SemP (t_told_pair K S_isint) n_told_pair A_pair B_pair := by
  intro mu x vs G H hA ⟨v, e, hv⟩ D q
  subst e
  rcases hv with hv | ⟨i, rfl, hx⟩
  · refine sift hA (evt_B (evp_isi T (evp_var rfl hv) (.own _) fun v G1 _ p => ⟨.rat, TI0.isI _ _ p, of_decide_eq_true T.kit_R_R⟩)) fun G1 H1 s1 => ?_
    have hv1 := Mono.mono s1.gg hv
    exact sret (hA.stp s1) (evp_tup2 (evp_top T (evp_var rfl hv1)) (evp_bot T (evp_var rfl hv1))) fun v G2 H2 s2 p => q v G2 H2 (s1.trans s2) p
  · refine siff hA (evt_B (evp_isi T (evp_is (v := .int i) rfl) (.own _) fun v G1 _ p => ⟨.int, ⟨i, p⟩, of_decide_eq_true T.kit_i_R⟩)) fun G1 H1 s1 => ?_
    have a1 := hA.stp s1
    refine siff a1 (evt_to (evt_not (evt_B (evp_isint (k := .int) (evp_is (v := .int i) rfl) rfl (.inl rfl) fun v G1 _ p => ⟨i, p⟩))) rfl) fun G2 H2 s2 => ?_
    have hn : x.num = i ∧ x.den = 1 := by subst hx; exact ⟨rfl, rfl⟩
    refine sret (a1.stp s2) (evp_tup2 (evp_is (v := .int i) rfl) (evp_c (v := .int 1))) fun v G3 H3 s3 p => q v G3 H3 ((s1.trans s2).trans s3) ?_
    obtain ⟨a, y, z, h1, h2, h3, h4⟩ := p
    exact ⟨a, y, z, h1, h2, by rw [h3, ← hn.1]; rfl, by rw [h4, hn.2]; rfl⟩
/-! Ratio's operators -/
structure RP where
  q : Rat
  r : Rat
def A_rbin (n : Nat) (x : RP) (vs : List V) (G : Hp) : Prop := ∃ v u, vs = [v, u] ∧ TRt x.q v G ∧ TRi x.r u G ∧ RO n x.q ∧ RO n x.r
theorem rat_num_den (q : Rat) : ((q.num : Int) : Rat) / (((q.den : Nat) : Int) : Rat) = q := (rat_eq q).symm
theorem den_ne (q : Rat) : ((q.den : Nat) : Int) ≠ 0 := by have := q.den_pos; omega
theorem evp_mkR {q : Rat} {a b : Int} (ha : EvP mu ta σ G (TZ a)) (hb : EvP mu tb σ G (TZ b)) (b0 : b ≠ 0) (hz : b.natAbs < 2 ^ 8900) (hq : q = (a : Rat) / (b : Rat)) : EvP mu (tMake N640.CR S_ratio [] E0 (tCons ta (tCons tb tNil))) σ G (TRt q) :=
  evp_mk (eva_2 ha hb) fun vs G1 e ⟨v, u, ev, p1, p2⟩ => ⟨a, b, by rw [ev, p1, p2]; rfl, b0, hz, hq⟩
abbrev B_radd (x : RP) : Prd := TRt (x.q + x.r)
abbrev B_rmul (x : RP) : Prd := TRt (x.q * x.r)
abbrev B_rover (x : RP) : Prd := TRt (x.q / x.r)
theorem m_radd (T : Tx K) : SemP (t_Ratio_add K S_pair S_ratio) n_Ratio_add (A_rbin 4400) B_radd := by
  intro mu ⟨x, y⟩ vs G H hA ⟨v, u, e, hv, hu, ⟨o1, o2⟩, o3, o4⟩ D q
  subst e
  refine sasg2 hA (evp_c1 (x := y) (A := A_pair) (B := B_pair) (evp_var rfl hu) fun v G1 _ p => ⟨v, rfl, p⟩) fun a b G1 H1 s1 p1 p2 => ?_
  cases p1; cases p2
  have hv1 := Mono.mono s1.gg hv
  refine sret (hA.stp s1) (evp_mkR (q := x + y) (evp_add (evp_mul (evp_top T (evp_var rfl hv1)) (evp_is rfl) o1 o4) (evp_mul (evp_is rfl) (evp_bot T (evp_var rfl hv1)) o3 o2)) (evp_mul (evp_bot T (evp_var rfl hv1)) (evp_is rfl) o2 o4)
    (Int.mul_ne_zero (den_ne _) (den_ne _)) (bm o2 o4 (by decide)) ?_) fun v G2 H2 s2 p => q v G2 H2 (s1.trans s2) p
  have h1 := cne (den_ne x)
  have h2 := cne (den_ne y)
  rw [Rat.intCast_add, Rat.intCast_mul, Rat.intCast_mul, Rat.intCast_mul]
  conv => lhs; rw [← rat_num_den x, ← rat_num_den y]
  grind
theorem m_rmul (T : Tx K) : SemP (t_Ratio_mul K S_pair S_ratio) n_Ratio_mul (A_rbin 4400) B_rmul := by
  intro mu ⟨x, y⟩ vs G H hA ⟨v, u, e, hv, hu, ⟨o1, o2⟩, o3, o4⟩ D q
  subst e
  refine sasg2 hA (evp_c1 (x := y) (A := A_pair) (B := B_pair) (evp_var rfl hu) fun v G1 _ p => ⟨v, rfl, p⟩) fun a b G1 H1 s1 p1 p2 => ?_
  cases p1; cases p2
  have hv1 := Mono.mono s1.gg hv
  refine sret (hA.stp s1) (evp_mkR (q := x * y) (evp_mul (evp_top T (evp_var rfl hv1)) (evp_is rfl) o1 o3) (evp_mul (evp_bot T (evp_var rfl hv1)) (evp_is rfl) o2 o4)
    (Int.mul_ne_zero (den_ne _) (den_ne _)) (bm o2 o4 (by decide)) ?_) fun v G2 H2 s2 p => q v G2 H2 (s1.trans s2) p
  have h1 := cne (den_ne x)
  have h2 := cne (den_ne y)
  rw [Rat.intCast_mul, Rat.intCast_mul]
  conv => lhs; rw [← rat_num_den x, ← rat_num_den y]
  grind
theorem num_ne {q : Rat} (h : q ≠ 0) : q.num ≠ 0 := fun e => h (by rw [← rat_num_den q, e]; simp [Rat.div_def])
def A_rover (x : RP) (vs : List V) (G : Hp) : Prop := A_rbin 4400 x vs G ∧ x.r ≠ 0
theorem m_rover (T : Tx K) : SemP (t_Ratio_over K S_pair S_ratio) n_Ratio_over A_rover B_rover := by
  intro mu ⟨x, y⟩ vs G H hA ⟨⟨v, u, e, hv, hu, ⟨o1, o2⟩, o3, o4⟩, y0⟩ D q
  subst e
  have y0 : y ≠ 0 := y0
  have yn := num_ne y0
  refine sasg2 hA (evp_c1 (x := y) (A := A_pair) (B := B_pair) (evp_var rfl hu) fun v G1 _ p => ⟨v, rfl, p⟩) fun a b G1 H1 s1 p1 p2 => ?_
  cases p1; cases p2
  have a1 := hA.stp s1
  refine siff a1 (evt_to (evt_test (evp_eqI (evp_is rfl) evp_c)) (by simp [yn])) fun G2 H2 s2 => ?_
  have hv2 := Mono.mono s2.gg (Mono.mono s1.gg hv)
  refine sret (a1.stp s2) (evp_mkR (q := x / y) (evp_mul (evp_top T (evp_var rfl hv2)) (evp_is rfl) o1 o4) (evp_mul (evp_bot T (evp_var rfl hv2)) (evp_is rfl) o2 o3)
    (Int.mul_ne_zero (den_ne _) yn) (bm o2 o3 (by decide)) ?_) fun v G3 H3 s3 p => q v G3 H3 ((s1.trans s2).trans s3) p
  have h1 := cne (den_ne x)
  have h2 := cne (den_ne y)
  have h3 := cne yn
  rw [Rat.intCast_mul, Rat.intCast_mul]
  conv => lhs; rw [← rat_num_den x, ← rat_num_den y]
  grind
def A_req (x : RP) (vs : List V) (G : Hp) : Prop := ∃ v u, vs = [v, u] ∧ TRt x.q v G ∧ TRt x.r u G
abbrev B_req (x : RP) : Prd := TB (decide (x.q = x.r))
theorem rat_eq_iff (x y : Rat) : x = y ↔ x.num = y.num ∧ (x.den : Int) = (y.den : Int) :=
  ⟨fun e => by rw [e]; exact ⟨rfl, rfl⟩, fun ⟨h1, h2⟩ => by rw [← rat_num_den x, ← rat_num_den y, h1, h2]⟩
theorem m_req (T : Tx K) : SemP (t_Ratio_eq K) n_Ratio_eq A_req B_req := by
  intro mu ⟨x, y⟩ vs G H hA ⟨v, u, e, hv, hu⟩ D q
  subst e
  refine siff hA (evt_to (evt_not (evt_B (evp_isi T (evp_var rfl hu) (.own _) fun v G1 _ p => ⟨.rat, TI0.isI _ _ p, of_decide_eq_true T.kit_R_R⟩))) rfl) fun G1 H1 s1 => ?_
  have hv1 := Mono.mono s1.gg hv
  have hu1 := Mono.mono s1.gg hu
  refine sret (hA.stp s1) (evp_to (evp_and (evp_eqI (evp_top T (evp_var rfl hv1)) (evp_top T (evp_var rfl hu1))) fun _ => evp_eqI (evp_bot T (evp_var rfl hv1)) (evp_bot T (evp_var rfl hu1))) ?_) fun v G2 H2 s2 p => q v G2 H2 (s1.trans s2) p
  congr 1
  rw [← Bool.decide_and, decide_eq_decide]
  exact (rat_eq_iff x y).symm
/-! Parts -/
structure I3 where
  a : Int
  b : Int
  c : Int
def A_parts (x : I3) (us : List V) (G : Hp) : Prop := us = [.int x.a, .int x.b, .int x.c]
abbrev S_mkParts : Sp := spI N640.CP (pI A_parts fun x => FP x.a x.b x.c)
theorem m_parts (T : Tx K) : MeetsI (t_Parts_init K) n_Parts_init N640.CP (pI A_parts fun x => FP x.a x.b x.c) := by
  intro mu G H P a dx us hA g nm ha ⟨x, e, hP⟩ D k
  have e : us = [.int x.a, .int x.b, .int x.c] := e
  subst e
  have i0 := Ini.start hA g nm ha
  refine sfldI i0 rfl (bCls_ok T.clsP) (He.eqO_ok T.no_own_left) (by decide) (evp_is rfl) fun y G1 H1 i1 e1 p1 => ?_
  cases p1
  refine sfldI i1 rfl (bCls_ok T.clsP) (He.eqO_ok T.no_own_right) (by show 1 < 1000; decide) (evp_is rfl) fun y G2 H2 i2 e2 p2 => ?_
  cases p2
  refine sfldI i2 rfl (bCls_ok T.clsP) (He.eqO_ok T.no_own_below) (by show 2 < 1000; decide) (evp_is rfl) fun y G3 H3 i3 e3 p3 => ?_
  cases p3
  exact i3.fin hP rfl k _
end N640

set_option Elab.async false
set_option linter.all false
set_option maxRecDepth 100000
set_option maxHeartbeats 4000000
namespace N640
open PySem PySem.Spec PyProof.Rows L2 Gn
variable {K : PySem.W.Frag} {mu : Mu} {G H : Hp} {σ : L2.St} {ta tb tc : TE}
/-- what is handed to Twin: Parts, or two numbers -/
def Handed (z : Gn) (v u : V) (G : Hp) : Prop := (∃ a b c, TPa a b c v G ∧ 0 < c ∧ c.natAbs < 2 ^ 8900 ∧ val a b c = z) ∨ (∃ q r : Rat, TRi q v G ∧ TRi r u G ∧ RO 4400 q ∧ RO 4400 r ∧ z = ⟨q, r⟩)
theorem Handed.mono {z : Gn} {v u : V} {G G' : Hp} (e : Ex G G') (h : Handed z v u G) : Handed z v u G' := h.imp (fun ⟨a, b, c, p, r⟩ => ⟨a, b, c, Mono.mono e p, r⟩) fun ⟨q, r, p, p2, o⟩ => ⟨q, r, Mono.mono e p, Mono.mono e p2, o⟩
def A_hand (z : Gn) (vs : List V) (G : Hp) : Prop := ∃ v u, vs = [v, u] ∧ Handed z v u G
abbrev B_hand (z : Gn) : Prd := fun v G => ∃ a b c, TTr (TZ a) (TZ b) (TZ c) v G ∧ 0 < c ∧ c.natAbs < 2 ^ 8900 ∧ val a b c = z
abbrev S_hand : Sp := spP (pR A_hand B_hand)
theorem val_pair (q r : Rat) : val (q.num * r.den) (r.num * q.den) (q.den * r.den) = ⟨q, r⟩ := by
  have h1 := cne (den_ne q)
  have h2 := cne (den_ne r)
  apply ext'
  · show ((q.num * r.den : Int) : Rat) / ((q.den * r.den : Int) : Rat) = q
    rw [Rat.intCast_mul, Rat.intCast_mul]
    conv => rhs; rw [← rat_num_den q]
    grind
  · show ((r.num * q.den : Int) : Rat) / ((q.den * r.den : Int) : Rat) = r
    rw [Rat.intCast_mul, Rat.intCast_mul]
    conv => rhs; rw [← rat_num_den r]
    grind
theorem TRi.kind {q : Rat} {v : V} {G : Hp} (h : TRi q v G) : (IsK .rat v G) ∨ IsK .int v G := h.imp (TI0.isI _ _) fun ⟨i, e, _⟩ => ⟨i, e⟩
theorem m_hand (T : Tx K) : SemP (t_handed_parts K S_pair) n_handed_parts A_hand B_hand := by
  intro mu z vs G H hA ⟨v, u, e, hh⟩ D k
  subst e
  rcases hh with ⟨a, b, c, hp, c0, cz, ez⟩ | ⟨q, r, hq, hr, ⟨o1, o2⟩, ⟨o3, o4⟩, ez⟩
  · refine sift hA (evt_B (evp_isi T (evp_var rfl hp) (.own _) fun v G1 _ p => ⟨.part, TI0.isI _ _ p, of_decide_eq_true T.kit_P_P⟩)) fun G1 H1 s1 => ?_
    have hp1 := Mono.mono s1.gg hp
    exact sret (hA.stp s1) (evp_tup3 (evp_p1 T (evp_var rfl hp1)) (evp_p2 T (evp_var rfl hp1)) (evp_p3 T (evp_var rfl hp1))) fun v G2 H2 s2 p => k v G2 H2 (s1.trans s2) ⟨a, b, c, p, c0, cz, ez⟩
  · have hk : EvP mu (tCB (rIsi K) (tCons (tVar 0) (tCons (tC (.ref N640.CP)) tNil))) (start n_handed_parts [v, u]) G (TB false) := by
      rcases hq with hq | hq
      · exact evp_isi T (evp_var rfl hq) (.own _) fun v G1 _ p => ⟨.rat, TI0.isI _ _ p, of_decide_eq_true T.kit_R_P⟩
      · obtain ⟨i, ei, _⟩ := hq
        exact evp_isi T (evp_is (v := v) rfl) (.own _) fun w G1 _ p => ⟨.int, ⟨i, p.trans ei⟩, of_decide_eq_true T.kit_i_P⟩
    refine siff hA (evt_B hk) fun G1 H1 s1 => ?_
    have a1 := hA.stp s1
    have hq1 := Mono.mono s1.gg hq
    refine sasg2 a1 (evp_c1 (x := q) (A := A_pair) (B := B_pair) (evp_var rfl hq1) fun v G1 _ p => ⟨v, rfl, p⟩) fun x y G2 H2 s2 p1 p2 => ?_
    cases p1; cases p2
    have a2 := a1.stp s2
    have hr2 := Mono.mono s2.gg (Mono.mono s1.gg hr)
    refine sasg2 a2 (evp_c1 (x := r) (A := A_pair) (B := B_pair) (evp_var rfl hr2) fun v G1 _ p => ⟨v, rfl, p⟩) fun x y G3 H3 s3 p1 p2 => ?_
    cases p1; cases p2
    refine sret (a2.stp s3) (evp_tup3 (evp_mul (evp_is rfl) (evp_is rfl) o1 o4) (evp_mul (evp_is rfl) (evp_is rfl) o3 o2) (evp_mul (evp_is rfl) (evp_is rfl) o2 o4)) fun v G4 H4 s4 p =>
      k v G4 H4 (((s1.trans s2).trans s3).trans s4) ⟨_, _, _, p, Int.mul_pos (by have := q.den_pos; omega) (by have := r.den_pos; omega), bm o2 o4 (by decide), ?_⟩
    rw [val_pair, ez]
abbrev S_mkTwin : Sp := spI N640.CT (pI A_hand FT)
theorem m_twin (T : Tx K) : MeetsI (t_Twin_init K S_hand S_gcd) n_Twin_init N640.CT (pI A_hand FT) := by
  intro mu G H P a dx us hA g nm ha ⟨z, ⟨v, u, e, hh⟩, hP⟩ D k
  subst e
  have i0 := Ini.start hA g nm ha
  have call : EvP mu (tCall S_hand [] E0 (tCons (tVar 1) (tCons (tVar 2) tNil))) (start n_Twin_init [.ref a, v, u]) G (B_hand z) :=
    evp_call (PA := fun vs G1 => vs = [v, u] ∧ Handed z v u G1) ((eva_2 (evp_is (v := v) rfl) (evp_is (v := u) rfl)).imp fun vs G1 e ⟨x, y, ev, ex, ey⟩ => ⟨by rw [ev, ex, ey], hh.mono e⟩) fun vs G1 e ⟨ev, hh⟩ => ⟨z, ⟨v, u, by rw [ev]; rfl, hh⟩, fun v G' _ b => b⟩
  -- the three are told once the triple is there
  refine call G H Ex.rfl' hA _ fun w G1 H1 s1 ⟨p, q, r, ⟨t, x, y, y2, ew, gt, e1, e2, e3⟩, r0, rz, ez⟩ => ?_
  cases e1; cases e2; cases e3
  have i1 := i0.stp s1
  refine ⟨t, [.int p, .int q, .int r], ew, sqt_at i1.at_ gt, rfl, .int p, [.int q, .int r], rfl, .int q, [.int r], rfl, .int r, [], rfl, rfl, ?_⟩
  have hg : (Nat.gcd (Nat.gcd p.natAbs r.natAbs) q.natAbs : Nat) = gc3 p q r := rfl
  have gpos : 0 < gc3 p q r := gc3_pos (by omega)
  have gle : ((gc3 p q r : Nat) : Int).natAbs < 2 ^ 8900 := by
    refine Nat.lt_of_le_of_lt ?_ rz
    rw [Int.natAbs_natCast]
    exact Nat.le_trans (Nat.gcd_le_left _ (Nat.gcd_pos_of_pos_right _ (by omega))) (Nat.gcd_le_right _ (by omega))
  dsimp only
  refine sasg i1.at_ (P := TZ (gc3 p q r : Nat)) ?_ fun c G2 H2 s2 p2 => ?_
  · refine evp_c2 (x := (((Nat.gcd p.natAbs r.natAbs : Nat) : Int), q)) (A := A_gcd) (B := B_gcd) (evp_c2 (x := (p, r)) (A := A_gcd) (B := B_gcd) (evp_is (v := .int p) rfl) (evp_is (v := .int r) rfl) fun v u G1 _ p1 p2 => by rw [p1, p2]; rfl) (evp_is (v := .int q) rfl) fun v u G1 _ p1 p2 => ?_
    rw [show v = _ from p1, show u = _ from p2]; rfl
  · cases p2
    have i2 := i1.stp s2
    obtain ⟨f1, f2, f3⟩ := g_red r0 ez
    have gd : (0 : Int) < (gc3 p q r : Nat) := by omega
    refine sfldI i2 rfl (bCls_ok T.clsT) (He.eqO_ok T.no_own_plain) (by decide) (evp_div (b := 8900) (evp_is rfl) (evp_is rfl) gd gle) fun y G3 H3 i3 e3 p3 => ?_
    cases p3
    refine sfldI i3 rfl (bCls_ok T.clsT) (He.eqO_ok T.no_own_side) (by show 1 < 1000; decide) (evp_div (b := 8900) (evp_is rfl) (evp_is rfl) gd gle) fun y G4 H4 i4 e4 p4 => ?_
    cases p4
    refine sfldI i4 rfl (bCls_ok T.clsT) (He.eqO_ok T.no_own_low) (by show 2 < 1000; decide) (evp_div (b := 8900) (evp_is rfl) (evp_is rfl) gd gle) fun y G5 H5 i5 e5 p5 => ?_
    cases p5
    rw [f1, f2, f3] at i5
    exact i5.fin hP rfl k _
/-! by_parts, told_parts, nought, one -/
structure Z3 where
  a : Int
  b : Int
  c : Int
def A_byp (z : Gn) (vs : List V) (G : Hp) : Prop := ∃ a b c : Int, vs = [.int a, .int b, .int c] ∧ 0 < c ∧ c.natAbs < 2 ^ 8900 ∧ val a b c = z
abbrev B_tw (z : Gn) : Prd := TTw z
abbrev S_byp : Sp := spP (pR A_byp B_tw)
theorem m_byp : SemP (t_by_parts K S_mkTwin S_mkParts) n_by_parts A_byp B_tw := by
  intro mu z vs G H hA ⟨a, b, c, e, c0, cz, ez⟩ D k
  subst e
  refine sret (P := TTw z) hA (evp_mk (x := z) (eva_1 (evp_mk (C := N640.CP) (x := (⟨a, b, c⟩ : I3)) (A := A_parts) (Fs := fun x => FP x.a x.b x.c) (eva_3 (evp_is (v := .int a) rfl) (evp_is (v := .int b) rfl) (evp_is (v := .int c) rfl)) fun vs G1 _ ⟨x, y, w, ev, e1, e2, e3⟩ => by rw [ev, e1, e2, e3]; rfl)) fun vs G1 _ ⟨v, ev, p⟩ => ?_) k
  exact ⟨v, .int 0, by rw [ev]; rfl, .inl ⟨a, b, c, p, c0, cz, ez⟩⟩
theorem evp_byp {z : Gn} {a b c : Int} (ha : EvP mu ta σ G (TZ a)) (hb : EvP mu tb σ G (TZ b)) (hc : EvP mu tc σ G (TZ c)) (c0 : 0 < c) (cz : c.natAbs < 2 ^ 8900) (ez : val a b c = z) : EvP mu (tCall S_byp [] E0 (tCons ta (tCons tb (tCons tc tNil)))) σ G (TTw z) :=
  evp_c3 (x := z) (A := A_byp) (B := B_tw) ha hb hc fun v u w G1 _ p q r => ⟨a, b, c, by rw [show v = _ from p, show u = _ from q, show w = _ from r], c0, cz, ez⟩
def A_val (z : Gn) (vs : List V) (G : Hp) : Prop := ∃ v, vs = [v] ∧ TVal z v G
abbrev B_num (z : Gn) : Prd := TNum z
abbrev S_told : Sp := spP (pR A_val B_num)
theorem m_told (T : Tx K) : SemP (t_told_parts K S_isint) n_told_parts A_val B_num := by
  intro mu z vs G H hA ⟨v, e, hv⟩ D k
  subst e
  rcases hv with hv | ⟨q, hv | ⟨i, rfl, hi⟩, rfl⟩
  · refine sift hA (evt_B (evp_isi T (evp_var rfl hv) (.own _) fun v G1 _ p => ⟨.twin, TI0.isI _ _ p, of_decide_eq_true T.kit_T_T⟩)) fun G1 H1 s1 => ?_
    have hv1 := Mono.mono s1.gg hv
    exact sret (hA.stp s1) (evp_tup3 (evp_pl T (evp_var rfl hv1)) (evp_si T (evp_var rfl hv1)) (evp_lo T (evp_var rfl hv1))) fun v G2 H2 s2 p => k v G2 H2 (s1.trans s2) p
  · refine siff hA (evt_B (evp_isi T (evp_var rfl hv) (.own _) fun v G1 _ p => ⟨.rat, TI0.isI _ _ p, of_decide_eq_true T.kit_R_T⟩)) fun G1 H1 s1 => ?_
    have a1 := hA.stp s1
    have hv1 := Mono.mono s1.gg hv
    refine sift a1 (evt_B (evp_isi T (evp_var rfl hv1) (.own _) fun v G1 _ p => ⟨.rat, TI0.isI _ _ p, of_decide_eq_true T.kit_R_R⟩)) fun G2 H2 s2 => ?_
    have hv2 := Mono.mono s2.gg hv1
    refine sret (a1.stp s2) (evp_tup3 (evp_top T (evp_var rfl hv2)) (evp_c (v := .int 0)) (evp_bot T (evp_var rfl hv2))) fun v G3 H3 s3 p => k v G3 H3 ((s1.trans s2).trans s3) ?_
    obtain ⟨e1, e2, e3⟩ := g_rat q
    show TNum (ofR q) v G3
    unfold TNum
    rw [e1, e2, e3]; exact p
  · refine siff hA (evt_B (evp_isi T (evp_is (v := .int i) rfl) (.own _) fun v G1 _ p => ⟨.int, ⟨i, p⟩, of_decide_eq_true T.kit_i_T⟩)) fun G1 H1 s1 => ?_
    have a1 := hA.stp s1
    refine siff a1 (evt_B (evp_isi T (evp_is (v := .int i) rfl) (.own _) fun v G1 _ p => ⟨.int, ⟨i, p⟩, of_decide_eq_true T.kit_i_R⟩)) fun G2 H2 s2 => ?_
    have a2 := a1.stp s2
    refine siff a2 (evt_to (evt_not (evt_B (evp_isint (k := .int) (evp_is (v := .int i) rfl) rfl (.inl rfl) fun v G1 _ p => ⟨i, p⟩))) rfl) fun G3 H3 s3 => ?_
    refine sret (a2.stp s3) (evp_tup3 (evp_is (v := .int i) rfl) (evp_c (v := .int 0)) (evp_c (v := .int 1))) fun v G4 H4 s4 p => k v G4 H4 (((s1.trans s2).trans s3).trans s4) ?_
    obtain ⟨e1, e2, e3⟩ := g_int i
    show TNum (ofR q) v G4
    unfold TNum
    rw [hi, e1, e2, e3]; exact p
theorem small0 : RO 4400 0 := ⟨by decide, by decide⟩
theorem pow_big {a : Nat} (n : Nat) (h : a < 2 ^ 10) (hn : 10 ≤ n) : a < 2 ^ n := Nat.lt_of_lt_of_le h (Nat.pow_le_pow_right (by decide) hn)
theorem ro_int {i : Int} {n : Nat} (h : i.natAbs < 2 ^ n) (hn : 1 ≤ n) : RO n (i : Rat) := by
  refine ⟨by rw [show ((i : Rat)).num = i from rfl]; exact h, ?_⟩
  rw [show ((i : Rat)).den = 1 from rfl]
  exact Nat.lt_of_lt_of_le (by decide : (1 : Nat) < 2 ^ 1) (Nat.pow_le_pow_right (by decide) hn)
theorem evp_mkT1 {q : Rat} (h : EvP mu ta σ G (TRi q)) (o : RO 4400 q) : EvP mu (tMake N640.CT S_mkTwin [.int 0] E0 (tCons ta tNil)) σ G (TTw (ofR q)) :=
  evp_mk (eva_1 h) fun vs G1 _ ⟨v, ev, p⟩ => ⟨v, .int 0, by rw [ev]; rfl, .inr ⟨q, 0, p, .inr ⟨0, rfl, rfl⟩, o, ro_int (by decide) (by decide), rfl⟩⟩
def A_none (_ : Unit) (vs : List V) (G : Hp) : Prop := vs = []
abbrev S_nought : Sp := spP (pR A_none fun _ => TTw 0)
abbrev S_one : Sp := spP (pR A_none fun _ => TTw 1)
theorem m_nought : SemP (t_nought K S_mkTwin) n_nought A_none fun _ => TTw 0 := by
  intro mu z vs G H hA e D k
  have e : vs = [] := e
  subst e
  exact sret hA (evp_mkT1 (q := ((0 : Int) : Rat)) (evp_cP (v := .int 0) fun G1 _ => .inr ⟨0, rfl, rfl⟩) (ro_int (by decide) (by decide))) k
theorem m_one : SemP (t_one K S_mkTwin) n_one A_none fun _ => TTw 1 := by
  intro mu z vs G H hA e D k
  have e : vs = [] := e
  subst e
  exact sret hA (evp_mkT1 (q := ((1 : Int) : Rat)) (evp_cP (v := .int 1) fun G1 _ => .inr ⟨1, rfl, rfl⟩) (ro_int (by decide) (by decide))) k
end N640

set_option Elab.async false
set_option linter.all false
set_option maxRecDepth 100000
set_option maxHeartbeats 4000000
namespace N640
open PySem PySem.Spec PyProof.Rows L2 Gn
variable {K : PySem.W.Frag} {mu : Mu} {G H : Hp} {σ : L2.St} {ta tb tc : TE}
def A_tw (z : Gn) (vs : List V) (G : Hp) : Prop := ∃ v, vs = [v] ∧ TTw z v G
def A_twO (z : Gn) (vs : List V) (G : Hp) : Prop := ∃ v, vs = [v] ∧ TTw z v G ∧ Ok z
structure TP where
  z : Gn
  w : Gn
def A_tbin (x : TP) (vs : List V) (G : Hp) : Prop := ∃ v u, vs = [v, u] ∧ TTw x.z v G ∧ TVal x.w u G ∧ Ok x.z ∧ Ok x.w
abbrev B_tadd (x : TP) : Prd := TTw (x.z + x.w)
abbrev B_tsub (x : TP) : Prd := TTw (x.z - x.w)
abbrev B_tmul (x : TP) : Prd := TTw (x.z * x.w)
abbrev B_tover (x : TP) : Prd := TTw (x.z * inv x.w)
abbrev B_plain (z : Gn) : Prd := TRt z.re
abbrev B_nought (z : Gn) : Prd := TB (decide (z = 0))
abbrev B_mirror (z : Gn) : Prd := TTw (conj z)
abbrev B_size (z : Gn) : Prd := TRt (nsq z)
theorem m_plain (T : Tx K) : SemP (t_Twin_plain K S_ratio) n_Twin_plain A_twO B_plain := by
  intro mu z vs G H hA ⟨v, e, hv, o1, o2, o3⟩ D k
  subst e
  exact sret hA (evp_mkR (evp_pl T (evp_var rfl hv)) (evp_lo T (evp_var rfl hv)) (gl_ne z) (Nat.lt_of_lt_of_le o3 (Nat.pow_le_pow_right (by decide) (by decide))) (re_g z)) k
theorem m_nought0 (T : Tx K) : SemP (t_Twin_is_nought K) n_Twin_is_nought A_tw B_nought := by
  intro mu z vs G H hA ⟨v, e, hv⟩ D k
  subst e
  refine sret hA (evp_to (evp_and (evp_eqI (evp_pl T (evp_var rfl hv)) evp_c) fun _ => evp_eqI (evp_si T (evp_var rfl hv)) evp_c) ?_) k
  congr 1
  rw [← Bool.decide_and, decide_eq_decide]
  exact g_zero.symm
theorem told_step {i j l m : Nat} {D : Ends} {w : Gn} {u : V} (hA : At mu G H) (hu : TVal w u G) (hs : σ[m]? = some (some u)) (k : ∀ G' H', Stp mu G H G' H' → D.nx (((σ.set i (some (.int (gp w)))).set j (some (.int (gs w)))).set l (some (.int (gl w)))) H') :
    tAsg (tCall S_told [] E0 (tCons (tVar m) tNil)) (gTup K 3 (gCons (gName i) (gCons (gName j) (gCons (gName l) gNil)))) D σ H :=
  sasg3 hA (evp_c1 (x := w) (A := A_val) (B := B_num) (evp_var hs hu) fun v G1 _ p => ⟨v, rfl, p⟩) fun x y z G1 H1 s1 p1 p2 p3 => by
    cases p1; cases p2; cases p3
    exact k G1 H1 s1
theorem m_tadd (T : Tx K) : SemP (t_Twin_add K S_told S_byp) n_Twin_add A_tbin B_tadd := by
  intro mu ⟨z, w⟩ vs G H hA ⟨v, u, e, hv, hu, ⟨a1, a2, a3⟩, b1, b2, b3⟩ D k
  subst e
  refine told_step hA hu rfl fun G1 H1 s1 => ?_
  have hv1 := Mono.mono s1.gg hv
  have h1 := hA.stp s1
  refine spar h1 (evp_add (evp_mul (evp_pl T (evp_var rfl hv1)) (evp_is rfl) a1 b3) (evp_mul (evp_is rfl) (evp_lo T (evp_var rfl hv1)) b1 a3)) (evp_add (evp_mul (evp_si T (evp_var rfl hv1)) (evp_is rfl) a2 b3) (evp_mul (evp_is rfl) (evp_lo T (evp_var rfl hv1)) b2 a3)) fun x y G2 H2 s2 p1 p2 => ?_
  cases p1; cases p2
  have hv2 := Mono.mono s2.gg hv1
  refine sret (h1.stp s2) (evp_byp (z := z + w) (evp_is rfl) (evp_is rfl) (evp_mul (evp_lo T (evp_var rfl hv2)) (evp_is rfl) a3 b3) (Int.mul_pos (gl_pos z) (gl_pos w)) (bm a3 b3 (by decide)) ?_) fun v G3 H3 s3 p => k v G3 H3 ((s1.trans s2).trans s3) p
  rw [← val_add (gl_ne z) (gl_ne w), val_g, val_g]
theorem m_tsub (T : Tx K) : SemP (t_Twin_sub K S_told S_byp) n_Twin_sub A_tbin B_tsub := by
  intro mu ⟨z, w⟩ vs G H hA ⟨v, u, e, hv, hu, ⟨a1, a2, a3⟩, b1, b2, b3⟩ D k
  subst e
  refine told_step hA hu rfl fun G1 H1 s1 => ?_
  have hv1 := Mono.mono s1.gg hv
  have h1 := hA.stp s1
  refine spar h1 (evp_sub (evp_mul (evp_pl T (evp_var rfl hv1)) (evp_is rfl) a1 b3) (evp_mul (evp_is rfl) (evp_lo T (evp_var rfl hv1)) b1 a3)) (evp_sub (evp_mul (evp_si T (evp_var rfl hv1)) (evp_is rfl) a2 b3) (evp_mul (evp_is rfl) (evp_lo T (evp_var rfl hv1)) b2 a3)) fun x y G2 H2 s2 p1 p2 => ?_
  cases p1; cases p2
  have hv2 := Mono.mono s2.gg hv1
  refine sret (h1.stp s2) (evp_byp (z := z - w) (evp_is rfl) (evp_is rfl) (evp_mul (evp_lo T (evp_var rfl hv2)) (evp_is rfl) a3 b3) (Int.mul_pos (gl_pos z) (gl_pos w)) (bm a3 b3 (by decide)) ?_) fun v G3 H3 s3 p => k v G3 H3 ((s1.trans s2).trans s3) p
  rw [← val_sub (gl_ne z) (gl_ne w), val_g, val_g]
theorem m_tmul (T : Tx K) : SemP (t_Twin_mul K S_told S_byp) n_Twin_mul A_tbin B_tmul := by
  intro mu ⟨z, w⟩ vs G H hA ⟨v, u, e, hv, hu, ⟨a1, a2, a3⟩, b1, b2, b3⟩ D k
  subst e
  refine told_step hA hu rfl fun G1 H1 s1 => ?_
  have hv1 := Mono.mono s1.gg hv
  have h1 := hA.stp s1
  refine sasg h1 (evp_sub (evp_mul (evp_pl T (evp_var rfl hv1)) (evp_is rfl) a1 b1) (evp_mul (evp_si T (evp_var rfl hv1)) (evp_is rfl) a2 b2)) fun x G2 H2 s2 p1 => ?_
  cases p1
  have hv2 := Mono.mono s2.gg hv1
  refine sret (h1.stp s2) (evp_byp (z := z * w) (evp_is rfl) (evp_add (evp_mul (evp_pl T (evp_var rfl hv2)) (evp_is rfl) a1 b2) (evp_mul (evp_si T (evp_var rfl hv2)) (evp_is rfl) a2 b1)) (evp_mul (evp_lo T (evp_var rfl hv2)) (evp_is rfl) a3 b3) (Int.mul_pos (gl_pos z) (gl_pos w)) (bm a3 b3 (by decide)) ?_) fun v G3 H3 s3 p => k v G3 H3 ((s1.trans s2).trans s3) p
  rw [← val_mul (gl_ne z) (gl_ne w), val_g, val_g]
def A_tover (x : TP) (vs : List V) (G : Hp) : Prop := ∃ v u, vs = [v, u] ∧ TTw x.z v G ∧ TVal x.w u G ∧ Ok2 x.z ∧ Ok2 x.w ∧ x.w ≠ 0
theorem m_tover (T : Tx K) : SemP (t_Twin_over K S_told S_byp) n_Twin_over A_tover B_tover := by
  intro mu ⟨z, w⟩ vs G H hA ⟨v, u, e, hv, hu, ⟨a1, a2, a3⟩, ⟨b1, b2, b3⟩, w0⟩ D k
  subst e
  have w0 : w ≠ 0 := w0
  refine told_step hA hu rfl fun G1 H1 s1 => ?_
  have h1 := hA.stp s1
  refine sasg h1 (evp_add (evp_mul (evp_is rfl) (evp_is rfl) b1 b1) (evp_mul (evp_is rfl) (evp_is rfl) b2 b2)) fun x G2 H2 s2 p2 => ?_
  cases p2
  have h2 := h1.stp s2
  have hmost : (gp w * gp w + gs w * gs w).natAbs < 2 ^ 5801 := ba (bm b1 b1 (Nat.le_refl _)) (bm b2 b2 (Nat.le_refl _)) (by decide) (by decide)
  refine siff h2 (evt_to (evt_test (evp_eqI (evp_is rfl) evp_c)) (by simp [sq_ne w0])) fun G3 H3 s3 => ?_
  have h3 := h2.stp s3
  have hv3 := Mono.mono s3.gg (Mono.mono s2.gg (Mono.mono s1.gg hv))
  have n1 : (gp z * gp w + gs z * gs w).natAbs < 2 ^ 5801 := ba (bm a1 b1 (Nat.le_refl _)) (bm a2 b2 (Nat.le_refl _)) (by decide) (by decide)
  have n2 : (gs z * gp w - gp z * gs w).natAbs < 2 ^ 5801 := bs (bm a2 b1 (Nat.le_refl _)) (bm a1 b2 (Nat.le_refl _)) (by decide) (by decide)
  refine sasg h3 (evp_mul (evp_add (evp_mul (evp_pl T (evp_var rfl hv3)) (evp_is rfl) a1 b1) (evp_mul (evp_si T (evp_var rfl hv3)) (evp_is rfl) a2 b2)) (evp_is rfl) n1 b3) fun x G4 H4 s4 p4 => ?_
  cases p4
  have hv4 := Mono.mono s4.gg hv3
  refine sret (h3.stp s4) (evp_byp (z := z * inv w) (evp_is rfl) (evp_mul (evp_sub (evp_mul (evp_si T (evp_var rfl hv4)) (evp_is rfl) a2 b1) (evp_mul (evp_pl T (evp_var rfl hv4)) (evp_is rfl) a1 b2)) (evp_is rfl) n2 b3) (evp_mul (evp_lo T (evp_var rfl hv4)) (evp_is rfl) a3 hmost)
    (Int.mul_pos (gl_pos z) (sq_pos w0)) (bm a3 hmost (by decide)) ?_) fun v G5 H5 s5 p => k v G5 H5 ((((s1.trans s2).trans s3).trans s4).trans s5) p
  rw [← val_div (gl_ne z) (gl_ne w) (sq_ne w0), val_g, val_g]
theorem m_mirror (T : Tx K) : SemP (t_Twin_mirror K S_byp) n_Twin_mirror A_twO B_mirror := by
  intro mu z vs G H hA ⟨v, e, hv, a1, a2, a3⟩ D k
  subst e
  refine sret hA (evp_byp (z := conj z) (evp_pl T (evp_var rfl hv)) (evp_sub evp_c (evp_si T (evp_var rfl hv))) (evp_lo T (evp_var rfl hv)) (gl_pos z) (bn a3 (by decide)) ?_) k
  rw [← val_conj, val_g]
theorem nsq_g (z : Gn) : nsq z = ((gp z * gp z + gs z * gs z : Int) : Rat) / ((gl z * gl z : Int) : Rat) := by
  have h := cne (gl_ne z)
  unfold nsq
  rw [re_g, im_g, Rat.intCast_add, Rat.intCast_mul, Rat.intCast_mul, Rat.intCast_mul]
  grind
theorem m_size (T : Tx K) : SemP (t_Twin_size K S_ratio) n_Twin_size A_twO B_size := by
  intro mu z vs G H hA ⟨v, e, hv, a1, a2, a3⟩ D k
  subst e
  exact sret hA (evp_mkR (evp_add (evp_mul (evp_pl T (evp_var rfl hv)) (evp_pl T (evp_var rfl hv)) a1 a1) (evp_mul (evp_si T (evp_var rfl hv)) (evp_si T (evp_var rfl hv)) a2 a2)) (evp_mul (evp_lo T (evp_var rfl hv)) (evp_lo T (evp_var rfl hv)) a3 a3)
    (Int.mul_ne_zero (gl_ne z) (gl_ne z)) (bm a3 a3 (by decide)) (nsq_g z)) k
def A_teq (x : TP) (vs : List V) (G : Hp) : Prop := ∃ v u, vs = [v, u] ∧ TTw x.z v G ∧ TTw x.w u G
abbrev B_teq (x : TP) : Prd := TB (decide (x.z = x.w))
theorem g_eq {z w : Gn} : z = w ↔ gp z = gp w ∧ gs z = gs w ∧ gl z = gl w := ⟨fun e => by rw [e]; exact ⟨rfl, rfl, rfl⟩, fun ⟨h1, h2, h3⟩ => by rw [← val_g z, ← val_g w, h1, h2, h3]⟩
theorem m_teq (T : Tx K) : SemP (t_Twin_eq K) n_Twin_eq A_teq B_teq := by
  intro mu ⟨z, w⟩ vs G H hA ⟨v, u, e, hv, hu⟩ D k
  subst e
  refine siff hA (evt_to (evt_not (evt_B (evp_isi T (evp_var rfl hu) (.own _) fun v G1 _ p => ⟨.twin, TI0.isI _ _ p, of_decide_eq_true T.kit_T_T⟩))) rfl) fun G1 H1 s1 => ?_
  have hv1 := Mono.mono s1.gg hv
  have hu1 := Mono.mono s1.gg hu
  refine sret (hA.stp s1) (evp_to (evp_and (evp_eqI (evp_pl T (evp_var rfl hv1)) (evp_pl T (evp_var rfl hu1))) fun _ => evp_and (evp_eqI (evp_si T (evp_var rfl hv1)) (evp_si T (evp_var rfl hu1))) fun _ => evp_eqI (evp_lo T (evp_var rfl hv1)) (evp_lo T (evp_var rfl hu1))) ?_) fun v G2 H2 s2 p => k v G2 H2 (s1.trans s2) p
  congr 1
  rw [← Bool.decide_and, ← Bool.decide_and, decide_eq_decide]
  exact g_eq.symm
/-! is_value, twin_of -/
theorem TVal.cases' {z : Gn} {v : V} {G : Hp} (h : TVal z v G) : (IsK .twin v G ∧ TTw z v G) ∨ (IsK .rat v G ∧ ∃ q, TRt q v G ∧ z = ofR q) ∨ (IsK .int v G ∧ ∃ i : Int, v = .int i ∧ z = ofR i) := by
  rcases h with h | ⟨q, h | ⟨i, e, eq⟩, e2⟩
  · exact .inl ⟨TI0.isI _ _ h, h⟩
  · exact .inr (.inl ⟨TI0.isI _ _ h, q, h, e2⟩)
  · exact .inr (.inr ⟨⟨i, e⟩, i, e, by rw [e2, eq]⟩)
theorem m_isval (T : Tx K) : SemP (t_is_value K S_isint) n_is_value A_val fun _ => TB true := by
  intro mu z vs G H hA ⟨v, e, hv⟩ D k
  subst e
  refine sret (P := TB true) hA ?_ k
  rcases hv.cases' with ⟨kd, _⟩ | ⟨kd, _⟩ | ⟨kd, _⟩
  · exact evp_or (a := false) (b := true) (evp_isint (k := .twin) (evp_var (P := IsK .twin) rfl kd) rfl (.inr (.inr rfl)) fun _ _ _ p => p) fun _ => evp_isi2 (b := false) (b2 := true) T (evp_var (P := IsK .twin) rfl kd) (.own _) (.own _) fun v G1 _ p => ⟨_, p, of_decide_eq_true T.kit_T_R, of_decide_eq_true T.kit_T_T⟩
  · exact evp_or (a := false) (b := true) (evp_isint (k := .rat) (evp_var (P := IsK .rat) rfl kd) rfl (.inr (.inl rfl)) fun _ _ _ p => p) fun _ => evp_isi2 (b := true) (b2 := false) T (evp_var (P := IsK .rat) rfl kd) (.own _) (.own _) fun v G1 _ p => ⟨_, p, of_decide_eq_true T.kit_R_R, of_decide_eq_true T.kit_R_T⟩
  · exact evp_or (a := true) (b := true) (evp_isint (k := .int) (evp_var (P := IsK .int) rfl kd) rfl (.inl rfl) fun _ _ _ p => p) fun z => nomatch z
def A_valO (z : Gn) (vs : List V) (G : Hp) : Prop := ∃ v, vs = [v] ∧ TVal z v G ∧ Ok z
theorem ok_rat {q : Rat} (o : Ok (ofR q)) : RO 4400 q := by
  obtain ⟨e1, e2, e3⟩ := g_rat q
  obtain ⟨o1, _, o3⟩ := o
  rw [e1] at o1
  rw [e3] at o3
  exact ⟨bn o1 (by decide), bn o3 (by decide)⟩
theorem m_twinof (T : Tx K) : SemP (t_twin_of K S_mkTwin) n_twin_of A_valO fun z => TTw z := by
  intro mu z vs G H hA ⟨v, e, hv, o⟩ D k
  subst e
  refine sret (P := TTw z) hA ?_ k
  rcases hv.cases' with ⟨kd, h⟩ | ⟨kd, q, h, rfl⟩ | ⟨kd, i, rfl, rfl⟩
  · exact evp_if (A := (· = true)) (evt_B (evp_isi T (evp_var (P := IsK .twin) rfl kd) (.own _) fun v G1 _ p => ⟨_, p, of_decide_eq_true T.kit_T_T⟩)) (fun _ => evp_var rfl h) fun z => nomatch z
  · exact evp_if (A := (· = false)) (evt_B (evp_isi T (evp_var (P := IsK .rat) rfl kd) (.own _) fun v G1 _ p => ⟨_, p, of_decide_eq_true T.kit_R_T⟩)) (fun z => nomatch z) fun _ => evp_mkT1 (evp_var (P := TRi q) rfl (.inl h)) (ok_rat o)
  · exact evp_if (A := (· = false)) (evt_B (evp_isi T (evp_var (P := IsK .int) rfl kd) (.own _) fun v G1 _ p => ⟨_, p, of_decide_eq_true T.kit_i_T⟩)) (fun z => nomatch z) fun _ => evp_mkT1 (evp_var (P := TRi (i : Rat)) rfl (.inr ⟨i, rfl, rfl⟩)) (ok_rat o)
end N640

set_option Elab.async false
set_option linter.all false
set_option maxRecDepth 100000
set_option maxHeartbeats 4000000
/-! Loops; product_sum; tables. -/
namespace N640
open PySem PySem.Spec PyProof.Rows L2 Gn
section
variable {α : Type} {K : PySem.W.Frag} {mu : Mu} {G H : Hp} {σ : L2.St} {ta tb tc te : TE} {D : Ends} {tu : TS} {P P1 : Prd}
theorem gpair {A B : Prd} {i j : Nat} {v : V} {Q : L2.St → Hp → Prop} (hA : At mu G H) (h : TPr A B v G) (k : ∀ x y, A x G → B y G → Q ((σ.set i (some x)).set j (some y)) H) : gTup K 2 (gCons (gName i) (gCons (gName j) gNil)) v σ H Q := by
  obtain ⟨p, x, y, rfl, g, h1, h2⟩ := h
  exact ⟨p, [x, y], rfl, sqt_at hA g, rfl, x, [y], rfl, y, [], rfl, rfl, k x y h1 h2⟩
/-- a loop whose body makes objects and sets names -/
theorem sforP {xs : List α} {PI : α → Prd} {wi : TI} {g : TG} (a : At mu G H) (hi : EvI mu wi σ G xs PI) (W : Nat → L2.St → Hp → Prop) (wm : ∀ i σ G G', Ex G G' → W i σ G → W i σ G') (w0 : W 0 σ G)
    (turn : ∀ Gs Hs, Stp mu G H Gs Hs → ∀ i x v σ1 G2 H2, xs[i]? = some x → Stp mu Gs Hs G2 H2 → W i σ1 G2 → PI x v G2 →
      g v σ1 H2 fun σ2 H3 => tu { D with nx := fun σ' H' => ∃ G', Stp mu Gs Hs G' H' ∧ W (i + 1) σ' G', ct := fun σ' H' => ∃ G', Stp mu Gs Hs G' H' ∧ W (i + 1) σ' G', bk := D.nx } σ2 H3)
    (fin : ∀ σ1 G1 H1, Stp mu G H G1 H1 → W xs.length σ1 G1 → D.nx σ1 H1) : tFor wi g tu D σ H := by
  refine hi G H Ex.rfl' a _ fun J Gs Hs s J2 => ?_
  have as := a.stp s
  refine ⟨fun i mm σ' H' => mm = xs.length - i ∧ i ≤ xs.length ∧ ∃ G', Stp mu Gs Hs G' H' ∧ W i σ' G', ⟨xs.length, by simp, Nat.zero_le _, Gs, Stp.refl as, wm 0 σ G Gs s.gg w0⟩, ?_⟩
  rintro i mm σ' H' ⟨rfl, hle, G', s', w⟩
  have a' := as.stp s'
  by_cases hlt : i < xs.length
  · refine .inr ⟨J2.go i G' H' s'.gg a' hlt, fun σ2 H2 => ∃ G2, Stp mu Gs Hs G2 H2 ∧ W (i + 1) σ2 G2, fun σ2 H2 ⟨G2, q1, q2⟩ => ⟨xs.length - (i + 1), by omega, rfl, hlt, G2, q1, q2⟩, fun v H2 y => ?_⟩
    have hx : xs[i]? = some xs[i] := List.getElem?_eq_getElem hlt
    obtain ⟨G2, s2, p2⟩ := J2.yld i _ G' H' v H2 hx s'.gg a' y
    exact turn Gs Hs s i _ v σ' G2 H2 hx (s'.trans s2) (wm i σ' G' G2 s2.gg w) p2
  · have ei : i = xs.length := by omega
    subst ei
    exact .inl ⟨J2.stop G' H' s'.gg a', fin σ' G' H' (s.trans s') w⟩
end
/-! product_sum -/
variable {K : PySem.W.Frag} {mu : Mu} {G H : Hp} {σ : L2.St} {ta tb tc : TE}
abbrev S_tadd : Sp := spP (pR A_tbin B_tadd)
abbrev S_tsub : Sp := spP (pR A_tbin B_tsub)
abbrev S_tmul : Sp := spP (pR A_tbin B_tmul)
structure PSm where
  xs : List Nat
  f : Nat → Gn
  g : Nat → Gn
structure PSm.ok (x : PSm) : Prop where
  f : ∀ i, i ∈ x.xs → Ok (x.f i)
  g : ∀ i, i ∈ x.xs → Ok (x.g i)
  p : ∀ i, i ∈ x.xs → Ok (x.f i * x.g i)
  s : ∀ k, k ≤ x.xs.length → Ok (sm (x.xs.take k) fun i => x.f i * x.g i)
def A_psum (x : PSm) (vs : List V) (G : Hp) : Prop := ∃ v u, vs = [v, u] ∧ Lof (fun i => TTw (x.f i)) x.xs v G ∧ Lof (fun i => TTw (x.g i)) x.xs u G ∧ x.ok
abbrev B_psum (x : PSm) : Prd := TTw (sm x.xs fun i => x.f i * x.g i)
theorem evp_tadd {z w : Gn} (ha : EvP mu ta σ G (TTw z)) (hb : EvP mu tb σ G (TTw w)) (o1 : Ok z) (o2 : Ok w) : EvP mu (tOp (rOwn N640.CT N640.CT S_tadd) ta tb) σ G (TTw (z + w)) :=
  evp_bin (x := (⟨z, w⟩ : TP)) (A := A_tbin) (B := B_tadd) ha hb fun v u G1 _ p q => ⟨v, u, rfl, p, .inl q, o1, o2⟩
theorem evp_tsub {z w : Gn} (ha : EvP mu ta σ G (TTw z)) (hb : EvP mu tb σ G (TTw w)) (o1 : Ok z) (o2 : Ok w) : EvP mu (tOp (rOwn N640.CT N640.CT S_tsub) ta tb) σ G (TTw (z - w)) :=
  evp_bin (x := (⟨z, w⟩ : TP)) (A := A_tbin) (B := B_tsub) ha hb fun v u G1 _ p q => ⟨v, u, rfl, p, .inl q, o1, o2⟩
theorem evp_tmul {z w : Gn} (ha : EvP mu ta σ G (TTw z)) (hb : EvP mu tb σ G (TTw w)) (o1 : Ok z) (o2 : Ok w) : EvP mu (tOp (rOwn N640.CT N640.CT S_tmul) ta tb) σ G (TTw (z * w)) :=
  evp_bin (x := (⟨z, w⟩ : TP)) (A := A_tbin) (B := B_tmul) ha hb fun v u G1 _ p q => ⟨v, u, rfl, p, .inl q, o1, o2⟩
theorem take_succ_get {α : Type} {xs : List α} {i : Nat} {x : α} (h : xs[i]? = some x) : xs.take (i + 1) = xs.take i ++ [x] := by
  rw [List.take_succ, h] <;> rfl
theorem m_psum : SemP (t_product_sum K S_mkTwin S_tmul S_tadd) n_product_sum A_psum B_psum := by
  intro mu x vs G H hA ⟨v, u, e, hv, hu, o⟩ D k
  subst e
  refine sasg hA (evp_mkT1 (q := ((0 : Int) : Rat)) (evp_cP (v := .int 0) fun G1 _ => .inr ⟨0, rfl, rfl⟩) (ro_int (by decide) (by decide))) fun f0 G1 H1 s1 p1 => ?_
  have a1 := hA.stp s1
  have hv1 := Mono.mono s1.gg hv
  have hu1 := Mono.mono s1.gg hu
  refine sforP a1 (evi_zip (evp_var rfl hv1) (evp_var rfl hu1)) (fun i σ' G' => ∃ f a b, σ' = [some v, some u, some f, a, b] ∧ TTw (sm (x.xs.take i) fun i => x.f i * x.g i) f G') (fun i σ G G' e ⟨f, a, b, es, p⟩ => ⟨f, a, b, es, Mono.mono e p⟩)
    ⟨f0, none, none, rfl, p1⟩ (fun Gs Hs s0 i y w σ1 G2 H2 hy s2 ⟨f, a, b, es, p⟩ pw => ?_) fun σ1 G2 H2 s2 ⟨f, a, b, es, p⟩ => ?_
  · subst es
    have a2 := (a1.stp s0).stp s2
    have hm : y ∈ x.xs := List.mem_of_getElem? hy
    have hi : i < x.xs.length := (List.getElem?_eq_some_iff.mp hy).1
    refine gpair a2 pw fun l r pl pr => ?_
    refine sasg a2 (evp_tadd (evp_var rfl p) (evp_tmul (evp_var rfl pl) (evp_var rfl pr) (o.f y hm) (o.g y hm)) (o.s i (Nat.le_of_lt hi)) (o.p y hm)) fun f' G3 H3 s3 p3 => ⟨G3, s2.trans s3, f', some l, some r, rfl, ?_⟩
    rw [take_succ_get hy, sm_append]
    have e0 : sm [y] (fun i => x.f i * x.g i) = x.f y * x.g y := by show x.f y * x.g y + 0 = _; grind
    rw [e0]; exact p3
  · subst es
    rw [List.take_length] at p
    exact sret ((a1.stp s2)) (evp_var rfl p) fun v G3 H3 s3 q => k v G3 H3 ((s1.trans s2).trans s3) q
/-! tables as they are handed, tables of Twins -/
abbrev TSq (n : Nat) (f : Nat → Gn) : Prd := Sof (fun j => TVal (f j)) (List.range n)
abbrev TTab (n : Nat) (M : Mx) : Prd := Sof (fun i => TSq n (M i)) (List.range n)
abbrev TRow (n : Nat) (f : Nat → Gn) : Prd := Lof (fun j => TTw (f j)) (List.range n)
abbrev TMx (n : Nat) (M : Mx) : Prd := Lof (fun i => TRow n (M i)) (List.range n)
theorem Sof.kind {α : Type} {P : α → Prd} {xs : List α} {v : V} {G : Hp} (h : Sof P xs v G) : ∃ k : Kd, IsK k v G ∧ (k = .list ∨ k = .tup) := by
  rcases h with ⟨a, vs, e, g, _⟩ | ⟨a, vs, e, g, _⟩
  · exact ⟨.list, ⟨a, vs, e, g⟩, .inl rfl⟩
  · exact ⟨.tup, ⟨a, vs, e, g⟩, .inr rfl⟩
abbrev S_islist : Sp := spP (pR A_islist B_islist)
theorem evp_islist {P : Prd} [Mono P] (h : EvP mu ta σ G P) (hk : ∀ v G1, Ex G G1 → P v G1 → ∃ k : Kd, IsK k v G1 ∧ (k = .list ∨ k = .tup)) : EvP mu (tCall S_islist [] E0 (tCons ta tNil)) σ G (TB true) :=
  evp_call (eva_1 h) fun vs G1 e ⟨v, ev, p⟩ => by
    obtain ⟨kd, h1, h2⟩ := hk v G1 e p
    exact ⟨kd, ⟨v, by rw [ev]; rfl, h1, h2⟩, fun v G' _ b => b⟩
structure NF where
  n : Nat
  f : Nat → Gn
def A_vals (x : NF) (vs : List V) (G : Hp) : Prop := ∃ v, vs = [v, .int x.n] ∧ TSq x.n x.f v G ∧ x.n ≤ 8
abbrev S_isval : Sp := spP (pR A_val fun _ => TB true)
abbrev S_vals : Sp := spP (pR A_vals fun _ => TB true)
theorem all_true {α : Type} (xs : List α) : xs.all (fun _ => true) = true := by simp
theorem rlen (n : Nat) : (List.range n).length = n := by simp
theorem m_vals (T : Tx K) : SemP (t_are_values K S_islist S_isval) n_are_values A_vals fun _ => TB true := by
  intro mu x vs G H hA ⟨v, e, hv, h8⟩ D k
  subst e
  refine sret (P := TB true) hA (evp_and (a := true) (b := true) (evp_islist (evp_var rfl hv) fun v G1 _ p => p.kind) fun _ => evp_and (a := true) (b := true) ?_ fun _ => ?_) k
  · exact evp_to (evp_eqI (evp_len (evp_var rfl hv)) (evp_is rfl)) (by simp)
  · refine evp_to (evp_all (f := fun _ => true) (xs := List.range x.n) (evp_lcN (evi_seq rfl hv) (by simp; omega) (fun _ => rfl) fun i _ w G1 _ p G2 e2 => ?_)) (by rw [all_true])
    exact evp_c1 (x := x.f i) (A := A_val) (B := fun _ => TB true) (evp_var rfl (Mono.mono e2 p)) fun v G1 _ p => ⟨v, rfl, p⟩
end N640

set_option Elab.async false
set_option linter.all false
set_option maxRecDepth 100000
set_option maxHeartbeats 4000000
namespace N640
open PySem PySem.Spec PyProof.Rows L2 Gn
variable {K : PySem.W.Frag} {mu : Mu} {G H : Hp} {σ : L2.St} {ta tb tc : TE}
abbrev S_mirror : Sp := spP (pR A_twO B_mirror)
abbrev S_plain : Sp := spP (pR A_twO B_plain)
abbrev S_teq : Sp := spP (pR A_teq B_teq)
abbrev S_psum : Sp := spP (pR A_psum B_psum)
structure NM where
  n : Nat
  m : Mx
/-- what is asked of a table: few rows, mirrored, small -/
structure NM.ok (x : NM) : Prop where
  n0 : 1 ≤ x.n
  n8 : x.n ≤ 8
  her : Her x.m (List.range x.n)
  sz : ∀ i, i < x.n → ∀ j, j < x.n → Ok (x.m i j)
theorem evp_mirror {z : Gn} (h : EvP mu ta σ G (TTw z)) (o : Ok z) : EvP mu (tMeth N640.CT "mirror" S_mirror [] E0 ta tNil) σ G (TTw (conj z)) :=
  evp_m0 (x := z) (A := A_twO) (B := B_mirror) h rfl fun v G1 _ p => ⟨v, rfl, p, o⟩
theorem evp_at {n : Nat} {f : Nat → Gn} {i : Nat} (h : EvP mu ta σ G (TRow n f)) (hb : EvP mu tb σ G (TZ (i : Int))) (hi : i < n) : EvP mu (tOp (rIxL K) ta tb) σ G (TTw (f i)) :=
  evp_ixL (P := fun j => TTw (f j)) h hb (by rw [List.getElem?_range hi])
theorem evp_row {n : Nat} {m : Mx} {i : Nat} (h : EvP mu ta σ G (TMx n m)) (hb : EvP mu tb σ G (TZ (i : Int))) (hi : i < n) : EvP mu (tOp (rIxL K) ta tb) σ G (TRow n (m i)) :=
  evp_ixL (P := fun i => TRow n (m i)) h hb (by rw [List.getElem?_range hi])
def A_mx (x : NM) (vs : List V) (G : Hp) : Prop := ∃ v, vs = [v] ∧ TMx x.n x.m v G ∧ x.ok
theorem range_get {n i x : Nat} (h : (List.range n)[i]? = some x) : x = i ∧ i < n := by
  have hi := (List.getElem?_eq_some_iff.mp h).1
  simp at hi
  rw [List.getElem?_range hi] at h
  cases h
  exact ⟨rfl, hi⟩
theorem m_mirrored : SemP (t_is_mirrored K S_teq S_mirror) n_is_mirrored A_mx fun _ => TB true := by
  intro mu x vs G H hA ⟨v, e, hv, o⟩ D k
  subst e
  refine sforP hA (evi_enum (P := fun i => TRow x.n (x.m i)) (evp_var rfl hv)) (fun i σ' G' => ∃ a b c, σ' = [some v, a, b, c]) (fun i σ G G' e p => p) ⟨none, none, none, rfl⟩ (fun Gs Hs s0 i y w σ1 G2 H2 hy s2 ⟨a, b, c, es⟩ pw => ?_) fun σ1 G2 H2 s2 ⟨a, b, c, es⟩ => ?_
  · subst es
    obtain ⟨rfl, hi⟩ := range_get hy
    have a2 := (hA.stp s0).stp s2
    refine gpair a2 pw fun l r pl pr => ?_
    cases pl
    have hv2 := Mono.mono (s0.gg.trans s2.gg) hv
    refine sforP a2 (evi_rng (n := y + 1) ((eva_1 (evp_add (evp_is rfl) evp_c)).imp fun vs G1 _ ⟨v, e, p⟩ => by rw [e, show v = _ from p]; rfl) (by have := o.n8; omega)) (fun j σ' G' => ∃ c, σ' = [some v, some (.int (y : Int)), some r, c]) (fun i σ G G' e p => p) ⟨c, rfl⟩
      (fun Gs2 Hs2 s3 j z u σ1 G3 H3 hz s4 ⟨c, es⟩ pu => ?_) fun σ1 G3 H3 s3 ⟨c, es⟩ => ?_
    · subst es
      obtain ⟨rfl, hj⟩ := range_get hz
      cases pu
      have a3 := (a2.stp s3).stp s4
      have e3 := s3.gg.trans s4.gg
      have hj' : z < x.n := by omega
      have hh := o.her y (by simpa using hi) z (by simpa using hj')
      have hh2 : x.m y z = conj (x.m z y) := by rw [hh, conj_conj]
      refine siff (D := _) a3 (evt_to (evt_test (evp_ownNe (R := pR A_teq B_teq) (b := true) (evp_at (evp_var (P := TRow x.n (x.m y)) rfl (Mono.mono e3 pr)) (evp_is rfl) hj') (evp_mirror (evp_at (evp_row (evp_var (P := TMx x.n x.m) rfl (Mono.mono e3 hv2)) (evp_is rfl) hj') (evp_is rfl) hi) (o.sz z hj' y hi)) TI0.isI TI0.isI fun v u G1 _ p q => ⟨⟨x.m y z, conj (x.m z y)⟩, ⟨v, u, rfl, p, q⟩, fun v G' _ b => ?_⟩)) rfl) fun G4 H4 s5 => ⟨G4, s4.trans s5, some (.int (z : Int)), rfl⟩
      exact b.trans (by rw [show (⟨x.m y z, conj (x.m z y)⟩ : TP).z = _ from hh2]; simp)
    · subst es
      exact ⟨G3, s2.trans s3, _, _, _, rfl⟩
  · subst es
    exact sret (P := TB true) (σ := [some v, a, b, c]) (hA.stp s2) evp_c fun v G3 H3 s3 q => k v G3 H3 (s2.trans s3) q
def A_tab (x : NM) (vs : List V) (G : Hp) : Prop := ∃ v, vs = [v] ∧ TTab x.n x.m v G ∧ x.ok
abbrev B_mx (x : NM) : Prd := TMx x.n x.m
abbrev S_twinof : Sp := spP (pR A_valO fun z => TTw z)
abbrev S_mirrored : Sp := spP (pR A_mx fun _ => TB true)
theorem evp_chain {i j l : Int} (ha : EvP mu ta σ G (TZ i)) (hb : EvP mu tb σ G (TZ j)) (hc : EvP mu tc σ G (TZ l)) (h1 : i ≤ j) (h2 : j ≤ l) : EvP mu (tChain rLeI rLeI ta tb tc) σ G (TB true) := fun G1 H1 e a Q q =>
  ha G1 H1 e a _ fun x G2 H2 s2 p2 => hb G2 H2 (e.trans s2.gg) (a.stp s2) _ fun y G3 H3 s3 p3 => by
    cases p2; cases p3
    refine ⟨i, j, rfl, rfl, true, by show V.bl (decide (i ≤ j)) = V.bl true; rw [decide_eq_true h1], ?_⟩
    rw [if_pos rfl]
    refine hc G3 H3 ((e.trans s2.gg).trans s3.gg) ((a.stp s2).stp s3) _ fun z G4 H4 s4 p4 => ?_
    cases p4
    exact ⟨j, l, rfl, rfl, q _ G4 H4 ((s2.trans s3).trans s4) (by show V.bl (decide (j ≤ l)) = V.bl true; rw [decide_eq_true h2])⟩
theorem m_toldtab (T : Tx K) : SemP (t_told_table K S_islist S_vals S_twinof S_mirrored) n_told_table A_tab B_mx := by
  intro mu x vs G H hA ⟨v, e, hv, o⟩ D k
  subst e
  have h1 : (1 : Int) ≤ (x.n : Int) := by have := o.n0; omega
  have h8 : (x.n : Int) ≤ 8 := by have := o.n8; omega
  have len : ∀ {G1 : Hp} {σ : L2.St}, σ[0]? = some (some v) → Ex G G1 → EvP mu (tCB (rLenN K) (tCons (tVar 0) tNil)) σ G1 (TZ (x.n : Int)) := fun hs e => evp_to (evp_len (evp_var hs (Mono.mono e hv))) (by simp)
  refine siff hA (evt_to (evt_or (a := false) (b := false) (evt_to (evt_not (evt_B (evp_islist (evp_var rfl hv) fun v G1 _ p => p.kind))) rfl) fun _ => evt_to (evt_not (evt_test (evp_chain evp_c (len rfl Ex.rfl') evp_c h1 h8))) rfl) rfl) fun G1 H1 s1 => ?_
  have a1 := hA.stp s1
  have hv1 := Mono.mono s1.gg hv
  refine siff a1 (evt_to (evt_not (evt_B (evp_to (evp_all (f := fun _ => true) (xs := List.range x.n) (evp_lcN (evi_seq rfl hv1) (by have := o.n8; simp; omega) (fun _ => rfl) fun i _ w G2 e2 p G3 e3 => ?_)) (by rw [all_true])))) rfl) fun G2 H2 s2 => ?_
  · exact evp_c2 (x := (⟨x.n, x.m i⟩ : NF)) (A := A_vals) (B := fun _ => TB true) (evp_var rfl (Mono.mono e3 p)) (len rfl ((s1.gg.trans e2).trans e3)) fun v u G1 _ p q => ⟨v, by rw [show u = _ from q], p, o.n8⟩
  · have a2 := a1.stp s2
    have hv2 := Mono.mono s2.gg hv1
    refine sasg a2 (P := TMx x.n x.m) (evp_lcN (evi_seq rfl hv2) (by have := o.n8; simp; omega) (fun _ => rfl) fun i hi w G3 e3 p G4 e4 => evp_lcN (evi_seq rfl (Mono.mono e4 p)) (by have := o.n8; simp; omega) (fun _ => rfl) fun j hj u G5 e5 q G6 e6 => ?_) fun t G3 H3 s3 p3 => ?_
    · exact evp_c1 (x := x.m i j) (A := A_valO) (B := fun z => TTw z) (evp_var rfl (Mono.mono e6 q)) fun v G1 _ p => ⟨v, rfl, p, o.sz i (by simpa using hi) j (by simpa using hj)⟩
    · have a3 := a2.stp s3
      refine sret a3 (evp_if (A := (· = true)) (evt_B (evp_c1 (x := x) (A := A_mx) (B := fun _ => TB true) (evp_var rfl p3) fun v G1 _ p => ⟨v, rfl, p, o⟩)) (fun _ => evp_var rfl p3) fun z => nomatch z) fun v G4 H4 s4 p => k v G4 H4 (((s1.trans s2).trans s3).trans s4) p
abbrev S_toldtab : Sp := spP (pR A_tab B_mx)
theorem Lof.ne_non {α : Type} {P : α → Prd} {xs : List α} {v : V} {G : Hp} (h : Lof P xs v G) : decide (v = .non) = false := by
  obtain ⟨a, vs, rfl, _⟩ := h; rfl
theorem evp_isN0 {P : Prd} {b : Bool} [Mono P] (h : EvP mu ta σ G P) (hf : ∀ v G1, Ex G G1 → P v G1 → decide (v = .non) = b) : EvP mu (tOp rIsN ta (tC .non)) σ G (TB b) :=
  evp_op h (evp_c (v := .non)) fun x y G1 e p q => by
    cases q
    exact RvP.pure (v := .bl b) (fun Q H hA k => ⟨rfl, by rw [hf x G1 e p]; exact k⟩) rfl
theorem evp_notN0 {P : Prd} {b : Bool} [Mono P] (h : EvP mu ta σ G P) (hf : ∀ v G1, Ex G G1 → P v G1 → decide (v = .non) = b) : EvP mu (tOp rNotNn ta (tC .non)) σ G (TB (!b)) :=
  evp_op h (evp_c (v := .non)) fun x y G1 e p q => by
    cases q
    exact RvP.pure (v := .bl (!b)) (fun Q H hA k => ⟨rfl, by rw [hf x G1 e p]; exact k⟩) rfl
theorem m_want : SemP (t_want_table K S_toldtab) n_want_table A_tab B_mx := by
  intro mu x vs G H hA ⟨v, e, hv, o⟩ D k
  subst e
  refine sasg hA (evp_c1 (x := x) (A := A_tab) (B := B_mx) (evp_var rfl hv) fun v G1 _ p => ⟨v, rfl, p, o⟩) fun t G1 H1 s1 p1 => ?_
  have a1 := hA.stp s1
  refine siff a1 (evt_test (evp_isN0 (evp_var (P := TMx x.n x.m) rfl p1) fun v G1 _ p => p.ne_non)) fun G2 H2 s2 => ?_
  exact sret (a1.stp s2) (evp_var (P := TMx x.n x.m) rfl (Mono.mono s2.gg p1)) fun v G3 H3 s3 p => k v G3 H3 ((s1.trans s2).trans s3) p
end N640

set_option Elab.async false
set_option linter.all false
set_option maxRecDepth 100000
set_option maxHeartbeats 4000000
namespace N640
open PySem PySem.Spec PyProof.Rows L2 Gn
section
variable {α β : Type} {K : PySem.W.Frag} {mu : Mu} {G H : Hp} {σ : L2.St} {ta tb tc te : TE}
theorem Vof.all {P : Prd} {vs : List V} (h : ∀ v, v ∈ vs → P v G) : Vof (fun _ : Unit => P) (List.replicate vs.length ()) vs G :=
  ⟨by simp, fun i v x a _ => h v (List.mem_of_getElem? a)⟩
/-- two clauses, the items all of one kind -/
theorem evp_lc2N {xs : List α} {ys : α → List β} {PI : α → Prd} {PJ : α → β → Prd} {P : Prd} [m : Mono P] {wi wi1 : TI} {j l : Nat} {vs vs1 : List Nat} (hi : EvI mu wi σ G xs PI) (h8 : xs.length ≤ 8) (hw : ∀ v, wipe ((wipe σ vs).set j (some v)) vs = wipe σ vs)
    (hw1 : ∀ v u, wipe ((wipe ((wipe σ vs).set j (some v)) vs1).set l (some u)) vs1 = wipe ((wipe σ vs).set j (some v)) vs1) (hy8 : ∀ x, x ∈ xs → (ys x).length ≤ 8)
    (hi1 : ∀ x, x ∈ xs → ∀ v G1, Ex G G1 → PI x v G1 → EvI mu wi1 ((wipe σ vs).set j (some v)) G1 (ys x) (PJ x))
    (he : ∀ x, x ∈ xs → ∀ y, y ∈ ys x → ∀ v u G1, Ex G G1 → PI x v G1 → ∀ G2, Ex G1 G2 → PJ x y u G2 → EvP mu te ((wipe ((wipe σ vs).set j (some v)) vs1).set l (some u)) G2 P) :
    EvP mu (tLc2 wi (gName j) tYes wi1 (gName l) tYes te vs vs1) σ G (fun v G' => ∃ N, Lof (fun _ : Unit => P) (List.replicate N ()) v G') := by
  intro G1 H e a Q q
  refine hi G1 H e a _ fun J G2 H2 s2 J2 => ?_
  intro Dl hD
  have a2 := a.stp s2
  have sD := a2.hid (.lst []) hD
  -- what is kept: the new list, its items, how long it may be
  have hne : ∀ {Gx Hx Gy Hy : Hp} {acc : List V}, At mu Gx Hx → Gx Dl = none → Hx Dl = some (.lst acc) → Stp mu Gx Hx Gy Hy → Gy Dl = none ∧ Hy Dl = some (.lst acc) := fun {Gx Hx Gy Hy acc} _ gD hDc s => ⟨(s.fr Dl (by rw [hDc]; intro z; cases z)).trans gD, s.hh Dl _ (fun z => a2.fresh hD z) hDc⟩
  refine ⟨fun i mm Hc => mm = xs.length - i ∧ i ≤ xs.length ∧ ∃ Gc acc, Stp mu G2 H2 Gc Hc ∧ Gc Dl = none ∧ Hc Dl = some (.lst acc) ∧ (∀ v, v ∈ acc → P v Gc) ∧ acc.length ≤ 8 * i, ⟨xs.length, by simp, Nat.zero_le _, G2, [], sD, a2.gnone hD, upd_same, (fun v hv => by cases hv), Nat.zero_le _⟩, ?_⟩
  rintro i mm Hc ⟨rfl, hile, Gc, acc, sc, gD, hDc, fv, hacc⟩
  have ac := a2.stp sc
  by_cases hlt : i < xs.length
  · refine .inr ⟨J2.go i Gc Hc sc.gg ac hlt, fun H' => ∃ Gn acc', Stp mu G2 H2 Gn H' ∧ Gn Dl = none ∧ H' Dl = some (.lst acc') ∧ (∀ v, v ∈ acc' → P v Gn) ∧ acc'.length ≤ 8 * (i + 1), fun H' h => ⟨xs.length - (i + 1), by omega, rfl, hlt, h⟩, fun v H' y => ?_⟩
    have hx : xs[i]? = some xs[i] := List.getElem?_eq_getElem hlt
    have hxm : xs[i] ∈ xs := List.getElem_mem hlt
    obtain ⟨G3, s3, p3⟩ := J2.yld i _ Gc Hc v H' hx sc.gg ac y
    have a3 := ac.stp s3
    have sc3 := sc.trans s3
    obtain ⟨gD3, hD3⟩ := hne ac gD hDc s3
    refine ⟨hw v, ?_⟩
    simp only [tYes, if_true]
    refine hi1 _ hxm v G3 (e.trans (s2.gg.trans sc3.gg)) p3 G3 H' Ex.rfl' a3 _ fun J1 G4 H4 s4 J4 => ?_
    have a4 := a3.stp s4
    obtain ⟨gD4, hD4⟩ := hne a3 gD3 hD3 s4
    have s34 := s3.trans s4
    refine ⟨fun j' mm Hd => mm = (ys xs[i]).length - j' ∧ j' ≤ (ys xs[i]).length ∧ ∃ Gd acc', Stp mu G2 H2 Gd Hd ∧ Ex G4 Gd ∧ Gd Dl = none ∧ Hd Dl = some (.lst acc') ∧ (∀ v, v ∈ acc' → P v Gd) ∧ acc'.length ≤ 8 * i + j', ⟨(ys xs[i]).length, by simp, Nat.zero_le _, G4, acc, sc.trans s34, Ex.rfl', gD4, hD4, (fun v hv => m.mono s34.gg (fv v hv)), hacc⟩, ?_⟩
    rintro j' mm' Hd ⟨rfl, hjle, Gd, acc', sd, ed, gDd, hDd, fd, hacc'⟩
    have ad := a2.stp sd
    have h8' := hy8 _ hxm
    by_cases hlt' : j' < (ys xs[i]).length
    · refine .inr ⟨J4.go j' Gd Hd ed ad hlt', fun H5 => ∃ Gn acc2, Stp mu G2 H2 Gn H5 ∧ Ex G4 Gn ∧ Gn Dl = none ∧ H5 Dl = some (.lst acc2) ∧ (∀ v, v ∈ acc2 → P v Gn) ∧ acc2.length ≤ 8 * i + (j' + 1), fun H5 h => ⟨(ys xs[i]).length - (j' + 1), by omega, rfl, hlt', h⟩, fun u H5 y5 => ?_⟩
      have hy : (ys xs[i])[j']? = some (ys xs[i])[j'] := List.getElem?_eq_getElem hlt'
      obtain ⟨G5, s5, p5⟩ := J4.yld j' _ Gd Hd u H5 hy ed ad y5
      have a5 := ad.stp s5
      refine ⟨hw1 v u, ?_⟩
      refine he _ hxm _ (List.getElem_mem hlt') v u G3 (e.trans (s2.gg.trans sc3.gg)) p3 G5 ((s4.gg.trans ed).trans s5.gg) p5 G5 H5 Ex.rfl' a5 _ fun w G6 H6 s6 pw => ?_
      obtain ⟨gx, hx'⟩ := hne ad gDd hDd (s5.trans s6)
      refine ⟨acc', hx', ?_, G6, acc' ++ [w], ((sd.trans s5).trans s6).put _ hD gx (a2.fresh hD), (ed.trans s5.gg).trans s6.gg, gx, upd_same, fun z hz => ?_, ?_⟩
      · have : acc'.length ≤ 1000 := by omega
        exact small1000 this
      · rcases List.mem_append.mp hz with hz | hz
        · exact m.mono (s5.trans s6).gg (fd z hz)
        · rw [List.mem_singleton.mp hz]; exact pw
      · simp; omega
    · have ej : j' = (ys xs[i]).length := by omega
      refine .inl ⟨ej ▸ J4.stop Gd Hd ed ad, Gd, acc', sd, gDd, hDd, fd, by omega⟩
  · have ei : i = xs.length := by omega
    subst ei
    refine .inl ⟨J2.stop Gc Hc sc.gg ac, q _ _ _ (s2.trans (sc.show_ a2.ex hD hDc)) ⟨acc.length, Dl, acc, rfl, upd_same, Vof.all fun v hv => m.mono (Ex.new gD) (fv v hv)⟩⟩
end
end N640

set_option Elab.async false
set_option linter.all false
set_option maxRecDepth 100000
set_option maxHeartbeats 4000000
namespace N640
open PySem PySem.Spec PyProof.Rows L2 Gn
variable {K : PySem.W.Frag} {mu : Mu} {G H : Hp} {σ : L2.St} {ta tb tc : TE}
instance {P Q : Prd} [Mono P] [Mono Q] : Mono (fun v G => P v G ∧ Q v G) := ⟨fun e h => ⟨Mono.mono e h.1, Mono.mono e h.2⟩⟩
instance {ι : Type} {P : ι → Prd} [∀ i, Mono (P i)] : Mono (fun v G => ∃ i, P i v G) := ⟨fun e ⟨i, h⟩ => ⟨i, Mono.mono e h⟩⟩
theorem evp_allT (h : EvP mu ta σ G (fun v G' => ∃ N, Lof (fun _ : Unit => TB true) (List.replicate N ()) v G')) : EvP mu (tCB (rAll K) (tCons ta tNil)) σ G (TB true) :=
  evp_tcb (eva_1 h) fun vs G1 _ ⟨v, e, N, a, ys, ev, g, f⟩ => by
    subst ev
    refine RvP.pure (v := .bl true) (fun Q H hA q => ⟨a, (List.replicate N ()).map fun _ => true, e, by rw [← vof_bools (f := fun _ => true) f]; exact sql_at hA g, ?_⟩) rfl
    have : ((List.replicate N ()).map fun _ => true).all id = true := by simp
    rw [this]; exact q
structure PF where
  n : Nat
  m : Mx
  u : Nat → Gn
  w : Nat → Gn
def PF.r (x : PF) : Nat → Gn := fun i => sm (List.range x.n) fun j => x.m i j * conj (x.w j)
structure PF.ok (x : PF) : Prop where
  n8 : x.n ≤ 8
  w : ∀ j, j < x.n → Ok (x.w j)
  row : ∀ i, i < x.n → (⟨List.range x.n, x.m i, fun j => conj (x.w j)⟩ : PSm).ok
  all : (⟨List.range x.n, x.u, x.r⟩ : PSm).ok
def A_pf (x : PF) (vs : List V) (G : Hp) : Prop := ∃ v a b, vs = [v, a, b] ∧ TMx x.n x.m v G ∧ TRow x.n x.u a G ∧ TRow x.n x.w b G ∧ x.ok
abbrev B_pf (x : PF) : Prd := TTw (pf x.m (List.range x.n) x.u x.w)
theorem pf_eq (x : PF) : pf x.m (List.range x.n) x.u x.w = sm (List.range x.n) fun i => x.u i * x.r i :=
  sm_congr fun i _ => by
    show _ = x.u i * sm (List.range x.n) (fun j => x.m i j * conj (x.w j))
    rw [← sm_mulL]
    exact sm_congr fun j _ => by grind
theorem m_pf : SemP (t_pair_form K S_mirror S_psum) n_pair_form A_pf B_pf := by
  intro mu x vs G H hA ⟨v, a, b, e, hv, ha, hb, o⟩ D k
  subst e
  have hl : (List.range x.n).length ≤ 1000 := by have := o.n8; simp; omega
  refine sasg hA (P := TRow x.n fun j => conj (x.w j)) (evp_lcN (evi_list (evp_var (P := TRow x.n x.w) rfl hb)) hl (fun _ => rfl) fun j hj w G1 _ p G2 e2 => evp_mirror (evp_var rfl (Mono.mono e2 p)) (o.w j (by simpa using hj))) fun c G1 H1 s1 p1 => ?_
  have hv1 := Mono.mono s1.gg hv
  have ha1 := Mono.mono s1.gg ha
  rw [show B_pf x = TTw (sm (List.range x.n) fun i => x.u i * x.r i) from by rw [B_pf, pf_eq]] at k
  refine sret (hA.stp s1) (evp_c2 (x := (⟨List.range x.n, x.u, x.r⟩ : PSm)) (A := A_psum) (B := B_psum) (evp_var (P := TRow x.n x.u) rfl ha1) (P2 := TRow x.n x.r) (evp_lcN (evi_list (evp_var (P := TMx x.n x.m) rfl hv1)) hl (fun _ => rfl) fun i hi w G2 e2 p G3 e3 => ?_) fun v u G1 _ p q => ⟨v, u, rfl, p, q, o.all⟩) fun v G2 H2 s2 p => k v G2 H2 (s1.trans s2) p
  exact evp_c2 (x := (⟨List.range x.n, x.m i, fun j => conj (x.w j)⟩ : PSm)) (A := A_psum) (B := B_psum) (evp_var (P := TRow x.n (x.m i)) rfl (Mono.mono e3 p)) (evp_var (P := TRow x.n fun j => conj (x.w j)) rfl (Mono.mono (e2.trans e3) p1)) fun v u G1 _ p q => ⟨v, u, rfl, p, q, o.row i (by simpa using hi)⟩
abbrev S_pf : Sp := spP (pR A_pf B_pf)
def A_form (x : PF) (vs : List V) (G : Hp) : Prop := ∃ v a, vs = [v, a] ∧ TMx x.n x.m v G ∧ TRow x.n x.u a G ∧ x.w = x.u ∧ x.ok
abbrev B_form (x : PF) : Prd := TRt (fm x.m (List.range x.n) x.u).re
theorem evp_plain {z : Gn} (h : EvP mu ta σ G (TTw z)) (o : Ok z) : EvP mu (tProp N640.CT S_plain [] E0 ta) σ G (TRt z.re) :=
  evp_pr (x := z) (A := A_twO) (B := B_plain) h fun v G1 _ p => ⟨v, rfl, p, o⟩
theorem PF.ok.tot {x : PF} (o : x.ok) : Ok (pf x.m (List.range x.n) x.u x.w) := by
  have h := o.all.s x.n (by simp)
  rw [pf_eq]
  have e : (List.range x.n).take x.n = List.range x.n := List.take_of_length_le (by simp)
  rw [show ((⟨List.range x.n, x.u, x.r⟩ : PSm).xs.take x.n) = List.range x.n from e] at h
  exact h
theorem m_form : SemP (t_form_of K S_pf S_plain) n_form_of A_form B_form := by
  intro mu x vs G H hA ⟨v, a, e, hv, ha, hw, o⟩ D k
  subst e
  have ha2 : TRow x.n x.w a G := hw ▸ ha
  have ot := o.tot
  rw [show B_form x = TRt (pf x.m (List.range x.n) x.u x.w).re from by rw [B_form, hw]] at k
  exact sret hA (evp_plain (evp_c3 (x := x) (A := A_pf) (B := B_pf) (evp_var rfl hv) (P2 := fun v G => TRow x.n x.u v G ∧ TRow x.n x.w v G) (P3 := TRow x.n x.w) (evp_var rfl ⟨ha, ha2⟩) (evp_var rfl ha2) fun v u w G1 _ p q r => ⟨v, u, w, rfl, p, q.1, r, o⟩) ot) k
/-! picked -/
theorem Lof.reidx {α : Type} {P : α → Prd} {xs : List α} {v : V} {G : Hp} (d : α) (h : Lof P xs v G) : Lof (fun i => P (xs.getD i d)) (List.range xs.length) v G := by
  obtain ⟨a, vs, e, g, hl, hp⟩ := h
  refine ⟨a, vs, e, g, by simp [hl], fun i w y h1 h2 => ?_⟩
  obtain ⟨rfl, hi⟩ := range_get h2
  exact hp y w _ h1 (by rw [List.getD_eq_getElem?_getD, List.getElem?_eq_getElem hi]; rfl)
structure PK' where
  n : Nat
  m : Mx
  I : List Nat
structure PK'.ok (x : PK') : Prop where
  ne : x.I ≠ []
  nd : x.I.Nodup
  lt : ∀ i, i ∈ x.I → i < x.n
  l8 : x.I.length ≤ 8
abbrev TPos (I : List Nat) : Prd := Lof (fun i : Nat => TZ (i : Int)) I
def A_pick (x : PK') (vs : List V) (G : Hp) : Prop := ∃ v a, vs = [v, a] ∧ TMx x.n x.m v G ∧ TPos x.I a G ∧ x.ok
abbrev B_pick (x : PK') : Prd := TMx x.I.length (pk x.m x.I)
theorem m_pickof : SemP (t_picked_of K) n_picked_of A_pick B_pick := by
  intro mu x vs G H hA ⟨v, a, e, hv, ha, o⟩ D k
  subst e
  have hl : x.I.length ≤ 1000 := by have := o.l8; omega
  refine sret hA (P := Lof (fun i => Lof (fun j => TTw (x.m i j)) x.I) x.I) (evp_lcN (evi_list (evp_var (P := TPos x.I) rfl ha)) hl (fun _ => rfl) fun i hi w G1 e1 p G2 e2 => evp_lcN (evi_list (evp_var (P := TPos x.I) rfl (Mono.mono (e1.trans e2) ha))) hl (fun _ => rfl) fun j hj u G3 e3 q G4 e4 => ?_) fun v G1 H1 s1 p => k v G1 H1 s1 ?_
  · cases p; cases q
    exact evp_at (evp_row (evp_var (P := TMx x.n x.m) rfl (Mono.mono (((e1.trans e2).trans e3).trans e4) hv)) (evp_is rfl) (o.lt i hi)) (evp_is rfl) (o.lt j hj)
  · have q := p.reidx 0
    exact q.imp fun i _ v h => h.reidx 0
def A_apos (x : PK') (vs : List V) (G : Hp) : Prop := ∃ v, vs = [v, .int x.n] ∧ TPos x.I v G ∧ x.ok
abbrev S_count : Sp := spP (pR A_count B_count)
theorem m_apos (T : Tx K) : SemP (t_are_positions K S_islist S_count) n_are_positions A_apos fun _ => TB true := by
  intro mu x vs G H hA ⟨v, e, hv, o⟩ D k
  subst e
  have hl : x.I.length ≤ 1000 := by have := o.l8; omega
  have hne : ¬ ((x.I.length : Int) = 0) := by
    have := List.length_pos_iff.mpr o.ne
    omega
  have len : ∀ {G1 : Hp} {σ : L2.St}, σ[0]? = some (some v) → Ex G G1 → EvP mu (tCB (rLenN K) (tCons (tVar 0) tNil)) σ G1 (TZ (x.I.length : Int)) := fun hs e => evp_len (P := fun i : Nat => TZ (i : Int)) (evp_var (P := Sof (fun i : Nat => TZ (i : Int)) x.I) hs (.inl (Mono.mono e hv)))
  refine siff hA (evt_to (evt_or (a := false) (b := false) (evt_to (evt_not (evt_B (evp_islist (evp_var (P := TPos x.I) rfl hv) fun v G1 _ ⟨a, vs, e, g, _⟩ => ⟨.list, ⟨a, vs, e, g⟩, .inl rfl⟩))) rfl) fun _ => evt_or (a := false) (b := false) (evt_to (evt_test (evp_eqI (len rfl Ex.rfl') evp_c)) (decide_eq_false hne)) fun _ =>
    evt_to (evt_not (evt_B (evp_to (evp_all (f := fun _ => true) (xs := x.I) (evp_lcN (evi_list (evp_var (P := TPos x.I) rfl hv)) hl (fun _ => rfl) fun i hi w G1 e1 p G2 e2 => ?_)) (by rw [all_true])))) rfl) rfl) fun G1 H1 s1 => ?_
  · cases p
    have hlt := o.lt i hi
    exact evp_and (a := true) (b := true) (evp_to (evp_c1 (x := (i : Int)) (A := A_count) (B := B_count) (evp_is (v := .int i) rfl) fun v G1 _ p => by rw [show v = _ from p]; rfl) (by simp)) fun _ => evp_to (evp_lt (evp_is rfl) (evp_is rfl)) (by simp; omega)
  · have a1 := hA.stp s1
    have hv1 := Mono.mono s1.gg hv
    have go : EvP mu _ _ G1 _ := evp_lc2N (mu := mu) (σ := start n_are_positions [v, .int x.n]) (G := G1) (P := TB true) (wi := iRng1 (tCons (tCB (rLenN K) (tCons (tVar 0) tNil)) tNil)) (wi1 := iRng1 (tCons (tVar 3) tNil)) (j := 3) (l := 4) (vs := [3, 4]) (vs1 := [4]) (te := tOp rNe (tOp (rIxL K) (tVar 0) (tVar 4)) (tOp (rIxL K) (tVar 0) (tVar 3)))
      (xs := List.range x.I.length) (ys := fun i => List.range i) (PI := fun i => TZ (i : Int)) (PJ := fun _ j => TZ (j : Int)) (evi_rng ((eva_1 (len rfl s1.gg)).imp fun vs G1 _ ⟨v, e, p⟩ => by rw [e, show v = _ from p]) (by omega)) (by have := o.l8; simp; omega) (fun _ => rfl) (fun _ _ => rfl)
      (fun i hi => by have := o.l8; simp at hi ⊢; omega) (fun i hi v G2 e2 p => by cases p; exact evi_rng ((eva_1 (evp_is (v := .int i) rfl)).imp fun vs G1 _ ⟨v, e, p⟩ => by rw [e, show v = _ from p]) (by simp at hi; omega))
      (fun i hi j hj w u G2 e2 p G3 e3 q => by
        cases p; cases q
        have hi' : i < x.I.length := by simpa using hi
        have hj' : j < i := by simpa using hj
        refine evp_to (evp_neI (evp_ixL (P := fun i : Nat => TZ (i : Int)) (x := x.I[j]'(by omega)) (evp_var (P := TPos x.I) rfl (Mono.mono (e2.trans e3) hv1)) (evp_is rfl) (List.getElem?_eq_getElem _)) (evp_ixL (P := fun i : Nat => TZ (i : Int)) (x := x.I[i]) (evp_var (P := TPos x.I) rfl (Mono.mono (e2.trans e3) hv1)) (evp_is rfl) (List.getElem?_eq_getElem _))) ?_
        have : x.I[j]'(by omega) ≠ x.I[i] := List.pairwise_iff_getElem.mp o.nd j i (by omega) hi' hj'
        simp; omega)
    exact sret (P := TB true) a1 (evp_allT go) fun v G2 H2 s2 p => k v G2 H2 (s1.trans s2) p
end N640

set_option Elab.async false
set_option linter.all false
set_option maxRecDepth 100000
set_option maxHeartbeats 4000000
/-! The Walk: an object and two lists that change. -/
namespace N640
open PySem PySem.Spec PyProof.Rows L2 Gn
structure WD where
  p : Addr
  dx : Addr
  lv : Addr
  lw : Addr
  ll : Addr
  vls : List V
  wls : List V
def WD.fs (d : WD) : List (Str × V) := [("own_values", .ref d.lv), ("own_weights", .ref d.lw), ("own_left", .ref d.ll)]
def WD.mt (d : WD) (b : Addr) : Prop := b = d.p ∨ b = d.lv ∨ b = d.lw
def addW (mu : Mu) (d : WD) : Mu where
  mt b := mu.mt b ∨ d.mt b
  inv H := mu.inv H ∧ H d.p = some (.ins N640.CW d.dx d.fs) ∧ H d.lv = some (.lst d.vls) ∧ H d.lw = some (.lst d.wls)
  loc H H' h i := ⟨mu.loc H H' (fun b hb => h b (.inl hb)) i.1, (h _ (.inr (.inl rfl))).trans i.2.1, (h _ (.inr (.inr (.inl rfl)))).trans i.2.2.1, (h _ (.inr (.inr (.inr rfl)))).trans i.2.2.2⟩
  here H b i hb := by
    rcases hb with hb | rfl | rfl | rfl
    · exact mu.here H b i.1 hb
    · rw [i.2.1]; intro z; cases z
    · rw [i.2.2.1]; intro z; cases z
    · rw [i.2.2.2]; intro z; cases z
/-- what the walk's parts stand for -/
structure WF (d : WD) (n : Nat) (Vv Ww : Mx) (left : List Nat) (G : Hp) : Prop where
  v : Vof (fun i => TRow n (Vv i)) (List.range n) d.vls G
  w : Vof (fun i => TRow n (Ww i)) (List.range n) d.wls G
  l : TPos left (.ref d.ll) G
  ne : d.lv ≠ d.lw
theorem WF.mono {d : WD} {n : Nat} {Vv Ww : Mx} {left : List Nat} {G G' : Hp} (h : WF d n Vv Ww left G) (e : Ex G G') : WF d n Vv Ww left G' := ⟨h.v.mono e, h.w.mono e, Mono.mono e h.l, h.ne⟩
structure WS where
  d : WD
  n : Nat
  v : Mx
  w : Mx
  left : List Nat
structure WS.at (s : WS) (G : Hp) : Prop where
  f : WF s.d s.n s.v s.w s.left G
  k : Wk s.n s.v s.w s.left
  n4 : s.n ≤ 4
theorem WS.at.mono {s : WS} {G G' : Hp} (h : s.at G) (e : Ex G G') : s.at G' := ⟨h.f.mono e, h.k, h.n4⟩
theorem kx4 {t : Nat} (h : t ≤ 4) : kx t ≤ 889 := Nat.le_trans (kx_mono h) (by decide)
theorem WS.at.szv {s : WS} {G : Hp} (h : s.at G) {i j : Nat} (hi : i < s.n) (hj : j < s.n) : Sz 889 (s.v i j) := (h.k.bv.sz hi hj).mono (kx4 (by have := h.n4; omega))
theorem WS.at.szw {s : WS} {G : Hp} (h : s.at G) {i j : Nat} (hi : i < s.n) (hj : j < s.n) : Sz 889 (s.w i j) := (h.k.bw.sz hi hj).mono (kx4 (by have := h.n4; omega))
theorem Sz.ok {k : Nat} {z : Gn} (h : Sz k z) (e : k ≤ 4400 := by decide) : Ok z := h.mono e
theorem Sz.ok2 {k : Nat} {z : Gn} (h : Sz k z) (e : k ≤ 2900 := by decide) : Ok2 z := h.mono e
section
variable {K : PySem.W.Frag} {mu : Mu} {G H : Hp} {σ : L2.St} {ta tb tc : TE} {D : Ends} {d : WD}
theorem evp_wf {f : Str} {x : V} (c : Cls K N640.CW) (n : NoAttr K N640.CW f) (hl : d.fs.lookup f = some x) (h : EvP (addW mu d) ta σ G (TIs (.ref d.p))) : EvP (addW mu d) (tFld K ta f) σ G (TIs x) :=
  fun G1 H e a Q q => h G1 H e a _ fun v G2 H2 s2 e1 => ⟨d.p, N640.CW, d.dx, d.fs, x, e1, (a.stp s2).iv.2.1, c, n, hl, q x G2 H2 s2 rfl⟩
theorem evp_wv (T : Tx K) (h : EvP (addW mu d) ta σ G (TIs (.ref d.p))) : EvP (addW mu d) (tFld K ta "own_values") σ G (TIs (.ref d.lv)) := evp_wf (bCls_ok T.clsW) (He.eqO_ok T.no_own_values_W) rfl h
theorem evp_ww (T : Tx K) (h : EvP (addW mu d) ta σ G (TIs (.ref d.p))) : EvP (addW mu d) (tFld K ta "own_weights") σ G (TIs (.ref d.lw)) := evp_wf (bCls_ok T.clsW) (He.eqO_ok T.no_own_weights_W) rfl h
theorem evp_wl (T : Tx K) {left : List Nat} (h : EvP (addW mu d) ta σ G (TIs (.ref d.p))) (hl : TPos left (.ref d.ll) G) : EvP (addW mu d) (tFld K ta "own_left") σ G (TPos left) :=
  (evp_wf (bCls_ok T.clsW) (He.eqO_ok T.no_own_left_W) rfl h).imp fun v G1 e p => by cases p; exact Mono.mono e hl
theorem evp_wvi {n : Nat} {Vv : Mx} {i : Nat} (f : Vof (fun i => TRow n (Vv i)) (List.range n) d.vls G) (ha : EvP (addW mu d) ta σ G (TIs (.ref d.lv))) (hb : EvP (addW mu d) tb σ G (TZ (i : Int))) (hi : i < n) : EvP (addW mu d) (tOp (rIxL K) ta tb) σ G (TRow n (Vv i)) :=
  evp_op ha hb fun v w G1 e e1 e2 => by
    cases e1; cases e2
    obtain ⟨y, hy, p⟩ := (f.mono e).at (List.getElem?_range hi)
    exact RvP.pure (v := y) (fun Q H hA q => ⟨d.lv, d.vls, i, y, rfl, rfl, SqL.of hA.iv.2.2.1, atI_nat hy, q⟩) p
theorem evp_wwi {n : Nat} {Ww : Mx} {i : Nat} (f : Vof (fun i => TRow n (Ww i)) (List.range n) d.wls G) (ha : EvP (addW mu d) ta σ G (TIs (.ref d.lw))) (hb : EvP (addW mu d) tb σ G (TZ (i : Int))) (hi : i < n) : EvP (addW mu d) (tOp (rIxL K) ta tb) σ G (TRow n (Ww i)) :=
  evp_op ha hb fun v w G1 e e1 e2 => by
    cases e1; cases e2
    obtain ⟨y, hy, p⟩ := (f.mono e).at (List.getElem?_range hi)
    exact RvP.pure (v := y) (fun Q H hA q => ⟨d.lw, d.wls, i, y, rfl, rfl, SqL.of hA.iv.2.2.2, atI_nat hy, q⟩) p
theorem evp_wlen {n : Nat} {Vv : Mx} (f : Vof (fun i => TRow n (Vv i)) (List.range n) d.vls G) (ha : EvP (addW mu d) ta σ G (TIs (.ref d.lv))) : EvP (addW mu d) (tCB (rLenN K) (tCons ta tNil)) σ G (TZ (n : Int)) :=
  evp_tcb (eva_1 ha) fun vs G1 _ ⟨v, e, p⟩ => by
    cases p
    refine RvP.pure (v := .int n) (fun Q H hA q => ⟨d.lv, d.vls, e, .inl (SqL.of hA.iv.2.2.1), ?_⟩) rfl
    rw [f.1]; simpa using q
/-! promises that only read the walk -/
def rW {τ : Type} (A : τ → WS → List V → Hp → Prop) (B : τ → WS → Prd) : Rq := fun mu' vs G P => ∃ mu s x, mu' = addW mu s.d ∧ s.at G ∧ A x s vs G ∧ ∀ v G', Ex G G' → B x s v G' → P v G'
def SemW {τ : Type} (t : TS) (N : List Str) (A : τ → WS → List V → Hp → Prop) (B : τ → WS → Prd) : Prop :=
  ∀ (mu : Mu) (s : WS) (x : τ) (vs : List V) (G H : Hp), At (addW mu s.d) G H → s.at G → A x s vs G → ∀ D : Ends, (∀ v G' H', Stp (addW mu s.d) G H G' H' → B x s v G' → D.rt v H') → t D (start N vs) H
theorem SemW.meets {τ : Type} {t : TS} {N : List Str} {A : τ → WS → List V → Hp → Prop} {B : τ → WS → Prd} (h : SemW t N A B) : Meets t N (rW A B) := fun mu' vs G H P hA ⟨mu, s, x, e, w, a, b⟩ Q q => by
  subst e
  exact h mu s x vs G H hA w a _ fun v G' H' st p => q v G' H' st (b v G' st.gg p)
theorem inst_w {m : Str} (hm : d.fs.lookup m = none) {v : V} {G1 : Hp} (e : v = .ref d.p) : Inst (addW mu d) N640.CW m v G1 := fun H hA => ⟨d.p, d.dx, d.fs, e, hA.iv.2.1, hm⟩
variable {τ : Type} {A : τ → WS → List V → Hp → Prop} {B : τ → WS → Prd} {x : τ} {s : WS} {P1 P2 : Prd}
theorem evp_wm0 {m : Str} (w : s.at G) (h : EvP (addW mu s.d) ta σ G (TIs (.ref s.d.p))) (hm : s.d.fs.lookup m = none) (k : ∀ G1, Ex G G1 → A x s [.ref s.d.p] G1) : EvP (addW mu s.d) (tMeth N640.CW m (spP (rW A B)) [] E0 ta tNil) σ G (B x s) :=
  evp_meth (PA := fun vs _ => vs = []) h (fun v G1 _ e => inst_w hm e) eva_nil fun v vs G1 e p pv => ⟨mu, s, x, rfl, w.mono e, by rw [pv, show v = _ from p]; exact k G1 e, fun v G' _ b => b⟩
theorem evp_wm1 {m : Str} [Mono P1] (w : s.at G) (h : EvP (addW mu s.d) ta σ G (TIs (.ref s.d.p))) (hm : s.d.fs.lookup m = none) (h1 : EvP (addW mu s.d) tb σ G P1) (k : ∀ u G1, Ex G G1 → P1 u G1 → A x s [.ref s.d.p, u] G1) : EvP (addW mu s.d) (tMeth N640.CW m (spP (rW A B)) [] E0 ta (tCons tb tNil)) σ G (B x s) :=
  evp_meth h (fun v G1 _ e => inst_w hm e) (eva_1 h1) fun v vs G1 e p ⟨u, pv, q⟩ => ⟨mu, s, x, rfl, w.mono e, by rw [pv, show v = _ from p]; exact k u G1 e q, fun v G' _ b => b⟩
theorem evp_wc3 [Mono P1] [Mono P2] (w : s.at G) (h : EvP (addW mu s.d) ta σ G (TIs (.ref s.d.p))) (h1 : EvP (addW mu s.d) tb σ G P1) (h2 : EvP (addW mu s.d) tc σ G P2) (k : ∀ u y G1, Ex G G1 → P1 u G1 → P2 y G1 → A x s [.ref s.d.p, u, y] G1) : EvP (addW mu s.d) (tCall (spP (rW A B)) [] E0 (tCons ta (tCons tb (tCons tc tNil)))) σ G (B x s) :=
  evp_call (eva_3 h h1 h2) fun vs G1 e ⟨v, u, y, pv, p, q, r⟩ => ⟨mu, s, x, rfl, w.mono e, by rw [pv, show v = _ from p]; exact k u y G1 e q r, fun v G' _ b => b⟩
/-! changes -/
theorem Rel.putM {m : Addr → Prop} {G0 H0 G H : Hp} {a : Addr} {o u : HO} (r : Rel m G0 H0 G H) (ma : m a) (g : G a = none) : Rel m G0 H0 G (upd H a o) := r.putA o ma g
theorem ne_il {H : Hp} {a b : Addr} {C dx : Addr} {fs : List (Str × V)} {vs : List V} (h : H a = some (.ins C dx fs)) (h2 : H b = some (.lst vs)) : a ≠ b := ne_of h h2 (fun z => nomatch z)
theorem At.setV {i : Nat} {y : V} (a : At (addW mu d) G H) (hm : ¬ mu.mt d.lv) (hne : d.lv ≠ d.lw) : At (addW mu { d with vls := d.vls.set i y }) G (upd H d.lv (.lst (d.vls.set i y))) := by
  have g : G d.lv = none := a.nm _ (.inr (.inr (.inl rfl)))
  have hp : d.p ≠ d.lv := ne_il a.iv.2.1 a.iv.2.2.1
  refine ⟨fun b u e => ?_, fun b hb => a.nm b hb, ?_, ?_, ?_, ?_⟩
  · rw [upd_ne (ne_of_none e g)]; exact a.ex b u e
  · exact mu.loc H _ (fun b hb => upd_ne fun q => hm (q ▸ hb)) a.iv.1
  · show upd H d.lv _ d.p = _; rw [upd_ne hp]; exact a.iv.2.1
  · exact upd_same
  · show upd H d.lv _ d.lw = _; rw [upd_ne hne.symm]; exact a.iv.2.2.2
theorem At.setWt {i : Nat} {y : V} (a : At (addW mu d) G H) (hm : ¬ mu.mt d.lw) (hne : d.lv ≠ d.lw) : At (addW mu { d with wls := d.wls.set i y }) G (upd H d.lw (.lst (d.wls.set i y))) := by
  have g : G d.lw = none := a.nm _ (.inr (.inr (.inr rfl)))
  have hp : d.p ≠ d.lw := ne_il a.iv.2.1 a.iv.2.2.2
  refine ⟨fun b u e => ?_, fun b hb => a.nm b hb, ?_, ?_, ?_, ?_⟩
  · rw [upd_ne (ne_of_none e g)]; exact a.ex b u e
  · exact mu.loc H _ (fun b hb => upd_ne fun q => hm (q ▸ hb)) a.iv.1
  · show upd H d.lw _ d.p = _; rw [upd_ne hp]; exact a.iv.2.1
  · show upd H d.lw _ d.lv = _; rw [upd_ne hne]; exact a.iv.2.2.1
  · exact upd_same
theorem At.setL {l : Addr} (a : At (addW mu d) G H) (hm : ¬ mu.mt d.p) : At (addW mu { d with ll := l }) G (upd H d.p (.ins N640.CW d.dx (WD.fs { d with ll := l }))) := by
  have g : G d.p = none := a.nm _ (.inr (.inl rfl))
  have h1 : d.p ≠ d.lv := ne_il a.iv.2.1 a.iv.2.2.1
  have h2 : d.p ≠ d.lw := ne_il a.iv.2.1 a.iv.2.2.2
  refine ⟨fun b u e => ?_, fun b hb => a.nm b hb, ?_, ?_, ?_, ?_⟩
  · rw [upd_ne (ne_of_none e g)]; exact a.ex b u e
  · exact mu.loc H _ (fun b hb => upd_ne fun q => hm (q ▸ hb)) a.iv.1
  · exact upd_same
  · show upd H d.p _ d.lv = _; rw [upd_ne h1.symm]; exact a.iv.2.2.1
  · show upd H d.p _ d.lw = _; rw [upd_ne h2.symm]; exact a.iv.2.2.2
/-- what a reading does with the walk's objects in sight, seen from where they were not yet there -/
theorem Stp.under {G0 H0 G' H' : Hp} (s0 : Stp mu G0 H0 G H) (fr : ∀ b, d.mt b → H0 b = none) (r : Rel (fun b => mu.mt b ∨ d.mt b) G H G' H') (iv : mu.inv H') : Stp mu G0 H0 G' H' := by
  refine ⟨⟨fun b o n e => ?_, fun b e => r.lv b (s0.lv b e), s0.gg.trans r.gg, r.gh, fun b e => (r.fr b (s0.lv b e)).trans (s0.fr b e)⟩, iv⟩
  refine r.hh b o (fun z => z.elim n fun z => ?_) (s0.hh b o n e)
  rw [fr b z] at e; cases e
end
end N640

set_option Elab.async false
set_option linter.all false
set_option maxRecDepth 100000
set_option maxHeartbeats 4000000
namespace N640
open PySem PySem.Spec PyProof.Rows L2 Gn
variable {K : PySem.W.Frag} {mu : Mu} {G H : Hp} {σ : L2.St} {ta tb tc : TE} {d : WD} {s : WS}
/-! picked -/
abbrev S_want : Sp := spP (pR A_tab B_mx)
abbrev S_apos : Sp := spP (pR A_apos fun _ => TB true)
abbrev S_pickof : Sp := spP (pR A_pick B_pick)
def A_picked (x : PK') (vs : List V) (G : Hp) : Prop := ∃ v a, vs = [v, a] ∧ TTab x.n x.m v G ∧ TPos x.I a G ∧ x.ok ∧ (⟨x.n, x.m⟩ : NM).ok
theorem m_picked : SemP (t_picked K S_want S_apos S_pickof) n_picked A_picked B_pick := by
  intro mu x vs G H hA ⟨v, a, e, hv, ha, o, om⟩ D k
  subst e
  refine sasg hA (evp_c1 (x := (⟨x.n, x.m⟩ : NM)) (A := A_tab) (B := B_mx) (evp_var (P := TTab x.n x.m) rfl hv) fun v G1 _ p => ⟨v, rfl, p, om⟩) fun t G1 H1 s1 p1 => ?_
  have a1 := hA.stp s1
  have ha1 := Mono.mono s1.gg ha
  refine siff a1 (evt_to (evt_not (evt_B (evp_c2 (x := x) (A := A_apos) (B := fun _ => TB true) (evp_var (P := TPos x.I) rfl ha1) (P2 := TZ (x.n : Int)) (evp_to (evp_len (P := fun i => TRow x.n (x.m i)) (evp_var (P := Sof (fun i => TRow x.n (x.m i)) (List.range x.n)) rfl (.inl p1))) (by simp)) fun v u G2 _ p q => ⟨v, by rw [show u = _ from q], p, o⟩))) rfl) fun G2 H2 s2 => ?_
  exact sret (a1.stp s2) (evp_c2 (x := x) (A := A_pick) (B := B_pick) (evp_var (P := TMx x.n x.m) rfl (Mono.mono s2.gg p1)) (evp_var (P := TPos x.I) rfl (Mono.mono s2.gg ha1)) fun v u G3 _ p q => ⟨v, u, rfl, p, q, o⟩) fun v G3 H3 s3 p => k v G3 H3 ((s1.trans s2).trans s3) p
/-! the walk's readers -/
def A_mid (i : Nat) (s : WS) (vs : List V) (G : Hp) : Prop := vs = [.ref s.d.p, .int i] ∧ i < s.n
abbrev B_mid (i : Nat) (s : WS) : Prd := TRt (s.v i i).re
abbrev S_mid : Sp := spP (rW A_mid B_mid)
theorem m_mid (T : Tx K) : SemW (t_Walk_middle K S_plain) n_Walk_middle A_mid B_mid := by
  intro mu s i vs G H hA w ⟨e, hi⟩ D k
  subst e
  exact sret hA (evp_plain (evp_at (evp_wvi w.f.v (evp_wv T (evp_is rfl)) (evp_is rfl) hi) (evp_is rfl) hi) (w.szv hi hi).ok) k
theorem evp_mid {i : Nat} (w : s.at G) (h : EvP (addW mu s.d) ta σ G (TIs (.ref s.d.p))) (hb : EvP (addW mu s.d) tb σ G (TZ (i : Int))) (hi : i < s.n) : EvP (addW mu s.d) (tMeth N640.CW "middle" S_mid [] E0 ta (tCons tb tNil)) σ G (TRt (s.v i i).re) :=
  evp_wm1 (x := i) (A := A_mid) (B := B_mid) w h rfl hb fun u G1 _ p => ⟨by rw [show u = _ from p], hi⟩
abbrev S_sign : Sp := spP (pR A_rat B_sign)
theorem evp_sign {q : Rat} (h : EvP mu ta σ G (TRt q)) : EvP mu (tProp N640.CR S_sign [] E0 ta) σ G (TZ (sg q)) :=
  evp_pr (x := q) (A := A_rat) (B := B_sign) h fun v G1 _ p => ⟨v, rfl, p⟩
abbrev S_isnought : Sp := spP (pR A_tw B_nought)
theorem evp_isnought {z : Gn} (h : EvP mu ta σ G (TTw z)) : EvP mu (tProp N640.CT S_isnought [] E0 ta) σ G (TB (decide (z = 0))) :=
  evp_pr (x := z) (A := A_tw) (B := B_nought) h fun v G1 _ p => ⟨v, rfl, p⟩
/-- the first place with that sign -/
def fw (s : WS) (g : Int) : Option Nat := s.left.find? fun i => decide (sg (s.v i i).re = g)
def TO (o : Option Nat) : Prd := TIs (match o with | none => .non | some i => .int i)
instance {o : Option Nat} : Mono (TO o) := ⟨fun _ h => h⟩
theorem find_at {α : Type} {f : α → Bool} : ∀ {xs : List α} {i : Nat} {x : α}, xs[i]? = some x → (xs.take i).find? f = none → f x = true → xs.find? f = some x
  | [], _, _, h, _, _ => by simp at h
  | y :: ys, 0, x, h, _, hf => by
    simp at h; subst h
    rw [List.find?_cons, hf]
  | y :: ys, i + 1, x, h, hn, hf => by
    rw [List.take_succ_cons, List.find?_cons] at hn
    cases e : f y with
    | true => rw [e] at hn; cases hn
    | false =>
      rw [e] at hn
      rw [List.find?_cons, e]
      exact find_at (by simpa using h) hn hf
theorem find_next {α : Type} {f : α → Bool} {xs : List α} {i : Nat} {x : α} (h : xs[i]? = some x) (hn : (xs.take i).find? f = none) (hf : f x = false) : (xs.take (i + 1)).find? f = none := by
  rw [take_succ_get h, List.find?_append, hn]; simp [hf]
def A_fw (g : Int) (s : WS) (vs : List V) (G : Hp) : Prop := vs = [.ref s.d.p, .int g]
abbrev B_fw (g : Int) (s : WS) : Prd := TO (fw s g)
abbrev S_fw : Sp := spP (rW A_fw B_fw)
theorem m_fw (T : Tx K) : SemW (t_Walk_first_with K S_mid S_sign) n_Walk_first_with A_fw B_fw := by
  intro mu s g vs G H hA w e D k
  have e : vs = [.ref s.d.p, .int g] := e
  subst e
  refine sforP hA (evi_list (P := fun i : Nat => TZ (i : Int)) (evp_wl T (evp_is rfl) w.f.l)) (fun i σ' G' => (∃ c, σ' = [some (.ref s.d.p), some (.int g), c]) ∧ (s.left.take i).find? (fun i => decide (sg (s.v i i).re = g)) = none) (fun i σ G G' e p => p) ⟨⟨none, rfl⟩, rfl⟩
    (fun Gs Hs s0 i y u σ1 G2 H2 hy s2 ⟨⟨c, es⟩, hn⟩ pu => ?_) fun σ1 G2 H2 s2 ⟨⟨c, es⟩, hn⟩ => ?_
  · subst es
    cases pu
    have a2 := (hA.stp s0).stp s2
    have w2 := w.mono (s0.gg.trans s2.gg)
    have hy' : y < s.n := w.k.lt (List.mem_of_getElem? hy)
    refine sifb (b := decide (sg (s.v y y).re = g)) (D := _) a2 (evt_test (evp_eqI (evp_sign (evp_mid w2 (evp_is rfl) (evp_is rfl) hy')) (evp_is rfl))) (fun hb G3 H3 s3 => ?_) fun hb G3 H3 s3 => ?_
    · refine sret (P := TO (some y)) (a2.stp s3) (evp_is (v := .int y) rfl) fun v G4 H4 s4 p => k v G4 H4 (((s0.trans s2).trans s3).trans s4) ?_
      show TO (fw s g) v _
      rw [show fw s g = some y from find_at hy hn hb]; exact p
    · exact ⟨G3, s2.trans s3, ⟨_, rfl⟩, find_next hy hn hb⟩
  · subst es
    rw [List.take_length] at hn
    refine sret (P := TN) (σ := [some (.ref s.d.p), some (.int g), c]) (hA.stp s2) evp_c fun v G3 H3 s3 p => k v G3 H3 (s2.trans s3) ?_
    show TO (fw s g) v _
    rw [show fw s g = none from hn]; exact p
/-- the first pair beside a nought -/
def fbr (s : WS) (a : Nat) (b : Nat) : Bool := decide (sg (s.v a a).re = 0) && !decide (s.v a b = 0)
def fb (s : WS) : Option (Nat × Nat) := s.left.findSome? fun a => (s.left.find? (fbr s a)).map fun b => (a, b)
def TOP (o : Option (Nat × Nat)) : Prd := match o with
  | none => TN
  | some (a, b) => TPr (TZ (a : Int)) (TZ (b : Int))
instance {o : Option (Nat × Nat)} : Mono (TOP o) := by
  cases o with
  | none => exact (inferInstance : Mono TN)
  | some x => exact (inferInstance : Mono (TPr (TZ (x.1 : Int)) (TZ (x.2 : Int))))
theorem findS_at {α β : Type} {f : α → Option β} : ∀ {xs : List α} {i : Nat} {x : α} {y : β}, xs[i]? = some x → (xs.take i).findSome? f = none → f x = some y → xs.findSome? f = some y
  | [], _, _, _, h, _, _ => by simp at h
  | z :: zs, 0, x, y, h, _, hf => by
    simp at h; subst h
    rw [List.findSome?_cons, hf]
  | z :: zs, i + 1, x, y, h, hn, hf => by
    rw [List.take_succ_cons, List.findSome?_cons] at hn
    cases e : f z with
    | some _ => rw [e] at hn; cases hn
    | none =>
      rw [e] at hn
      rw [List.findSome?_cons, e]
      exact findS_at (by simpa using h) hn hf
theorem findS_next {α β : Type} {f : α → Option β} {xs : List α} {i : Nat} {x : α} (h : xs[i]? = some x) (hn : (xs.take i).findSome? f = none) (hf : f x = none) : (xs.take (i + 1)).findSome? f = none := by
  rw [take_succ_get h, List.findSome?_append, hn]; simp [hf]
def A_fb (_ : Unit) (s : WS) (vs : List V) (G : Hp) : Prop := vs = [.ref s.d.p]
abbrev B_fb (_ : Unit) (s : WS) : Prd := TOP (fb s)
abbrev S_fb : Sp := spP (rW A_fb B_fb)
theorem m_fb (T : Tx K) : SemW (t_Walk_first_beside K S_mid S_sign S_isnought) n_Walk_first_beside A_fb B_fb := by
  intro mu s g vs G H hA w e D k
  have e : vs = [.ref s.d.p] := e
  subst e
  refine sforP hA (evi_list (P := fun i : Nat => TZ (i : Int)) (evp_wl T (evp_is rfl) w.f.l)) (fun i σ' G' => (∃ b c, σ' = [some (.ref s.d.p), b, c]) ∧ (s.left.take i).findSome? (fun a => (s.left.find? (fbr s a)).map fun b => (a, b)) = none) (fun i σ G G' e p => p) ⟨⟨none, none, rfl⟩, rfl⟩
    (fun Gs Hs s0 i y u σ1 G2 H2 hy s2 ⟨⟨b, c, es⟩, hn⟩ pu => ?_) fun σ1 G2 H2 s2 ⟨⟨b, c, es⟩, hn⟩ => ?_
  · subst es
    cases pu
    have a2 := (hA.stp s0).stp s2
    have w2 := w.mono (s0.gg.trans s2.gg)
    have hy' : y < s.n := w.k.lt (List.mem_of_getElem? hy)
    refine sforP a2 (evi_list (P := fun i : Nat => TZ (i : Int)) (evp_wl T (evp_is rfl) w2.f.l)) (fun j σ' G' => (∃ c, σ' = [some (.ref s.d.p), some (.int y), c]) ∧ (s.left.take j).find? (fbr s y) = none) (fun i σ G G' e p => p) ⟨⟨c, rfl⟩, rfl⟩
      (fun Gs2 Hs2 s3 j z u2 σ1 G3 H3 hz s4 ⟨⟨c, es⟩, hn2⟩ pu2 => ?_) fun σ1 G3 H3 s3 ⟨⟨c, es⟩, hn2⟩ => ?_
    · subst es
      cases pu2
      have a3 := (a2.stp s3).stp s4
      have w3 := w2.mono (s3.gg.trans s4.gg)
      have hz' : z < s.n := w.k.lt (List.mem_of_getElem? hz)
      have test : EvT (addW mu s.d) (tAnd (tTest (tOp rEq (tProp N640.CR S_sign [] E0 (tMeth N640.CW "middle" S_mid [] E0 (tVar 0) (tCons (tVar 1) tNil))) (tC (.int 0)))) (tNot (tB (tProp N640.CT S_isnought [] E0 (tOp (rIxL K) (tOp (rIxL K) (tFld K (tVar 0) "own_values") (tVar 1)) (tVar 2))))))
          [some (.ref s.d.p), some (.int y), some (.int z)] G3 (· = fbr s y z) :=
        evt_and (evt_test (evp_eqI (evp_sign (evp_mid w3 (evp_is rfl) (evp_is rfl) hy')) evp_c)) fun _ => evt_not (evt_B (evp_isnought (evp_at (evp_wvi w3.f.v (evp_wv T (evp_is rfl)) (evp_is rfl) hy') (evp_is rfl) hz')))
      refine sifb (D := _) a3 test (fun hb G4 H4 s5 => ?_) fun hb G4 H4 s5 => ?_
      · refine sret (a3.stp s5) (evp_tup2 (evp_is (v := .int y) rfl) (evp_is (v := .int z) rfl)) fun v G5 H5 s6 p => k v G5 H5 (((((s0.trans s2).trans s3).trans s4).trans s5).trans s6) ?_
        have e1 : s.left.find? (fbr s y) = some z := find_at hz hn2 hb
        show TOP (fb s) v _
        rw [show fb s = some (y, z) from findS_at hy hn (by rw [e1]; rfl)]; exact p
      · exact ⟨G4, s4.trans s5, ⟨_, rfl⟩, find_next hz hn2 hb⟩
    · subst es
      rw [List.take_length] at hn2
      exact ⟨G3, s2.trans s3, ⟨_, _, rfl⟩, findS_next hy hn (by rw [hn2]; rfl)⟩
  · subst es
    rw [List.take_length] at hn
    refine sret (P := TN) (σ := [some (.ref s.d.p), b, c]) (hA.stp s2) evp_c fun v G3 H3 s3 p => k v G3 H3 (s2.trans s3) ?_
    show TOP (fb s) v _
    rw [show fb s = none from hn]; exact p
end N640

set_option Elab.async false
set_option linter.all false
set_option maxRecDepth 100000
set_option maxHeartbeats 4000000
namespace N640
open PySem PySem.Spec PyProof.Rows L2 Gn
section
variable {α : Type} {K : PySem.W.Frag} {mu : Mu} {G H : Hp} {σ : L2.St} {ta tb tc te : TE} {D : Ends} {P P1 : Prd}
/-- a comprehension whose list is not told yet -/
theorem lcN_hid {xs : List α} {PI P : α → Prd} [m : ∀ x, Mono (P x)] {wi : TI} {j : Nat} {vs : List Nat} (hi : EvI mu wi σ G xs PI) (hl : xs.length ≤ 1000) (hw : ∀ v, wipe ((wipe σ vs).set j (some v)) vs = wipe σ vs)
    (he : ∀ x, x ∈ xs → ∀ v G1, Ex G G1 → PI x v G1 → EvP mu te ((wipe σ vs).set j (some v)) G1 (P x)) (a : At mu G H) {Q : VK}
    (k : ∀ (L : Addr) (us : List V) (G' H' : Hp), Stp mu G H G' H' → H L = none → G' L = none → H' L = some (.lst us) → Vof P xs us G' → Q (.ref L) H') : tLc wi (gName j) tYes te vs σ H Q := by
  refine hi G H Ex.rfl' a _ fun J G2 H2 s2 J2 => ?_
  intro Dl hD
  have a2 := a.stp s2
  have sD := a2.hid (.lst []) hD
  refine ⟨fun i mm Hc => mm = xs.length - i ∧ i ≤ xs.length ∧ ∃ Gc acc, Stp mu G2 H2 Gc Hc ∧ Gc Dl = none ∧ Hc Dl = some (.lst acc) ∧ Vof P (xs.take i) acc Gc, ⟨xs.length, by simp, Nat.zero_le _, G2, [], sD, a2.gnone hD, upd_same, Vof.nil⟩, ?_⟩
  rintro i mm Hc ⟨rfl, hile, Gc, acc, sc, gD, hDc, fv⟩
  have ac := a2.stp sc
  by_cases hlt : i < xs.length
  · refine .inr ⟨J2.go i Gc Hc sc.gg ac hlt, fun H' => i + 1 ≤ xs.length ∧ ∃ Gn acc', Stp mu G2 H2 Gn H' ∧ Gn Dl = none ∧ H' Dl = some (.lst acc') ∧ Vof P (xs.take (i + 1)) acc' Gn, fun H' ⟨h1, h2⟩ => ⟨xs.length - (i + 1), by omega, rfl, h1, h2⟩, fun v H' y => ?_⟩
    have hx : xs[i]? = some xs[i] := List.getElem?_eq_getElem hlt
    obtain ⟨G3, s3, p3⟩ := J2.yld i _ Gc Hc v H' hx sc.gg ac y
    have a3 := ac.stp s3
    refine ⟨hw v, ?_⟩
    simp only [tYes, if_true]
    refine he _ (List.getElem_mem hlt) v G3 (s2.gg.trans (sc.gg.trans s3.gg)) p3 G3 H' Ex.rfl' a3 _ fun w G5 H5 s5 pw => ?_
    have s35 := s3.trans s5
    have gx : G5 Dl = none := (s35.fr Dl (by rw [hDc]; intro z; cases z)).trans gD
    have hx' : H5 Dl = some (.lst acc) := s35.hh Dl _ (fun z => a2.fresh hD z) hDc
    refine ⟨acc, hx', ?_, hlt, G5, acc ++ [w], (sc.trans s35).put _ hD gx (a2.fresh hD), gx, upd_same, ?_⟩
    · have hle : acc.length ≤ 1000 := by rw [fv.1, List.length_take]; omega
      exact small1000 hle
    · rw [take_succ_get hx]
      exact Vof.snoc (fv.mono s35.gg) pw
  · have ei : i = xs.length := by omega
    subst ei
    rw [List.take_length] at fv
    have h0 : H Dl = none := by
      cases q : H Dl with
      | none => rfl
      | some o => exact absurd hD (s2.lv Dl (by rw [q]; intro z; cases z))
    exact .inl ⟨J2.stop Gc Hc sc.gg ac, k Dl acc Gc Hc (s2.trans sc) h0 gD hDc fv⟩
end
variable {K : PySem.W.Frag} {mu : Mu} {G H : Hp} {σ : L2.St} {ta tb tc : TE} {d : WD} {s : WS} {D : Ends}
/-! less_times, column -/
structure LT where
  n : Nat
  f : Nat → Gn
  z : Gn
  g : Nat → Gn
structure LT.ok (x : LT) : Prop where
  n8 : x.n ≤ 8
  f : ∀ j, j < x.n → Ok (x.f j)
  z : Ok x.z
  g : ∀ j, j < x.n → Ok (x.g j)
  p : ∀ j, j < x.n → Ok (x.z * x.g j)
def A_lt (x : LT) (vs : List V) (G : Hp) : Prop := ∃ a t b, vs = [a, t, b] ∧ TRow x.n x.f a G ∧ TTw x.z t G ∧ TRow x.n x.g b G ∧ x.ok
abbrev B_lt (x : LT) : Prd := TRow x.n fun j => x.f j - x.z * x.g j
abbrev S_lt : Sp := spP (pR A_lt B_lt)
theorem m_lt : SemP (t_less_times K S_tmul S_tsub) n_less_times A_lt B_lt := by
  intro mu x vs G H hA ⟨a, t, b, e, ha, ht, hb, o⟩ D k
  subst e
  refine sret hA (evp_lcP (P := fun j => TTw (x.f j - x.z * x.g j)) (A := fun j => TTw (x.f j)) (B := fun j => TTw (x.g j)) (xs := List.range x.n) (evi_zip (evp_var (P := TRow x.n x.f) rfl ha) (evp_var (P := TRow x.n x.g) rfl hb)) (by have := o.n8; simp; omega) (fun _ _ => rfl) fun j hj v w G1 e1 p q G2 e2 => ?_) k
  have hj : j < x.n := by simpa using hj
  exact evp_tsub (evp_var rfl (Mono.mono e2 p)) (evp_tmul (evp_var (P := TTw x.z) rfl (Mono.mono (e1.trans e2) ht)) (evp_var rfl (Mono.mono e2 q)) o.z (o.g j hj)) (o.f j hj) (o.p j hj)
theorem vof_ints {xs : List Nat} {vs : List V} (h : Vof (fun i : Nat => TZ (i : Int)) xs vs G) : vs = xs.map fun i : Nat => V.int (i : Int) := by
  apply List.ext_getElem?
  intro i
  cases e : xs[i]? with
  | none =>
    have : xs.length ≤ i := List.getElem?_eq_none_iff.mp e
    rw [List.getElem?_eq_none (by rw [h.1]; exact this)]; simp [e]
  | some x =>
    obtain ⟨v, hv, p⟩ := h.at e
    rw [hv]; simp [e]; exact p
theorem inV_ints (i : Nat) : ∀ xs : List Nat, inV (.int (i : Int)) (xs.map fun i : Nat => V.int (i : Int)) = decide (i ∈ xs)
  | [] => by simp [inV]
  | x :: xs => by
    have ih := inV_ints i xs
    unfold inV at ih ⊢
    rw [List.map_cons, List.any_cons, ih]
    have : eqV (.int (x : Int)) (.int (i : Int)) = decide (i = x) := by
      show decide _ = _ <;> simp <;> omega
    rw [this]; simp
theorem evp_inL {xs : List Nat} {i : Nat} (ha : EvP mu ta σ G (TZ (i : Int))) (hb : EvP mu tb σ G (TPos xs)) : EvP mu (tOp (rIn K false) ta tb) σ G (TB (decide (i ∈ xs))) :=
  evp_op ha hb fun v w G1 _ e1 ⟨a, vs, e2, g, f⟩ => by
    cases e1
    have ev := vof_ints f
    refine RvP.pure (v := .bl (decide (i ∈ xs))) (fun Q H hA q => ⟨a, vs, e2, .inl (sql_at hA g), rfl, ?_, ?_⟩) rfl
    · rw [ev]; simp [flatV]
    · rw [ev, inV_ints]; exact q
def A_col (p : Nat) (s : WS) (vs : List V) (G : Hp) : Prop := vs = [.ref s.d.p, .int p] ∧ p < s.n ∧ s.v p p ≠ 0
abbrev B_col (p : Nat) (s : WS) : Prd := TRow s.n (qcol s.v s.left p)
abbrev S_col : Sp := spP (rW A_col B_col)
abbrev S_tover : Sp := spP (pR A_tover B_tover)
theorem evp_tover {z w : Gn} (ha : EvP mu ta σ G (TTw z)) (hb : EvP mu tb σ G (TTw w)) (o1 : Ok2 z) (o2 : Ok2 w) (w0 : w ≠ 0) : EvP mu (tMeth N640.CT "over" S_tover [] E0 ta (tCons tb tNil)) σ G (TTw (z * inv w)) :=
  evp_m1 (x := (⟨z, w⟩ : TP)) (A := A_tover) (B := B_tover) ha rfl hb fun v u G1 _ p q => ⟨v, u, rfl, p, .inl q, o1, o2, w0⟩
theorem m_col (T : Tx K) : SemW (t_Walk_column K S_tover S_nought) n_Walk_column A_col B_col := by
  intro mu s p vs G H hA w ⟨e, hp, p0⟩ D k
  subst e
  refine sasg hA (evp_at (evp_wvi w.f.v (evp_wv T (evp_is rfl)) (evp_is rfl) hp) (evp_is rfl) hp) fun o G1 H1 s1 p1 => ?_
  have a1 := hA.stp s1
  have w1 := w.mono s1.gg
  refine sasg a1 (evp_wlen w1.f.v (evp_wv T (evp_is rfl))) fun m G2 H2 s2 p2 => ?_
  cases p2
  have a2 := a1.stp s2
  have w2 := w1.mono s2.gg
  refine sret a2 (evp_lcN (P := fun i => TTw (qcol s.v s.left p i)) (evi_rng (n := s.n) ((eva_1 (evp_is (v := .int (s.n : Int)) rfl)).imp fun vs G1 _ ⟨v, e, p⟩ => by rw [e, show v = _ from p]) (by have := w.n4; omega)) (by have := w.n4; simp; omega) (fun _ => rfl) fun i hi u G3 e3 q G4 e4 => ?_) fun v G5 H5 s5 q => k v G5 H5 ((s1.trans s2).trans s5) q
  cases q
  have hi : i < s.n := by simpa using hi
  have w4 := w2.mono (e3.trans e4)
  have own : TTw (s.v p p) o G4 := Mono.mono ((s2.gg.trans e3).trans e4) p1
  unfold qcol
  cases hm : decide (i ∈ s.left) with
  | true => exact evp_if (A := (· = true)) (evt_to (evt_test (evp_inL (evp_is rfl) (evp_wl T (evp_is rfl) w4.f.l))) hm) (fun _ => evp_tover (evp_at (evp_wvi w4.f.v (evp_wv T (evp_is rfl)) (evp_is rfl) hi) (evp_is rfl) hp) (evp_var rfl own) (w.szv hi hp).ok2 (w.szv hp hp).ok2 p0) fun z => nomatch z
  | false => exact evp_if (A := (· = false)) (evt_to (evt_test (evp_inL (evp_is rfl) (evp_wl T (evp_is rfl) w4.f.l))) hm) (fun z => nomatch z) fun _ => evp_c0 (x := ()) (A := A_none) (B := fun _ => TTw 0) fun _ _ => rfl
end N640

set_option Elab.async false
set_option linter.all false
set_option maxRecDepth 100000
set_option maxHeartbeats 4000000
/-! A new Walk; a step of it. -/
namespace N640
open PySem PySem.Spec PyProof.Rows L2 Gn
variable {K : PySem.W.Frag} {mu : Mu} {G H : Hp} {σ : L2.St} {ta tb tc : TE} {D : Ends}
def idm : Mx := fun i j => if i = j then 1 else 0
/-- what Walk's __init__ promises -/
def spW : Sp := fun vs H Q _ => ∃ (mu : Mu) (G : Hp) (n : Nat) (M : Mx) (x dx : Addr) (v : V), vs = [.ref x, v] ∧ At mu G H ∧ G x = none ∧ ¬ mu.mt x ∧ H x = some (.ins N640.CW dx []) ∧ TMx n M v G ∧ n ≤ 8 ∧
  ∀ (d : WD) (G' H' : Hp), d.p = x → Rel (fun b => mu.mt b ∨ b = x) G H G' H' → H d.lv = none → H d.lw = none → At (addW mu d) G' H' → WF d n M idm (List.range n) G' → Q .non H'
abbrev S_one' : Sp := S_one
theorem sfldE {f : Str} {k : Nat} {tv : TE} (h : tv σ H fun y H1 => tVar k σ H1 fun x H2 => ∃ a C dx fs, x = .ref a ∧ H2 a = some (.ins C dx fs) ∧ Cls K C ∧ NoAttr K C f ∧ fs.length < 1000 ∧ D.nx σ (upd H2 a (.ins C dx (putF f y fs)))) :
    sFld K (tVar k) tv f D σ H := h
theorem evp_rg {n : Nat} (h : EvP mu ta σ G (TZ (n : Int))) (hn : n ≤ 1000) : EvP mu (tLstRg (tRg1 ta)) σ G (TPos (List.range n)) := fun G1 H1 e a Q q => by
  refine h G1 H1 e a _ fun v G2 H2 s2 p => ?_
  cases p
  refine ⟨(n : Int), rfl, RgOk.of_le (by omega) (by omega) (by omega) (by omega), fun l hl => ?_⟩
  have s3 := (a.stp s2).new (.lst (rgV 0 (n : Int))) hl
  refine q _ _ _ (s2.trans s3) ⟨l, _, rfl, upd_same, by rw [rgV_length]; simp, fun i v x h1 h2 => ?_⟩
  obtain ⟨rfl, hi⟩ := range_get h2
  unfold rgV at h1
  rw [List.getElem?_map] at h1
  have e1 : (List.range ((n : Int) - 0).toNat)[x]? = some x := by rw [List.getElem?_range (by omega)]
  rw [e1] at h1
  cases h1
  show V.int (0 + (x : Int)) = _
  rw [Int.zero_add]
theorem m_walk (T : Tx K) (vs : List V) (H : Hp) (Q : VK) (E : XK) (h : spW vs H Q E) (D : Ends) (hD : ∀ σ H', Q .non H' → D.nx σ H') : t_Walk_init K S_one S_nought D (start n_Walk_init vs) H := by
  obtain ⟨mu, G, n, M, x, dx, v, e, hA, g, nm, hx, hv, n8, q⟩ := h
  subst e
  have i0 := Ini.start hA g nm hx
  refine sasg hA (P := TZ (n : Int)) (evp_to (evp_len (P := fun i => TRow n (M i)) (evp_var (P := Sof (fun i => TRow n (M i)) (List.range n)) rfl (.inl hv))) (by simp)) fun m G1 H1 s1 p1 => ?_
  cases p1
  have i1 := i0.stp s1
  have hv1 := Mono.mono s1.gg hv
  -- the values
  dsimp only [tSeq]
  refine sfldE ?_
  refine lcN_hid (P := fun i => TRow n (M i)) (xs := List.range n) (by exact evi_list (evp_var (P := TMx n M) rfl hv1)) (by simp; omega) (fun _ => rfl) (fun i hi w G2 e2 p => by exact evp_list (evp_var (P := Sof (fun j => TTw (M i j)) (List.range n)) rfl (.inl p))) i1.at_ fun lv vls G2 H2 s2 hl gl hl2 fv => ?_
  have i2 := i1.stp s2
  refine ⟨.ref x, rfl, x, N640.CW, dx, [], rfl, i2.h, bCls_ok T.clsW, He.eqO_ok T.no_own_values_W, by decide, ?_⟩
  have i3 := i2.put (gs := putF "own_values" (.ref lv) [])
  have nlv : ¬ mu.mt lv := fun z => i1.at_.fresh hl z
  have xlv : x ≠ lv := ne_il i2.h hl2
  have h3 : upd H2 x (.ins N640.CW dx (putF "own_values" (.ref lv) [])) lv = some (.lst vls) := by rw [upd_ne xlv.symm]; exact hl2
  -- the weights
  have wt : ∀ {G3 : Hp} {σ : L2.St} (i : Nat), i < n → ∀ j, j < n → σ[4]? = some (some (.int (i : Int))) → σ[5]? = some (some (.int (j : Int))) → EvP mu (tIf (tTest (tOp rEq (tVar 4) (tVar 5))) (tCall S_one [] E0 tNil) (tCall S_nought [] E0 tNil)) σ G3 (TTw (idm i j)) := by
    intro G3 σ i hi j hj h4 h5
    unfold idm
    by_cases e : i = j
    · rw [if_pos e]
      exact evp_if (A := (· = true)) (evt_to (evt_test (evp_eqI (evp_is h4) (evp_is h5))) (by simp [e])) (fun _ => evp_c0 (x := ()) (A := A_none) (B := fun _ => TTw 1) fun _ _ => rfl) fun z => nomatch z
    · rw [if_neg e]
      exact evp_if (A := (· = false)) (evt_to (evt_test (evp_eqI (evp_is h4) (evp_is h5))) (by simp; omega)) (fun z => nomatch z) fun _ => evp_c0 (x := ()) (A := A_none) (B := fun _ => TTw 0) fun _ _ => rfl
  have rg : ∀ {G3 : Hp} {σ : L2.St}, σ[2]? = some (some (.int (n : Int))) → EvI mu (iRng1 (tCons (tVar 2) tNil)) σ G3 (List.range n) (fun i => TZ (i : Int)) := fun hs => evi_rng ((eva_1 (evp_is (v := .int (n : Int)) hs)).imp fun vs G1 _ ⟨v, e, p⟩ => by rw [e, show v = _ from p]) (by omega)
  dsimp only [tSeq]
  refine sfldE ?_
  refine lcN_hid (P := fun i => TRow n (idm i)) (xs := List.range n) (by exact rg rfl) (by simp; omega) (fun _ => rfl) (fun i hi w G3 e3 p => ?_) i3.at_ fun lw wls G4 H4 s4 hlw gw hlw2 fw => ?_
  · cases p
    exact evp_lcN (P := fun j => TTw (idm i j)) (rg rfl) (by simp; omega) (fun _ => rfl) fun j hj u G5 e5 p5 G6 e6 => by
      cases p5
      exact wt i (by simpa using hi) j (by simpa using hj) rfl rfl
  · have i4 := i3.stp s4
    refine ⟨.ref x, rfl, x, N640.CW, dx, _, rfl, i4.h, bCls_ok T.clsW, He.eqO_ok T.no_own_weights_W, by show 1 < 1000; decide, ?_⟩
    have i5 := i4.put (gs := putF "own_weights" (.ref lw) (putF "own_values" (.ref lv) []))
    have nlw : ¬ mu.mt lw := fun z => i3.at_.fresh hlw z
    have xlw : x ≠ lw := ne_il i4.h hlw2
    have lne : lv ≠ lw := ne_of_none h3 hlw
    have glv : G4 lv = none := (s4.fr lv (by rw [h3]; intro z; cases z)).trans gl
    have h4v : H4 lv = some (.lst vls) := s4.hh lv _ nlv h3
    dsimp only
    refine sfldE ?_
    refine (evp_rg (n := n) (evp_is (v := .int (n : Int)) rfl) (by omega) G4 _ Ex.rfl' i5.at_ _ fun l G6 H6 s6 pl => ?_)
    have i6 := i5.stp s6
    refine ⟨.ref x, rfl, x, N640.CW, dx, _, rfl, i6.h, bCls_ok T.clsW, He.eqO_ok T.no_own_left_W, by show 2 < 1000; decide, ?_⟩
    have i7 := i6.put (gs := putF "own_left" l (putF "own_weights" (.ref lw) (putF "own_values" (.ref lv) [])))
    obtain ⟨ll, ls, el, gll, fl⟩ := pl
    subst el
    have h6v : H6 lv = some (.lst vls) := s6.hh lv _ nlv (by rw [upd_ne xlv.symm]; exact h4v)
    have h6w : H6 lw = some (.lst wls) := s6.hh lw _ nlw (by rw [upd_ne xlw.symm]; exact hlw2)
    have g6v : G6 lv = none := (s6.fr lv (by rw [upd_ne xlv.symm, h4v]; intro z; cases z)).trans glv
    have g6w : G6 lw = none := (s6.fr lw (by rw [upd_ne xlw.symm, hlw2]; intro z; cases z)).trans gw
    have z1 : H lv = none := by
      cases q : H lv with
      | none => rfl
      | some o => exact absurd hl (i1.r.lv lv (by rw [q]; intro z; cases z))
    have z2 : H lw = none := by
      cases q : H lw with
      | none => rfl
      | some o => exact absurd hlw (i3.r.lv lw (by rw [q]; intro z; cases z))
    refine hD _ _ (q ⟨x, dx, lv, lw, ll, vls, wls⟩ G6 _ rfl i7.r z1 z2 ⟨i7.at_.ex, fun b hb => ?_, i7.at_.iv, i7.h, ?_, ?_⟩ ⟨fv.mono (s4.gg.trans s6.gg), fw.mono s6.gg, ⟨ll, ls, rfl, gll, fl⟩, lne⟩)
    · rcases hb with hb | rfl | rfl | rfl
      · exact i7.at_.nm b hb
      · exact i7.g
      · exact g6v
      · exact g6w
    · show upd H6 x _ lv = _; rw [upd_ne xlv.symm]; exact h6v
    · show upd H6 x _ lw = _; rw [upd_ne xlw.symm]; exact h6w
end N640

set_option Elab.async false
set_option linter.all false
set_option maxRecDepth 100000
set_option maxHeartbeats 4000000
/-! A step of the walk. -/
namespace N640
open PySem PySem.Spec PyProof.Rows L2 Gn
variable {K : PySem.W.Frag} {mu : Mu} {G H : Hp} {σ : L2.St} {ta tb tc : TE} {D : Ends} {d : WD} {s : WS}
theorem tape (n : Nat) : ∀ (y : Nat), y < n → (List.range n)[y]? = some y := fun y h => List.getElem?_range h
theorem Vof.upd {P P' : Nat → Prd} {n y : Nat} {vs : List V} {u : V} (h : Vof P (List.range n) vs G) (hu : P' y u G) (ho : ∀ a, a ≠ y → a < n → ∀ v, P a v G → P' a v G) : Vof P' (List.range n) (vs.set y u) G := by
  refine ⟨by rw [List.length_set]; exact h.1, fun i v x h1 h2 => ?_⟩
  obtain ⟨rfl, hi⟩ := range_get h2
  by_cases e : y = x
  · subst e
    rw [List.getElem?_set_self (by rw [h.1]; simpa using hi)] at h1
    cases h1; exact hu
  · rw [List.getElem?_set_ne e] at h1
    exact ho x (fun z => e z.symm) hi v (h.2 x v x h1 h2)
/-- some rows have had their step -/
def prt (X : Mx) (q : Nat → Gn) (p : Nat) (dn : List Nat) : Mx := fun a j => if decide (a ∈ dn) then X a j - q a * X p j else X a j
theorem prt_in {X : Mx} {q : Nat → Gn} {p a : Nat} {dn : List Nat} (h : a ∈ dn) : prt X q p dn a = fun j => X a j - q a * X p j := by funext j; unfold prt; rw [if_pos (decide_eq_true h)]
theorem prt_out {X : Mx} {q : Nat → Gn} {p a : Nat} {dn : List Nat} (h : a ∉ dn) : prt X q p dn a = X a := by funext j; unfold prt; rw [if_neg (by simpa using h)]
theorem prt_tk {X Y : Mx} {left : List Nat} {p : Nat} : prt X (qcol Y left p) p (wo left p) = tk X Y left p := by
  funext a j
  unfold tk rw1
  by_cases h : a ∈ wo left p
  · rw [prt_in h]
    unfold qcol
    rw [if_pos (decide_eq_true (mem_wo.mp h).1), if_pos (decide_eq_true h)]
  · rw [prt_out h]
    unfold qcol
    rw [if_neg (by simpa using h)]; grind
theorem nd_take {xs : List Nat} {i y : Nat} (nd : xs.Nodup) (h : xs[i]? = some y) : y ∉ xs.take i := fun z => by
  obtain ⟨j, hj, e⟩ := List.mem_iff_getElem.mp z
  have hi := (List.getElem?_eq_some_iff.mp h).1
  have hj' : j < i ∧ j < xs.length := by rw [List.length_take] at hj; omega
  rw [List.getElem_take] at e
  have hxi : xs[i] = y := (List.getElem?_eq_some_iff.mp h).2
  exact List.pairwise_iff_getElem.mp nd j i hj'.2 hi hj'.1 (e.trans hxi.symm)
def SameD (d d' : WD) : Prop := d'.p = d.p ∧ d'.dx = d.dx ∧ d'.lv = d.lv ∧ d'.lw = d.lw
theorem SameD.mt {d d' : WD} (h : SameD d d') : d'.mt = d.mt := by
  funext b; unfold WD.mt; rw [h.1, h.2.2.1, h.2.2.2]
def spTk : Sp := fun vs H Q _ => ∃ (mu : Mu) (s : WS) (p : Nat) (G : Hp), vs = [.ref s.d.p, .int p] ∧ At (addW mu s.d) G H ∧ s.at G ∧ (∀ b, s.d.mt b → ¬ mu.mt b) ∧ p ∈ s.left ∧ s.v p p ≠ 0 ∧
  ∀ (d' : WD) (G' H' : Hp), SameD s.d d' → Rel (addW mu s.d).mt G H G' H' → At (addW mu d') G' H' → (⟨d', s.n, tk s.v s.v s.left p, tk s.w s.v s.left p, wo s.left p⟩ : WS).at G' → Q .non H'
theorem evp_less {n : Nat} {f g : Nat → Gn} {z : Gn} (ha : EvP mu ta σ G (TRow n f)) (hb : EvP mu tb σ G (TTw z)) (hc : EvP mu tc σ G (TRow n g)) (o : (⟨n, f, z, g⟩ : LT).ok) : EvP mu (tCall S_lt [] E0 (tCons ta (tCons tb (tCons tc tNil)))) σ G (TRow n fun j => f j - z * g j) :=
  evp_c3 (x := (⟨n, f, z, g⟩ : LT)) (A := A_lt) (B := B_lt) ha hb hc fun v u w G1 _ p q r => ⟨v, u, w, rfl, p, q, r, o⟩
/-- own_values[y] = row -/
theorem setv {te : TE} {n y : Nat} {f : Nat → Gn} {P : Nat → Prd} [∀ a, Mono (P a)] (T : Tx K) (hA : At (addW mu d) G H) (hn : ∀ b, d.mt b → ¬ mu.mt b) (hne : d.lv ≠ d.lw) (hs : σ[0]? = some (some (.ref d.p))) (hy : σ[4]? = some (some (.int (y : Int)))) (hlt : y < n)
    (hv : Vof P (List.range n) d.vls G) (h : EvP (addW mu d) te σ G (TRow n f)) (k : ∀ u G' H', TRow n f u G' → Rel (addW mu d).mt G H G' H' → At (addW mu { d with vls := d.vls.set y u }) G' H' → D.nx σ H') :
    tAsg te (gSub (tFld K (tVar 0) "own_values") (tVar 4) rSetL) D σ H := by
  refine h G H Ex.rfl' hA _ fun u G1 H1 s1 p1 => ?_
  have a1 := hA.stp s1
  refine evp_wv (mu := mu) (d := d) T (evp_is hs) G1 H1 Ex.rfl' a1 _ fun x G2 H2 s2 p2 => ?_
  cases p2
  have a2 := a1.stp s2
  refine ⟨.int (y : Int), hy, d.lv, d.vls, y, y, rfl, rfl, a2.iv.2.2.1, ?_, ?_⟩
  · have : y < d.vls.length := by rw [hv.1]; simpa using hlt
    unfold ixN
    rw [if_pos (by omega), if_pos (by omega)]; rfl
  · have g : G2 d.lv = none := a2.nm _ (.inr (.inr (.inl rfl)))
    have s12 := s1.trans s2
    exact k u G2 _ (Mono.mono s2.gg p1) (s12.toRel.putA _ (.inr (.inr (.inl rfl))) g) (a2.setV (hn _ (.inr (.inl rfl))) hne)
theorem setw {te : TE} {n y : Nat} {f : Nat → Gn} {P : Nat → Prd} [∀ a, Mono (P a)] (T : Tx K) (hA : At (addW mu d) G H) (hn : ∀ b, d.mt b → ¬ mu.mt b) (hne : d.lv ≠ d.lw) (hs : σ[0]? = some (some (.ref d.p))) (hy : σ[4]? = some (some (.int (y : Int)))) (hlt : y < n)
    (hv : Vof P (List.range n) d.wls G) (h : EvP (addW mu d) te σ G (TRow n f)) (k : ∀ u G' H', TRow n f u G' → Rel (addW mu d).mt G H G' H' → At (addW mu { d with wls := d.wls.set y u }) G' H' → D.nx σ H') :
    tAsg te (gSub (tFld K (tVar 0) "own_weights") (tVar 4) rSetL) D σ H := by
  refine h G H Ex.rfl' hA _ fun u G1 H1 s1 p1 => ?_
  have a1 := hA.stp s1
  refine evp_ww (mu := mu) (d := d) T (evp_is hs) G1 H1 Ex.rfl' a1 _ fun x G2 H2 s2 p2 => ?_
  cases p2
  have a2 := a1.stp s2
  refine ⟨.int (y : Int), hy, d.lw, d.wls, y, y, rfl, rfl, a2.iv.2.2.2, ?_, ?_⟩
  · have : y < d.wls.length := by rw [hv.1]; simpa using hlt
    unfold ixN
    rw [if_pos (by omega), if_pos (by omega)]; rfl
  · have g : G2 d.lw = none := a2.nm _ (.inr (.inr (.inr rfl)))
    have s12 := s1.trans s2
    exact k u G2 _ (Mono.mono s2.gg p1) (s12.toRel.putA _ (.inr (.inr (.inr rfl))) g) (a2.setWt (hn _ (.inr (.inr rfl))) hne)
theorem sforL {g : TG} {tu : TS} (h : ta σ H fun x H1 => ∃ a, x = .ref a ∧ (∃ xs, SqL K H1 a xs) ∧ ∃ W : Nat → Nat → L2.St → Hp → Prop, (∃ m, W 0 m σ H1) ∧ ∀ i m σ H, W i m σ H →
    ((Itl K a).stop i H ∧ D.nx σ H) ∨ ((Itl K a).go i H ∧ ∃ N : L2.St → Hp → Prop, (∀ σ' H', N σ' H' → ∃ m', m' < m ∧ W (i + 1) m' σ' H') ∧ ∀ x H', (Itl K a).yld i H x H' → g x σ H' fun σ2 H2 => tu { D with nx := N, ct := N, bk := D.nx } σ2 H2)) :
    tFor (iList K ta) g tu D σ H := h
theorem WS.at.ltok {G : Hp} (w : s.at G) {X : Mx} {q : Nat → Gn} {a p : Nat} (hx : ∀ i, i < s.n → ∀ j, j < s.n → Sz 889 (X i j)) (ha : a < s.n) (hp : p < s.n) (hq : Sz 889 (q a)) : (⟨s.n, X a, q a, X p⟩ : LT).ok :=
  ⟨by have := w.n4; show s.n ≤ 8; omega, fun j hj => (hx a ha j hj).ok, hq.ok, fun j hj => (hx p hp j hj).ok, fun j hj => (hq.mul (hx p hp j hj) (Nat.le_refl _)).ok⟩
theorem sz_q {G : Hp} (w : s.at G) {p a : Nat} (hp : p ∈ s.left) (p0 : s.v p p ≠ 0) (ha : a < s.n) : Sz 889 (qcol s.v s.left p a) := by
  have h := (w.k.bv.col (w.k.lt hp) (w.k.her.im hp) p0 fun i => decide (i ∈ s.left)).sz ha
  exact h.mono (kx4 (by have := w.n4; omega))
theorem m_take (T : Tx K) (vs : List V) (H : Hp) (Q : VK) (E : XK) (h : spTk vs H Q E) (D : Ends) (hD : ∀ σ H', Q .non H' → D.nx σ H') : t_Walk_take K S_col S_isnought S_lt D (start n_Walk_take vs) H := by
  obtain ⟨mu, s, p, G, e, hA, w, hn, hp, p0, q⟩ := h
  subst e
  have hpn : p < s.n := w.k.lt hp
  refine spar hA (evp_wm1 (x := p) (A := A_col) (B := B_col) w (evp_is rfl) rfl (evp_is (v := .int (p : Int)) rfl) fun u G1 _ pu => ⟨by rw [show u = _ from pu], hpn, p0⟩) (evp_wvi w.f.v (evp_wv T (evp_is rfl)) (evp_is rfl) hpn) fun qv rv G1 H1 s1 pq pr => ?_
  have a1 := hA.stp s1
  have w1 := w.mono s1.gg
  -- own_left
  dsimp only [tSeq]
  refine sfldE ?_
  refine (evp_lcF (P := fun i : Nat => TZ (i : Int)) (j := 4) (vs := [4]) (σ := [some (.ref s.d.p), some (.int p), some qv, some rv, none]) (xs := s.left) (wi := iList K (tFld K (tVar 0) "own_left")) (te := tVar 4) (tt := tTest (tOp rNe (tVar 4) (tVar 1))) (fun i => decide (i ≠ p)) (evi_list (P := fun i : Nat => TZ (i : Int)) (evp_wl T (evp_is rfl) w1.f.l)) (by have := w.k.len; have := w.n4; omega) (fun _ => rfl) (fun i hi v G2 e2 pv => ?_) fun i hi v G2 e2 pv G3 e3 => ?_) G1 H1 Ex.rfl' a1 _ fun y G2 H2 s2 py => ?_
  · cases pv
    exact evt_to (evt_test (evp_neI (evp_is rfl) (evp_is rfl))) (by simp; omega)
  · cases pv; exact evp_is rfl
  · have a2 := a1.stp s2
    obtain ⟨ll, ls, ey, gl, fl⟩ := py
    subst ey
    refine ⟨.ref s.d.p, rfl, s.d.p, N640.CW, s.d.dx, s.d.fs, rfl, a2.iv.2.1, bCls_ok T.clsW, He.eqO_ok T.no_own_left_W, by show 3 < 1000; decide, ?_⟩
    have a3 := a2.setL (l := ll) (hn _ (.inl rfl))
    have gp : G2 s.d.p = none := a2.nm _ (.inr (.inl rfl))
    have r3 : Rel (addW mu s.d).mt G H G2 (L2.upd H2 s.d.p (.ins N640.CW s.d.dx (WD.fs { s.d with ll := ll }))) := (s1.trans s2).toRel.putA _ (.inr (.inl rfl)) gp
    have w2 := w1.mono s2.gg
    have nd : (wo s.left p).Nodup := w.k.nd.filter _
    -- the loop
    dsimp only
    refine sforL ?_
    refine evp_wf (mu := mu) (d := { s.d with ll := ll }) (bCls_ok T.clsW) (He.eqO_ok T.no_own_left_W) rfl (evp_is rfl) G2 _ Ex.rfl' a3 _ fun x G3 H3 s3 px => ?_
    cases px
    have a4 := a3.stp s3
    have r4 : Rel (addW mu s.d).mt G H G3 H3 := r3.trans s3.toRel
    have gl3 := s3.gg _ _ gl
    refine ⟨ll, rfl, ⟨ls, SqL.of (a4.ex _ _ gl3)⟩, ?_⟩
    have fl3 : Vof (fun i : Nat => TZ (i : Int)) (wo s.left p) ls G3 := fl.mono s3.gg
    have els := vof_ints fl3
    have w3 := w2.mono s3.gg
    have pq3 : TRow s.n (qcol s.v s.left p) qv G3 := Mono.mono (s2.gg.trans s3.gg) pq
    have pr3 : TRow s.n (s.v p) rv G3 := Mono.mono (s2.gg.trans s3.gg) pr
    refine for_list (xs := ls) (fun i σ H' => ∃ (G' : Hp) (d' : WD) (c : Option V), σ = [some (.ref s.d.p), some (.int p), some qv, some rv, c] ∧ SameD s.d d' ∧ d'.ll = ll ∧ At (addW mu d') G' H' ∧ Ex G3 G' ∧ Rel (addW mu s.d).mt G H G' H' ∧
        Vof (fun a => TRow s.n (prt s.v (qcol s.v s.left p) p ((wo s.left p).take i) a)) (List.range s.n) d'.vls G' ∧ Vof (fun a => TRow s.n (prt s.w (qcol s.v s.left p) p ((wo s.left p).take i) a)) (List.range s.n) d'.wls G') ?_ ?_ ?_ ?_
    · refine ⟨G3, { s.d with ll := ll }, none, rfl, ⟨rfl, rfl, rfl, rfl⟩, rfl, a4, Ex.rfl', r4, ?_, ?_⟩
      · exact w3.f.v.imp fun a _ v h => by rw [prt_out (by simp)]; exact h
      · exact w3.f.w.imp fun a _ v h => by rw [prt_out (by simp)]; exact h
    · rintro i σ H' _ ⟨G', d', c, _, _, _, a', e', _⟩
      exact SqL.of (a'.ex _ _ (e' _ _ gl3))
    · rintro i x σ H' hx ⟨G', d', c, es, sd, hll, a', e', r', fv, fw⟩
      subst es
      rw [els, List.getElem?_map] at hx
      cases hy : (wo s.left p)[i]? with
      | none => rw [hy] at hx; cases hx
      | some y =>
        rw [hy] at hx
        cases hx
        have hym : y ∈ wo s.left p := List.mem_of_getElem? hy
        have hyl : y ∈ s.left := (mem_wo.mp hym).1
        have hyn : y < s.n := w.k.lt hyl
        have hnt : y ∉ (wo s.left p).take i := nd_take nd hy
        have hpt : p ∉ (wo s.left p).take i := fun z => (mem_wo.mp (List.mem_of_mem_take z)).2 rfl
        have hn' : ∀ b, d'.mt b → ¬ mu.mt b := by rw [sd.mt]; exact hn
        have mtE : (addW mu d').mt = (addW mu s.d).mt := by funext b; show (mu.mt b ∨ d'.mt b) = (mu.mt b ∨ s.d.mt b); rw [sd.mt]
        have hne' : d'.lv ≠ d'.lw := by rw [sd.2.2.1, sd.2.2.2]; exact w.f.ne
        have tks := take_succ_get hy
        have wq := sz_q w hp p0 hyn
        have okv := w.ltok (X := s.v) (q := qcol s.v s.left p) (a := y) (p := p) (fun i hi j hj => w.szv hi hj) hyn hpn wq
        have okw := w.ltok (X := s.w) (q := qcol s.v s.left p) (a := y) (p := p) (fun i hi j hj => w.szw hi hj) hyn hpn wq
        have quo : ∀ {G' : Hp} {d' : WD}, Ex G3 G' → EvP (addW mu d') (tOp (rIxL K) (tVar 2) (tVar 4)) [some (.ref s.d.p), some (.int p), some qv, some rv, some (.int (y : Int))] G' (TTw (qcol s.v s.left p y)) := fun e => evp_at (evp_var (P := TRow s.n (qcol s.v s.left p)) rfl (Mono.mono e pq3)) (evp_is rfl) hyn
        have other : ∀ a, a ≠ y → prt s.v (qcol s.v s.left p) p ((wo s.left p).take i) a = prt s.v (qcol s.v s.left p) p ((wo s.left p).take (i + 1)) a := fun a ha => by
          by_cases h : a ∈ (wo s.left p).take i
          · rw [prt_in h, prt_in (by rw [tks]; simp [h])]
          · rw [prt_out h, prt_out (by rw [tks]; simp [h, ha])]
        have otherw : ∀ a, a ≠ y → prt s.w (qcol s.v s.left p) p ((wo s.left p).take i) a = prt s.w (qcol s.v s.left p) p ((wo s.left p).take (i + 1)) a := fun a ha => by
          by_cases h : a ∈ (wo s.left p).take i
          · rw [prt_in h, prt_in (by rw [tks]; simp [h])]
          · rw [prt_out h, prt_out (by rw [tks]; simp [h, ha])]
        have now : prt s.v (qcol s.v s.left p) p ((wo s.left p).take (i + 1)) y = fun j => s.v y j - qcol s.v s.left p y * s.v p j := prt_in (by rw [tks]; simp)
        have noww : prt s.w (qcol s.v s.left p) p ((wo s.left p).take (i + 1)) y = fun j => s.w y j - qcol s.v s.left p y * s.w p j := prt_in (by rw [tks]; simp)
        refine sifb (D := _) (b := !decide (qcol s.v s.left p y = 0)) a' (evt_not (evt_B (evp_isnought (quo e')))) (fun hb G4 H4 s4 => ?_) fun hb G4 H4 s4 => ?_
        · have a5 := a'.stp s4
          have fv4 := fv.mono s4.gg
          have fw4 := fw.mono s4.gg
          have e4 := e'.trans s4.gg
          refine setv (d := d') (n := s.n) (y := y) (P := fun a => TRow s.n (prt s.v (qcol s.v s.left p) p ((wo s.left p).take i) a)) (f := fun j => s.v y j - qcol s.v s.left p y * s.v p j) T a5 hn' hne' (by rw [sd.1]; rfl) rfl hyn fv4
            (evp_less (by have := evp_wvi (K := K) (mu := mu) (i := y) fv4 (evp_wv (K := K) (ta := tVar 0) (σ := [some (.ref s.d.p), some (.int p), some qv, some rv, some (.int (y : Int))]) T (evp_is (by rw [sd.1]; rfl))) (evp_is (i := 4) (v := .int (y : Int)) rfl) hyn; rw [prt_out hnt] at this; exact this) (quo e4) (evp_var (P := TRow s.n (s.v p)) rfl (Mono.mono e4 pr3)) okv) fun u G5 H5 pu r5 a6 => ?_
          rw [mtE] at r5
          have fw5 := fw4.mono r5.gg
          have e5 := e4.trans r5.gg
          have hs5 : ({ d' with vls := d'.vls.set y u } : WD).p = s.d.p := sd.1
          refine setw (d := { d' with vls := d'.vls.set y u }) (n := s.n) (y := y) (P := fun a => TRow s.n (prt s.w (qcol s.v s.left p) p ((wo s.left p).take i) a)) (f := fun j => s.w y j - qcol s.v s.left p y * s.w p j) T a6 hn' hne' (by rw [hs5]; rfl) rfl hyn fw5
            (evp_less (by have := evp_wwi (K := K) (mu := mu) (d := { d' with vls := d'.vls.set y u }) (i := y) fw5 (evp_ww (K := K) (ta := tVar 0) (σ := [some (.ref s.d.p), some (.int p), some qv, some rv, some (.int (y : Int))]) T (evp_is (by rw [hs5]; rfl))) (evp_is (i := 4) (v := .int (y : Int)) rfl) hyn; rw [prt_out hnt] at this; exact this) (quo e5)
              (by have := evp_wwi (K := K) (mu := mu) (d := { d' with vls := d'.vls.set y u }) (i := p) fw5 (evp_ww (K := K) (ta := tVar 0) (σ := [some (.ref s.d.p), some (.int p), some qv, some rv, some (.int (y : Int))]) T (evp_is (by rw [hs5]; rfl))) (evp_is (i := 1) (v := .int (p : Int)) rfl) hpn; rw [prt_out hpt] at this; exact this) okw) fun u2 G6 H6 pu2 r6 a7 => ?_
          have r6' : Rel (addW mu s.d).mt G5 H5 G6 H6 := mtE ▸ r6
          refine ⟨G6, { d' with vls := d'.vls.set y u, wls := d'.wls.set y u2 }, some (.int (y : Int)), rfl, sd, hll, a7, e5.trans r6'.gg, ((r'.trans (mtE ▸ s4.toRel)).trans r5).trans r6', ?_, ?_⟩
          · refine Vof.upd (P' := fun a => TRow s.n (prt s.v (qcol s.v s.left p) p ((wo s.left p).take (i + 1)) a)) (fv4.mono (r5.gg.trans r6'.gg)) (by rw [now]; exact Mono.mono r6'.gg pu) fun a ha hl v h => ?_
            rw [← other a ha]; exact h
          · refine Vof.upd (P' := fun a => TRow s.n (prt s.w (qcol s.v s.left p) p ((wo s.left p).take (i + 1)) a)) (fw5.mono r6'.gg) (by rw [noww]; exact pu2) fun a ha hl v h => ?_
            rw [← otherw a ha]; exact h
        · have hz : qcol s.v s.left p y = 0 := by simpa using hb
          have same : prt s.v (qcol s.v s.left p) p ((wo s.left p).take i) = prt s.v (qcol s.v s.left p) p ((wo s.left p).take (i + 1)) := by
            funext a
            by_cases ha : a = y
            · subst ha; rw [now, prt_out hnt, hz]; funext j; grind
            · exact other a ha
          have samew : prt s.w (qcol s.v s.left p) p ((wo s.left p).take i) = prt s.w (qcol s.v s.left p) p ((wo s.left p).take (i + 1)) := by
            funext a
            by_cases ha : a = y
            · subst ha; rw [noww, prt_out hnt, hz]; funext j; grind
            · exact otherw a ha
          exact ⟨G4, d', some (.int (y : Int)), rfl, sd, hll, a'.stp s4, e'.trans s4.gg, r'.trans (mtE ▸ s4.toRel), same ▸ fv.mono s4.gg, samew ▸ fw.mono s4.gg⟩
    · rintro σ H' ⟨G', d', c, es, sd, hll, a', e', r', fv, fw⟩
      have hlen : ls.length = (wo s.left p).length := fl3.1
      rw [hlen, List.take_length, prt_tk] at fv fw
      refine hD _ _ (q d' G' H' sd r' a' ⟨⟨fv, fw, ?_, by rw [sd.2.2.1, sd.2.2.2]; exact w.f.ne⟩, w.k.take hp p0, w.n4⟩)
      rw [hll]
      exact ⟨ll, ls, rfl, e' _ _ gl3, fl3.mono e'⟩
end N640

set_option Elab.async false
set_option linter.all false
set_option maxRecDepth 100000
set_option maxHeartbeats 4000000
/-! The walks over a table: never below, bars. -/
namespace N640
open PySem PySem.Spec PyProof.Rows L2 Gn
variable {K : PySem.W.Frag} {mu : Mu} {G H G0 H0 G' H' : Hp} {σ : L2.St} {ta tb tc : TE} {D : Ends} {d : WD} {s : WS}
theorem evW_make {n : Nat} {M : Mx} (h : EvP mu ta σ G (TMx n M)) (n8 : n ≤ 8) (hA : At mu G H) {Q : VK} (k : ∀ (d : WD) (G' H' : Hp), Stp mu G H G' H' → (∀ b, d.mt b → H b = none) → At (addW mu d) G' H' → WF d n M idm (List.range n) G' → Q (.ref d.p) H') :
    tMake N640.CW spW [] E0 (tCons ta tNil) σ H Q := by
  refine h G H Ex.rfl' hA _ fun v G2 H2 s2 p => ?_
  intro x dx hx hdx ne
  have a2 := hA.stp s2
  have s3 := a2.hid (.own x) hdx
  have a3 := a2.stp s3
  have hx3 : (upd H2 dx (.own x)) x = none := by rw [upd_ne ne.symm]; exact hx
  have s4 := a3.hid (.ins N640.CW dx []) hx3
  have a4 := a3.stp s4
  have back : ∀ b, H2 b = none → H b = none := fun b hb => by
    cases q : H b with
    | none => rfl
    | some o => exact absurd hb (s2.lv b (by rw [q]; intro z; cases z))
  have back2 : ∀ b, (upd (upd H2 dx (.own x)) x (.ins N640.CW dx [])) b = none → H2 b = none := fun b hb => by
    cases q : H2 b with
    | none => rfl
    | some o => exact absurd hb ((s3.trans s4).lv b (by rw [q]; intro z; cases z))
  refine ⟨mu, G2, n, M, x, dx, v, rfl, a4, a2.gnone hx, a2.fresh hx, upd_same, p, n8, fun d G' H' ep r h1 h2 aw wf => ⟨rfl, ?_⟩⟩
  have s5 : Stp mu G2 H2 G' H' := ⟨(((s3.trans s4).toRel.weaken (fun b z => Or.inl z)).trans r).drop fun b z => z.imp id fun q => by rw [q]; exact hx, aw.iv.1⟩
  rw [← ep]
  refine k d G' H' (s2.trans s5) (fun b hb => ?_) aw wf
  rcases hb with rfl | rfl | rfl
  · rw [ep]; exact back x hx
  · exact back _ (back2 _ h1)
  · exact back _ (back2 _ h2)
/-- a walk under way, seen from where it was made -/
structure WkI (mu : Mu) (G0 H0 : Hp) (s : WS) (G H : Hp) : Prop where
  st : Stp mu G0 H0 G H
  fr : ∀ b, s.d.mt b → H0 b = none
  at_ : At (addW mu s.d) G H
  w : s.at G
  hn : ∀ b, s.d.mt b → ¬ mu.mt b
theorem WkI.ev (i : WkI mu G0 H0 s G H) (t : Stp (addW mu s.d) G H G' H') : WkI mu G0 H0 s G' H' :=
  ⟨i.st.under i.fr t.toRel t.iv.1, i.fr, i.at_.stp t, i.w.mono t.gg, i.hn⟩
theorem WkI.tk {d' : WD} {n : Nat} {v w : Mx} {left : List Nat} (i : WkI mu G0 H0 s G H) (sd : SameD s.d d') (r : Rel (addW mu s.d).mt G H G' H') (a : At (addW mu d') G' H') (w' : (⟨d', n, v, w, left⟩ : WS).at G') : WkI mu G0 H0 ⟨d', n, v, w, left⟩ G' H' :=
  ⟨i.st.under i.fr r a.iv.1, fun b hb => i.fr b (sd.mt ▸ hb), a, w', fun b hb => i.hn b (sd.mt ▸ hb)⟩
theorem WkI.start {n : Nat} {M : Mx} (a0 : At mu G0 H0) (st : Stp mu G0 H0 G H) (fr : ∀ b, d.mt b → H0 b = none) (a : At (addW mu d) G H) (f : WF d n M idm (List.range n) G) (h4 : n ≤ 4) (her : Her M (List.range n)) (bd : Bd 9 n M) : WkI mu G0 H0 ⟨d, n, M, idm, List.range n⟩ G H := by
  refine ⟨st, fr, a, ⟨f, ⟨List.Sublist.refl _, her, ?_, ?_⟩, h4⟩, fun b hb => a0.fresh (fr b hb)⟩
  · show Bd (kx (n - (List.range n).length)) n M
    rw [List.length_range, Nat.sub_self]; exact bd
  · show Bd (kx (n - (List.range n).length)) n idm
    rw [List.length_range, Nat.sub_self]
    refine ⟨1, by decide, by decide, fun i _ j _ => ⟨if i = j then 1 else 0, 0, ?_, ?_, by decide⟩⟩
    · unfold idm
      split <;> (apply ext' <;> simp only [val, one_re, one_im, zero_re, zero_im] <;> simp <;> grind)
    · split <;> decide
theorem stake {p i k : Nat} (I : WkI mu G0 H0 s G H) (hp : p ∈ s.left) (p0 : s.v p p ≠ 0) (h1 : σ[i]? = some (some (.ref s.d.p))) (h2 : σ[k]? = some (some (.int (p : Int))))
    (kk : ∀ d' G' H', WkI mu G0 H0 ⟨d', s.n, tk s.v s.v s.left p, tk s.w s.v s.left p, wo s.left p⟩ G' H' → SameD s.d d' → Rel (addW mu s.d).mt G H G' H' → D.nx σ H') : tDrop (tMeth N640.CW "take" spTk [] E0 (tVar i) (tCons (tVar k) tNil)) D σ H :=
  ⟨.ref s.d.p, h1, s.d.p, s.d.dx, s.d.fs, rfl, I.at_.iv.2.1, rfl, .int p, h2, mu, s, p, G, rfl, I.at_, I.w, I.hn, hp, p0, fun d' G' H' sd r a w => kk d' G' H' (I.tk sd r a w) sd r⟩
/-- an own object beside the walk that is not told yet -/
structure Hid (mu : Mu) (d : WD) (H0 : Hp) (f : Addr) (o : HO) (G H : Hp) : Prop where
  f0 : H0 f = none
  fg : G f = none
  fm : ¬ mu.mt f
  fd : ¬ d.mt f
  fh : H f = some o
theorem Hid.rel {o : HO} {f : Addr} (h : Hid mu d H0 f o G H) (r : Rel (addW mu d).mt G H G' H') : Hid mu d H0 f o G' H' :=
  ⟨h.f0, (r.fr f (by rw [h.fh]; intro z; cases z)).trans h.fg, h.fm, h.fd, r.hh f o (fun z => z.elim h.fm h.fd) h.fh⟩
theorem Hid.put {o u : HO} {f : Addr} (h : Hid mu d H0 f o G H) : Hid mu d H0 f u G (upd H f u) := ⟨h.f0, h.fg, h.fm, h.fd, upd_same⟩
theorem WkI.put {o u : HO} {f : Addr} (i : WkI mu G0 H0 s G H) (h : Hid mu s.d H0 f o G H) : WkI mu G0 H0 s G (upd H f u) :=
  ⟨i.st.put u h.f0 h.fg h.fm, i.fr, i.at_.put u h.fg fun z => z.elim h.fm h.fd, i.w, i.hn⟩
/-- while, by readings -/
theorem swhile {c : TT} {tu : TS} (Pv : Nat → L2.St → Hp → Prop) (h0 : ∃ m, Pv m σ H) (turn : ∀ m σ H, Pv m σ H → ∃ (mu : Mu) (G : Hp) (b : Bool), At mu G H ∧ EvT mu c σ G (· = b) ∧
      (b = true → ∀ G' H', Stp mu G H G' H' → tu { D with nx := fun σ' H' => ∃ m', m' < m ∧ Pv m' σ' H', ct := fun σ' H' => ∃ m', m' < m ∧ Pv m' σ' H', bk := D.nx } σ H') ∧ (b = false → ∀ G' H', Stp mu G H G' H' → D.nx σ H')) : tWhile c tu D σ H := by
  refine ⟨Pv, h0, fun m σ H p => ?_⟩
  obtain ⟨mu, G, b, a, t, h1, h2⟩ := turn m σ H p
  refine t G H Ex.rfl' a _ fun c G' H' s e => ?_
  cases e
  cases b with
  | true => exact ⟨_, fun σ' H' z => z, h1 rfl G' H' s⟩
  | false => exact h2 rfl G' H' s
/-! signs -/
theorem sg_pos (q : Rat) : sg q = 1 ↔ 0 < q := by
  unfold sg
  rw [← num_pos]
  by_cases h1 : 0 < q.num <;> by_cases h2 : q.num < 0 <;> simp [h1, h2] <;> omega
theorem sg_neg (q : Rat) : sg q = -1 ↔ q < 0 := by
  unfold sg
  rw [← num_neg]
  by_cases h1 : 0 < q.num <;> by_cases h2 : q.num < 0 <;> simp [h1, h2] <;> omega
theorem sg_zero (q : Rat) : sg q = 0 ↔ q = 0 := by
  constructor
  · intro h
    refine Classical.byContradiction fun hq => ?_
    have hn := num_ne hq
    unfold sg at h
    by_cases h1 : 0 < q.num <;> by_cases h2 : q.num < 0 <;> simp [h1, h2] at h <;> omega
  · rintro rfl; rfl
theorem fw_some {g : Int} {p : Nat} (h : fw s g = some p) : p ∈ s.left ∧ sg (s.v p p).re = g := ⟨List.mem_of_find?_eq_some h, by simpa using List.find?_some h⟩
theorem fw_none {g : Int} (h : fw s g = none) {p : Nat} (hp : p ∈ s.left) : sg (s.v p p).re ≠ g := by
  have := List.find?_eq_none.mp h p hp
  simpa using this
theorem fb_some {a b : Nat} (h : fb s = some (a, b)) : a ∈ s.left ∧ b ∈ s.left ∧ (s.v a a).re = 0 ∧ s.v a b ≠ 0 := by
  obtain ⟨l1, x, l2, e, h1, _⟩ := List.findSome?_eq_some_iff.mp h
  cases q : s.left.find? (fbr s x) with
  | none => rw [q] at h1; cases h1
  | some y =>
    rw [q] at h1
    cases h1
    have hy := List.find?_some q
    unfold fbr at hy
    simp only [Bool.and_eq_true, decide_eq_true_eq, Bool.not_eq_true', decide_eq_false_iff_not] at hy
    exact ⟨by rw [e]; simp, List.mem_of_find?_eq_some q, (sg_zero _).mp hy.1, hy.2⟩
theorem fb_none (h : fb s = none) {a b : Nat} (ha : a ∈ s.left) (hb : b ∈ s.left) (hz : (s.v a a).re = 0) : s.v a b = 0 := by
  have h1 := List.findSome?_eq_none_iff.mp h a ha
  have h2 : s.left.find? (fbr s a) = none := by
    cases q : s.left.find? (fbr s a) with
    | none => rfl
    | some y => rw [q] at h1; cases h1
  have h3 := List.find?_eq_none.mp h2 b hb
  unfold fbr at h3
  simp only [Bool.and_eq_true, decide_eq_true_eq, Bool.not_eq_true', decide_eq_false_iff_not, not_and, Decidable.not_not] at h3
  exact h3 ((sg_zero _).mpr hz)
theorem pos_ne {z : Gn} (h : 0 < z.re) : z ≠ 0 := fun e => by rw [e] at h; exact absurd h (by decide)
theorem neg_ne {z : Gn} (h : z.re < 0) : z ≠ 0 := fun e => by rw [e] at h; exact absurd h (by decide)
theorem to_non (o : Option Nat) {v : V} (h : TO o v G) : decide (v = .non) = o.isNone := by
  have h : v = _ := h
  subst h
  cases o <;> rfl
theorem top_non (o : Option (Nat × Nat)) {v : V} (h : TOP o v G) : decide (v = .non) = o.isNone := by
  cases o with
  | none => have h : v = .non := h; subst h; rfl
  | some x =>
    obtain ⟨a, b⟩ := x
    obtain ⟨p, x, y, rfl, _⟩ := h
    rfl
theorem evp_fw {g : Int} (w : s.at G) (h : EvP (addW mu s.d) ta σ G (TIs (.ref s.d.p))) (hb : EvP (addW mu s.d) tb σ G (TZ g)) : EvP (addW mu s.d) (tMeth N640.CW "first_with" S_fw [] E0 ta (tCons tb tNil)) σ G (TO (fw s g)) :=
  evp_wm1 (x := g) (A := A_fw) (B := B_fw) w h rfl hb fun u G1 _ p => by rw [show u = _ from p]; rfl
theorem evp_fb (w : s.at G) (h : EvP (addW mu s.d) ta σ G (TIs (.ref s.d.p))) : EvP (addW mu s.d) (tMeth N640.CW "first_beside" S_fb [] E0 ta tNil) σ G (TOP (fb s)) :=
  evp_wm0 (x := ()) (A := A_fb) (B := B_fb) w h rfl fun G1 _ => rfl
end N640

set_option Elab.async false
set_option linter.all false
set_option maxRecDepth 100000
set_option maxHeartbeats 4000000
namespace N640
open PySem PySem.Spec PyProof.Rows L2 Gn
variable {K : PySem.W.Frag} {mu : Mu} {G H G0 H0 G' H' : Hp} {σ : L2.St} {ta tb tc : TE} {D : Ends} {d : WD} {s : WS}
noncomputable def pb (m : Mx) (n : Nat) : Bool := @decide (PSD m (List.range n)) (Classical.propDecidable _)
theorem pb_true {m : Mx} {n : Nat} (h : PSD m (List.range n)) : pb m n = true := @decide_eq_true _ (Classical.propDecidable _) h
theorem pb_false {m : Mx} {n : Nat} (h : ¬ PSD m (List.range n)) : pb m n = false := @decide_eq_false _ (Classical.propDecidable _) h
/-- a table of the law -/
structure NM.sm (x : NM) : Prop where
  n0 : 1 ≤ x.n
  n4 : x.n ≤ 4
  her : Her x.m (List.range x.n)
  bd : Bd 9 x.n x.m
theorem NM.sm.ok {x : NM} (h : x.sm) : x.ok := ⟨h.n0, by have := h.n4; omega, h.her, fun i hi j hj => (h.bd.sz hi hj).ok⟩
def A_sq (x : NM) (vs : List V) (G : Hp) : Prop := ∃ v, vs = [v] ∧ TMx x.n x.m v G ∧ x.sm
def B_sq (x : NM) : Prd := fun v _ => decide (v = .non) = !(pb x.m x.n)
instance {x : NM} : Mono (B_sq x) := ⟨fun _ h => h⟩
abbrev S_take : Sp := spTk
theorem evp_neg1 {i : Int} : EvP mu (tUn rNeg (tC (.int i))) σ G (TZ (-i)) := evp_neg evp_c
/-- what no positive and no negative place tells -/
theorem psd_flat {V : Mx} {left : List Nat} (H : Her V left) (h0 : ∀ a, a ∈ left → (V a a).re = 0) (hb : ∀ a, a ∈ left → ∀ b, b ∈ left → (V a a).re = 0 → V a b = 0) : PSD V left := PSD.nought fun i hi j hj => hb i hi j hj (h0 i hi)
theorem sparE {i j : Nat} (h : ta σ H fun x H1 => tb σ H1 fun y H2 => ∃ v w, [x, y] = [v, w] ∧ D.nx ((σ.set i (some v)).set j (some w)) H2) : tPar i j (tCons ta (tCons tb tNil)) D σ H := h
theorem m_sq (T : Tx K) : SemP (t_squares_of K spW S_fw S_col S_mid S_take S_fb) n_squares_of A_sq B_sq := by
  intro mu x vs G H hA ⟨v, e, hv, ox⟩ D k
  subst e
  have n4 := ox.n4
  -- the walk and the list
  unfold t_squares_of
  dsimp only [tSeq]
  refine sparE ?_
  refine evW_make (ta := tVar 0) (σ := start n_squares_of [v]) (evp_var (P := TMx x.n x.m) rfl hv) (by omega) hA fun d G1 H1 s1 fr a1 f1 => ?_
  have I1 := WkI.start (M := x.m) hA s1 fr a1 f1 n4 ox.her ox.bd
  refine ⟨Nat.zero_le _, fun f hf => ⟨.ref d.p, .ref f, rfl, ?_⟩⟩
  have hf0 : H f = none := by
    cases q : H f with
    | none => rfl
    | some o => exact absurd hf (s1.lv f (by rw [q]; intro z; cases z))
  have ff : ¬ d.mt f := fun z => a1.fresh hf (.inr z)
  have fm : ¬ mu.mt f := fun z => a1.fresh hf (.inl z)
  have t2 := a1.hid (.lst []) hf
  have I2 := I1.ev (G' := G1) t2
  have hd2 : Hid mu d H f (.lst []) G1 (L2.upd H1 f (.lst [])) := ⟨hf0, a1.gnone hf, fm, ff, upd_same⟩
  refine sasg I2.at_ (evp_fw I2.w (evp_is rfl) (evp_c (v := .int 1))) fun pl G3 H3 s3 p3 => ?_
  have I3 := I2.ev s3
  have hd3 := hd2.rel s3.toRel
  refine swhile (fun m σ H' => ∃ (s : WS) (acc : List V) (pl : V) (G' : Hp), m = s.left.length ∧ σ = [some v, some (.ref s.d.p), some (.ref f), some pl] ∧ WkI mu G H s G' H' ∧ Hid mu s.d H f (.lst acc) G' H' ∧ acc.length + s.left.length ≤ 4 ∧ TO (fw s 1) pl G' ∧ (PSD s.v s.left ↔ PSD x.m (List.range x.n)))
    ⟨_, ⟨d, x.n, x.m, idm, List.range x.n⟩, [], pl, G3, rfl, rfl, I3, hd3, by simp; omega, p3, Iff.rfl⟩ ?_
  rintro m σ H' ⟨s, acc, pl, G', rfl, es, I, hid, hacc, hpl, hpsd⟩
  subst es
  refine ⟨addW mu s.d, G', (fw s 1).isSome && (fw s (-1)).isNone, I.at_, ?_, fun hb G4 H4 s4 => ?_, fun hb G4 H4 s4 => ?_⟩
  · refine evt_and (evt_to (evt_test (evp_notN0 (evp_var (P := TO (fw s 1)) rfl hpl) fun v G1 _ p => to_non _ p)) (by cases fw s 1 <;> rfl)) fun _ => evt_test (evp_isN0 (evp_fw (g := -1) I.w (evp_is rfl) evp_neg1) fun v G1 _ p => to_non _ p)
  · simp only [Bool.and_eq_true] at hb
    obtain ⟨hb1, hb2⟩ := hb
    obtain ⟨p, hp⟩ := Option.isSome_iff_exists.mp hb1
    obtain ⟨pm, psg⟩ := fw_some hp
    have pos : 0 < (s.v p p).re := (sg_pos _).mp psg
    have p0 := pos_ne pos
    have hpl' : pl = .int (p : Int) := by rw [hp] at hpl; exact hpl
    subst hpl'
    have I4 := I.ev s4
    have hid4 := hid.rel s4.toRel
    have pn : p < s.n := I4.w.k.lt pm
    -- found.append(..)
    refine ⟨.ref f, rfl, .inl ⟨rfl, acc, SqL.of hid4.fh⟩, ?_⟩
    refine evp_tup2 (evp_mid I4.w (evp_is (i := 1) rfl) (evp_is (v := .int (p : Int)) (i := 3) rfl) pn) (evp_wm1 (x := p) (A := A_col) (B := B_col) I4.w (evp_is (i := 1) rfl) rfl (evp_is (v := .int (p : Int)) (i := 3) rfl) fun u G1 _ pu => ⟨by rw [show u = _ from pu], pn, p0⟩) G4 H4 Ex.rfl' I4.at_ _ fun y G5 H5 s5 _ => ?_
    have I5 := I4.ev s5
    have hid5 := hid4.rel s5.toRel
    refine ⟨f, acc, y, rfl, rfl, hid5.fh, small1000 (by omega), ?_⟩
    have I6 := I5.put (u := .lst (acc ++ [y])) hid5
    have hid6 := hid5.put (u := .lst (acc ++ [y]))
    refine stake (σ := [some v, some (.ref s.d.p), some (.ref f), some (.int p)]) (i := 1) (k := 3) I6 pm p0 rfl rfl fun d' G7 H7 I7 sd r7 => ?_
    have hid7 : Hid mu d' H f (.lst (acc ++ [y])) G7 H7 := by
      have := hid6.rel r7
      exact ⟨this.f0, this.fg, this.fm, sd.mt ▸ this.fd, this.fh⟩
    have hlen := wo_len I.w.k.nd pm
    refine sasg I7.at_ (evp_fw I7.w (evp_is (by show some (some (V.ref s.d.p)) = some (some (V.ref d'.p)); rw [sd.1])) (evp_c (v := .int 1))) fun pl2 G8 H8 s8 p8 => ?_
    refine ⟨_, ?_, ⟨d', s.n, tk s.v s.v s.left p, tk s.w s.v s.left p, wo s.left p⟩, acc ++ [y], pl2, G8, rfl, ?_, I7.ev s8, hid7.rel s8.toRel, ?_, p8, ?_⟩
    · show (wo s.left p).length < s.left.length; omega
    · show [some v, some (.ref s.d.p), some (.ref f), some pl2] = [some v, some (.ref d'.p), some (.ref f), some pl2]
      rw [sd.1]
    · show (acc ++ [y]).length + (wo s.left p).length ≤ 4; simp; omega
    · exact (psd_tk I.w.k.nd I.w.k.her pm pos).symm.trans hpsd
  · have I4 := I.ev s4
    -- how it ends
    have ends : (((fw s (-1)).isSome || (fb s).isSome) = !(pb x.m x.n)) := by
      cases hneg : fw s (-1) with
      | some p =>
        obtain ⟨pm, psg⟩ := fw_some hneg
        have neg : (s.v p p).re < 0 := (sg_neg _).mp psg
        rw [pb_false fun z => absurd ((hpsd.mpr z).diag I.w.k.nd pm) (by intro z; exact absurd (Std.lt_of_lt_of_le neg z) (by grind))]; rfl
      | none =>
        have hpos : fw s 1 = none := by
          rw [hneg] at hb
          cases q : fw s 1 with
          | none => rfl
          | some p => rw [q] at hb; cases hb
        have h0 : ∀ a, a ∈ s.left → (s.v a a).re = 0 := fun a ha => by
          have h1 := fw_none hpos ha
          have h2 := fw_none hneg ha
          have := sg_zero (s.v a a).re
          rw [← this]
          have hr : sg (s.v a a).re = 1 ∨ sg (s.v a a).re = -1 ∨ sg (s.v a a).re = 0 := by
            unfold sg
            by_cases h1 : 0 < (s.v a a).re.num <;> by_cases h2 : (s.v a a).re.num < 0 <;> simp [h1, h2] <;> omega
          rcases hr with z | z | z
          · exact absurd z h1
          · exact absurd z h2
          · exact z
        cases hbs : fb s with
        | some ab =>
          obtain ⟨a, b⟩ := ab
          obtain ⟨am, bm, za, nb⟩ := fb_some hbs
          rw [pb_false fun z => PSD.beside I.w.k.nd am bm I.w.k.her (I.w.k.her.zero am za) nb (hpsd.mpr z)]; rfl
        | none => rw [pb_true (hpsd.mp (psd_flat I.w.k.her h0 fun a ha b hb hz => fb_none hbs ha hb hz))]; rfl
    have test : EvT (addW mu s.d) (tOr (tTest (tOp rNotNn (tMeth N640.CW "first_with" S_fw [] E0 (tVar 1) (tCons (tUn rNeg (tC (.int 1))) tNil)) (tC .non))) (tTest (tOp rNotNn (tMeth N640.CW "first_beside" S_fb [] E0 (tVar 1) tNil) (tC .non)))) [some v, some (.ref s.d.p), some (.ref f), some pl] G4 (· = !(pb x.m x.n)) := by
      refine evt_to (evt_or (a := (fw s (-1)).isSome) (b := (fb s).isSome) (evt_to (evt_test (evp_notN0 (evp_fw (g := -1) I4.w (evp_is rfl) evp_neg1) fun v G1 _ p => to_non _ p)) (by cases fw s (-1) <;> rfl)) fun _ => evt_to (evt_test (evp_notN0 (evp_fb I4.w (evp_is rfl)) fun v G1 _ p => top_non _ p)) (by cases fb s <;> rfl)) ends
    refine sifb (D := _) I4.at_ test (fun hb5 G5 H5 s5 => ?_) fun hb5 G5 H5 s5 => ?_
    · have I5 := I4.ev s5
      exact k .non G5 H5 I5.st (by show decide (V.non = V.non) = _; rw [hb5]; rfl)
    · have I5 := I4.ev s5
      refine ⟨.ref f, rfl, k _ G5 H5 I5.st ?_⟩
      show decide (V.ref f = V.non) = _
      rw [hb5]; rfl
end N640

set_option Elab.async false
set_option linter.all false
set_option maxRecDepth 100000
set_option maxHeartbeats 4000000
namespace N640
open PySem PySem.Spec PyProof.Rows L2 Gn
variable {K : PySem.W.Frag} {mu : Mu} {G H G0 H0 G' H' : Hp} {σ : L2.St} {ta tb tc : TE} {D : Ends} {d : WD} {s : WS}
/-! sizes of rationals -/
theorem ro_sz {n : Nat} {q : Rat} (h : Sz n (ofR q)) : RO n q := by
  obtain ⟨e1, e2, e3⟩ := g_rat q
  obtain ⟨o1, _, o3⟩ := h
  rw [e1] at o1
  rw [e3] at o3
  exact ⟨o1, o3⟩
theorem RO.sz {n : Nat} {q : Rat} (h : RO n q) : Sz n (ofR q) := by
  obtain ⟨e1, e2, e3⟩ := g_rat q
  refine ⟨by rw [e1]; exact h.1, by rw [e2]; exact Nat.two_pow_pos n, by rw [e3]; exact h.2⟩
theorem RO.mono {m n : Nat} {q : Rat} (h : RO m q) (e : m ≤ n) : RO n q := ⟨bn h.1 e, bn h.2 e⟩
theorem ro_of {n : Nat} {q : Rat} {a b : Int} (b0 : b ≠ 0) (e : q = (a : Rat) / (b : Rat)) (ha : a.natAbs < 2 ^ n) (hb : b.natAbs < 2 ^ n) : RO n q := by
  have z0 : (0 : Int).natAbs < 2 ^ n := by have := Nat.two_pow_pos n; simpa using this
  rcases Int.lt_or_lt_of_ne b0 with neg | pos
  · refine ro_sz (Sz.of (a := -a) (b := 0) (c := -b) (by omega) ?_ (by omega) z0 (by omega))
    apply ext'
    · show ((-a : Int) : Rat) / ((-b : Int) : Rat) = q
      rw [e, Rat.intCast_neg, Rat.intCast_neg]
      have := cne b0
      grind
    · show ((0 : Int) : Rat) / _ = 0
      rw [show ((0 : Int) : Rat) = 0 from rfl]; grind
  · refine ro_sz (Sz.of (a := a) (b := 0) (c := b) pos ?_ ha z0 hb)
    apply ext'
    · exact e.symm
    · show ((0 : Int) : Rat) / _ = 0
      rw [show ((0 : Int) : Rat) = 0 from rfl]; grind
theorem RO.mul {m n k : Nat} {q r : Rat} (h : RO m q) (h' : RO n r) (e : m + n ≤ k) : RO k (q * r) := by
  refine ro_of (a := q.num * r.num) (b := q.den * r.den) (Int.mul_ne_zero (den_ne q) (den_ne r)) ?_ (bm h.1 h'.1 e) (bm h.2 h'.2 e)
  have h1 := cne (den_ne q)
  have h2 := cne (den_ne r)
  rw [Rat.intCast_mul, Rat.intCast_mul]
  conv => lhs; rw [← rat_num_den q, ← rat_num_den r]
  grind
theorem RO.add {m n k : Nat} {q r : Rat} (h : RO m q) (h' : RO n r) (e : m + n + 1 ≤ k) : RO k (q + r) := by
  refine ro_of (a := q.num * r.den + r.num * q.den) (b := q.den * r.den) (Int.mul_ne_zero (den_ne q) (den_ne r)) ?_ (ba (bm h.1 h'.2 (Nat.le_refl _)) (bm h'.1 h.2 (Nat.le_refl _)) (by omega) (by omega)) (bm h.2 h'.2 (by omega))
  have h1 := cne (den_ne q)
  have h2 := cne (den_ne r)
  rw [Rat.intCast_add, Rat.intCast_mul, Rat.intCast_mul, Rat.intCast_mul]
  conv => lhs; rw [← rat_num_den q, ← rat_num_den r]
  grind
theorem RO.div {m n k : Nat} {q r : Rat} (h : RO m q) (h' : RO n r) (r0 : r ≠ 0) (e : m + n ≤ k) : RO k (q / r) := by
  refine ro_of (a := q.num * r.den) (b := q.den * r.num) (Int.mul_ne_zero (den_ne q) (num_ne r0)) ?_ (bm h.1 h'.2 e) (bm h.2 h'.1 e)
  have h1 := cne (den_ne q)
  have h2 := cne (den_ne r)
  have h3 := cne (num_ne r0)
  rw [Rat.intCast_mul, Rat.intCast_mul]
  conv => lhs; rw [← rat_num_den q, ← rat_num_den r]
  grind
theorem Sz.re {n : Nat} {z : Gn} (h : Sz n z) : RO n z.re := ro_of (gl_ne z) (re_g z) h.1 h.2.2
theorem Sz.nsq {n k : Nat} {z : Gn} (h : Sz n z) (e : 2 * n + 1 ≤ k) : RO k (Gn.nsq z) :=
  ro_of (Int.mul_ne_zero (gl_ne z) (gl_ne z)) (nsq_g z) (ba (bm h.1 h.1 (Nat.le_refl _)) (bm h.2.1 h.2.1 (Nat.le_refl _)) (by omega) (by omega)) (bm h.2.2 h.2.2 (by omega))
/-! never below -/
abbrev S_sq : Sp := spP (pR A_sq B_sq)
theorem m_nbo : SemP (t_is_never_below_of K S_sq) n_is_never_below_of A_sq fun x => TB (pb x.m x.n) := by
  intro mu x vs G H hA ⟨v, e, hv, o⟩ D k
  subst e
  refine sret hA (evp_to (evp_notN0 (b := !(pb x.m x.n)) (evp_c1 (x := x) (A := A_sq) (B := B_sq) (evp_var (P := TMx x.n x.m) rfl hv) fun v G1 _ p => ⟨v, rfl, p, o⟩) fun v G1 _ p => p) (by simp)) k
abbrev S_nbo : Sp := spP (pR A_sq fun x => TB (pb x.m x.n))
def A_tabS (x : NM) (vs : List V) (G : Hp) : Prop := ∃ v, vs = [v] ∧ TTab x.n x.m v G ∧ x.sm
theorem evp_want {x : NM} (h : EvP mu ta σ G (TTab x.n x.m)) (o : x.ok) : EvP mu (tCall S_want [] E0 (tCons ta tNil)) σ G (TMx x.n x.m) :=
  evp_c1 (x := x) (A := A_tab) (B := B_mx) h fun v G1 _ p => ⟨v, rfl, p, o⟩
theorem m_nb : SemP (t_is_never_below K S_nbo S_want) n_is_never_below A_tabS fun x => TB (pb x.m x.n) := by
  intro mu x vs G H hA ⟨v, e, hv, o⟩ D k
  subst e
  exact sret hA (evp_c1 (x := x) (A := A_sq) (B := fun x => TB (pb x.m x.n)) (evp_want (x := x) (evp_var (P := TTab x.n x.m) rfl hv) o.ok) fun v G1 _ p => ⟨v, rfl, p, o⟩) k
/-! bent -/
abbrev S_radd : Sp := spP (pR (A_rbin 4400) B_radd)
abbrev S_rmul : Sp := spP (pR (A_rbin 4400) B_rmul)
abbrev S_rover : Sp := spP (pR A_rover B_rover)
abbrev S_size : Sp := spP (pR A_twO B_size)
theorem evp_rmul {q r : Rat} (ha : EvP mu ta σ G (TRt q)) (hb : EvP mu tb σ G (TRt r)) (o1 : RO 4400 q) (o2 : RO 4400 r) : EvP mu (tOp (rOwn N640.CR N640.CR S_rmul) ta tb) σ G (TRt (q * r)) :=
  evp_bin (x := (⟨q, r⟩ : RP)) (A := A_rbin 4400) (B := B_rmul) ha hb fun v u G1 _ p q => ⟨v, u, rfl, p, .inl q, o1, o2⟩
theorem evp_size {z : Gn} (h : EvP mu ta σ G (TTw z)) (o : Ok z) : EvP mu (tMeth N640.CT "size" S_size [] E0 ta tNil) σ G (TRt (Gn.nsq z)) :=
  evp_m0 (x := z) (A := A_twO) (B := B_size) h rfl fun v G1 _ p => ⟨v, rfl, p, o⟩
theorem evp_mkRi {i : Int} (h : EvP mu ta σ G (TZ i)) : EvP mu (tMake N640.CR S_ratio [.int 1] E0 (tCons ta tNil)) σ G (TRt (i : Rat)) :=
  evp_mk (eva_1 h) fun vs G1 e ⟨v, ev, p⟩ => ⟨i, 1, by rw [ev, show v = _ from p]; rfl, by decide, by decide, by
    show (i : Rat) = (i : Rat) / ((1 : Int) : Rat)
    rw [show ((1 : Int) : Rat) = 1 from rfl]; grind⟩
theorem WS.at.szv2 {G : Hp} (h : s.at G) (h2 : 2 ≤ s.left.length) {i j : Nat} (hi : i < s.n) (hj : j < s.n) : Sz 97 (s.v i j) :=
  (h.k.bv.sz hi hj).mono (Nat.le_trans (kx_mono (by have := h.n4; have := h.k.len; omega : s.n - s.left.length ≤ 2)) (by decide))
theorem two_len {left : List Nat} {a b : Nat} (ha : a ∈ left) (hb : b ∈ left) (hne : a ≠ b) : 2 ≤ left.length := by
  cases left with
  | nil => cases ha
  | cons x xs =>
    cases xs with
    | nil => simp at ha hb; exact absurd (ha.trans hb.symm) hne
    | cons y ys => simp
def bw (s : WS) (a b : Nat) : Nat → Gn := fun k => bturn (s.v a b) (s.v b b).re * s.w a k + s.w b k
def A_bent (x : Nat × Nat) (s : WS) (vs : List V) (G : Hp) : Prop := vs = [.ref s.d.p, .int (x.1 : Int), .int (x.2 : Int)] ∧ x.1 ∈ s.left ∧ x.2 ∈ s.left ∧ x.1 ≠ x.2 ∧ s.v x.1 x.2 ≠ 0
abbrev B_bent (x : Nat × Nat) (s : WS) : Prd := TRow s.n (bw s x.1 x.2)
theorem tsz {z : Gn} {c : Rat} (hz : Sz 97 z) (z0 : z ≠ 0) (hc : RO 97 c) : RO 298 ((c + 1) / (Gn.nsq z * -2)) ∧ Sz 396 (bturn z c) := by
  have hn : Gn.nsq z ≠ 0 := by have := nsq_pos z0; grind
  have h1 : RO 1 (1 : Rat) := ro_of (a := 1) (b := 1) (by decide) (by rw [show ((1 : Int) : Rat) = 1 from rfl]; grind) (by decide) (by decide)
  have h2 : RO 2 (-2 : Rat) := ro_of (a := -2) (b := 1) (by decide) (by rw [show ((1 : Int) : Rat) = 1 from rfl, show ((-2 : Int) : Rat) = -2 from rfl]; grind) (by decide) (by decide)
  have a1 : RO 99 (c + 1) := hc.add h1 (by decide)
  have a2 : RO 197 (Gn.nsq z * -2) := (hz.nsq (k := 195) (by decide)).mul h2 (by decide)
  have a3 : RO 298 ((c + 1) / (Gn.nsq z * -2)) := (a1.div a2 (by grind) (k := 296) (by decide)).mono (by decide)
  exact ⟨a3, hz.conj.mul a3.sz (by decide)⟩
theorem m_bent (T : Tx K) : SemW (t_bent K S_mid S_radd S_rover S_size S_ratio S_rmul S_mirror S_tmul S_tadd) n_bent A_bent B_bent := by
  intro mu s ⟨a, b⟩ vs G H hA w ⟨e, ha, hb, hne, z0⟩ D k
  have e : vs = [.ref s.d.p, .int (a : Int), .int (b : Int)] := e
  subst e
  have ha : a ∈ s.left := ha
  have hb : b ∈ s.left := hb
  have z0 : s.v a b ≠ 0 := z0
  have l2 := two_len ha hb hne
  have an := w.k.lt ha
  have bn' := w.k.lt hb
  have zs := w.szv2 l2 an bn'
  have cs := (w.szv2 l2 bn' bn').re
  obtain ⟨o1, o2⟩ := tsz zs z0 cs
  have nz : Gn.nsq (s.v a b) ≠ 0 := by have := nsq_pos z0; grind
  refine sasg hA (evp_at (evp_wvi w.f.v (evp_wv T (evp_is rfl)) (evp_is rfl) an) (evp_is rfl) bn') fun bt G1 H1 s1 p1 => ?_
  have a1 := hA.stp s1
  have w1 := w.mono s1.gg
  have h1 : RO 1 (1 : Rat) := ro_of (a := 1) (b := 1) (by decide) (by rw [show ((1 : Int) : Rat) = 1 from rfl]; grind) (by decide) (by decide)
  have h2 : RO 2 (((-2 : Int) : Rat)) := ro_int (by decide) (by decide)
  have b1 : RO 99 ((s.v b b).re + 1) := cs.add h1 (by decide)
  have b2 : RO 197 (Gn.nsq (s.v a b) * ((-2 : Int) : Rat)) := (zs.nsq (k := 195) (by decide)).mul h2 (by decide)
  dsimp only [tSeq]
  refine sasg a1 (P := TRt (((s.v b b).re + 1) / (Gn.nsq (s.v a b) * ((-2 : Int) : Rat)))) ?_ fun tm G2 H2 s2 p2 => ?_
  · refine evp_m1 (x := (⟨(s.v b b).re + 1, Gn.nsq (s.v a b) * ((-2 : Int) : Rat)⟩ : RP)) (A := A_rover) (B := B_rover) (fs := FR ((s.v b b).re + 1)) (P1 := TRt (Gn.nsq (s.v a b) * ((-2 : Int) : Rat))) ?_ rfl ?_ fun v u G2 _ p q => ⟨⟨v, u, rfl, p, .inl q, b1.mono (by decide), b2.mono (by decide)⟩, ?_⟩
    · exact evp_ownI (P := TRt ((s.v b b).re + 1)) (i := 1) (evp_mid w1 (evp_is rfl) (evp_is rfl) bn') evp_c TI0.isI fun x G2 _ p => ⟨⟨(s.v b b).re, ((1 : Int) : Rat)⟩, ⟨x, .int 1, rfl, p, .inr ⟨1, rfl, rfl⟩, cs.mono (by decide), ro_int (by decide) (by decide)⟩, fun v G' _ q => q⟩
    · exact evp_rmul (evp_size (evp_var rfl p1) zs.ok) (evp_mkRi evp_neg1) ((zs.nsq (k := 195) (by decide)).mono (by decide)) (h2.mono (by decide))
    · show Gn.nsq (s.v a b) * ((-2 : Int) : Rat) ≠ 0
      rw [show ((-2 : Int) : Rat) = -2 from rfl]; grind
  · have a2 := a1.stp s2
    have p12 := Mono.mono s2.gg p1
    have et : bturn (s.v a b) (s.v b b).re = conj (s.v a b) * ofR (((s.v b b).re + 1) / (Gn.nsq (s.v a b) * ((-2 : Int) : Rat))) := rfl
    dsimp only
    refine sasg a2 (P := TTw (bturn (s.v a b) (s.v b b).re)) ?_ fun tn G3 H3 s3 p3 => ?_
    · rw [et]
      exact evp_bin (x := (⟨conj (s.v a b), ofR (((s.v b b).re + 1) / (Gn.nsq (s.v a b) * ((-2 : Int) : Rat)))⟩ : TP)) (A := A_tbin) (B := B_tmul) (evp_mirror (evp_var rfl p12) zs.ok) (evp_var (P := TRt _) rfl p2) fun v u G1 _ p q => ⟨v, u, rfl, p, .inr ⟨_, .inl q, rfl⟩, zs.conj.ok, (o1.sz).ok⟩
    have a3 := a2.stp s3
    have w3 := (w1.mono s2.gg).mono s3.gg
    refine sret a3 (evp_lcP (P := fun j => TTw (bw s a b j)) (A := fun j => TTw (s.w a j)) (B := fun j => TTw (s.w b j)) (xs := List.range s.n) (evi_zip (evp_wwi w3.f.w (evp_ww T (evp_is rfl)) (evp_is rfl) an) (evp_wwi w3.f.w (evp_ww T (evp_is rfl)) (evp_is rfl) bn')) (by have := w.n4; simp; omega) (fun _ _ => rfl) fun j hj v u G4 e4 p q G5 e5 => ?_) fun v G4 H4 s4 p => k v G4 H4 (((s1.trans s2).trans s3).trans s4) p
    have hj : j < s.n := by simpa using hj
    exact evp_tadd (evp_tmul (evp_var (P := TTw (bturn (s.v a b) (s.v b b).re)) rfl (Mono.mono (e4.trans e5) p3)) (evp_var rfl (Mono.mono e5 p)) o2.ok (w.szw an hj).ok) (evp_var rfl (Mono.mono e5 q)) (o2.mul (w.szw an hj) (k := 1286) (by decide)).ok (w.szw bn' hj).ok
end N640

set_option Elab.async false
set_option linter.all false
set_option maxRecDepth 100000
set_option maxHeartbeats 4000000
namespace N640
open PySem PySem.Spec PyProof.Rows L2 Gn
variable {K : PySem.W.Frag} {mu : Mu} {G H G0 H0 G' H' : Hp} {σ : L2.St} {ta tb tc : TE} {D : Ends} {d : WD} {s : WS}
/-! lists against [] -/
theorem dp_ints {xs : List Nat} {vs : List V} (h : Vof (fun i : Nat => TZ (i : Int)) xs vs G) : DpAll K H vs (xs.map fun i : Nat => PyData.int (i : Int)) := by
  rw [vof_ints h]
  induction xs generalizing vs with
  | nil => exact .nil
  | cons x xs ih => exact .cons (.int _) (by have := ih (vs := xs.map fun i : Nat => V.int (i : Int)) ⟨by simp, fun i v y h1 h2 => by rw [List.getElem?_map, h2] at h1; cases h1; rfl⟩; rwa [vof_ints (G := G) (xs := xs) (vs := xs.map fun i : Nat => V.int (i : Int)) ⟨by simp, fun i v y h1 h2 => by rw [List.getElem?_map, h2] at h1; cases h1; rfl⟩] at this)
theorem eqv_nil (ds : List PyData) : PyData.eqv (.list ds) (.list []) = ds.isEmpty := by
  cases ds <;> rfl
def Shp (k : Nat) (d : PyData) : Prop := d.canLay0 = true ∧ d.depth ≤ k
theorem shp_all {k : Nat} : ∀ {ds : List PyData}, (∀ d, d ∈ ds → Shp k d) → PyData.canLayAll0 ds = true ∧ PyData.depthAll ds ≤ k
  | [], _ => ⟨by simp only [PyData.canLayAll0], by simp only [PyData.depthAll]; omega⟩
  | d :: ds, h => by
    obtain ⟨h1, h2⟩ := shp_all (ds := ds) fun x hx => h x (List.mem_cons_of_mem _ hx)
    obtain ⟨h3, h4⟩ := h d List.mem_cons_self
    exact ⟨by simp only [PyData.canLayAll0, h3, h1, Bool.and_self], by simp only [PyData.depthAll]; omega⟩
theorem Shp.list {k : Nat} {ds : List PyData} (h : ∀ d, d ∈ ds → Shp k d) : Shp (k + 1) (.list ds) := by
  obtain ⟨h1, h2⟩ := shp_all h
  exact ⟨by simp only [PyData.canLay0, h1], by simp only [PyData.depth]; omega⟩
theorem Shp.tuple {k : Nat} {ds : List PyData} (h : ∀ d, d ∈ ds → Shp k d) : Shp (k + 1) (.tuple ds) := by
  obtain ⟨h1, h2⟩ := shp_all h
  exact ⟨by simp only [PyData.canLay0, h1], by simp only [PyData.depth]; omega⟩
theorem shp_int (k : Nat) (i : Int) : Shp k (.int i) := ⟨by simp only [PyData.canLay0], by simp only [PyData.depth]; omega⟩
theorem Shp.ok {k : Nat} {d : PyData} (h : Shp k d) (hk : k ≤ 64) : SeqAt.shaped d = true := by
  unfold SeqAt.shaped
  rw [h.1, decide_eq_true (Nat.le_trans h.2 hk)]; rfl
theorem evp_neNil {xs : List Nat} (h : EvP mu ta σ G (TPos xs)) : EvP mu (tOp (rNeD K) ta (tLst tNil)) σ G (TB (!xs.isEmpty)) :=
  evp_op h (evp_nil (P := fun i : Nat => TZ (i : Int))) fun v w G1 _ ⟨a, vs, e1, g1, f1⟩ ⟨b, us, e2, g2, f2⟩ => by
    have eu : us = [] := List.length_eq_zero_iff.mp f2.1
    subst eu
    refine RvP.pure (v := .bl (!xs.isEmpty)) (fun Q H hA q => ⟨.list (xs.map fun i : Nat => PyData.int (i : Int)), .list [], by rw [e1]; exact .lst (sql_at hA g1) (dp_ints f1), by rw [e2]; exact .lst (sql_at hA g2) .nil, ?_, rfl, ?_⟩) rfl
    · exact (Shp.list (k := 0) fun d hd => by
        obtain ⟨i, _, rfl⟩ := List.mem_map.mp hd
        exact shp_int _ _).ok (by decide)
    · rw [eqv_nil]
      have : (xs.map fun i : Nat => PyData.int (i : Int)).isEmpty = xs.isEmpty := by cases xs <;> rfl
      rw [this]; exact q
/-! bars -/
structure BarOk (x : NM) (u : Nat → Gn) : Prop where
  neg : (fm x.m (List.range x.n) u).re < 0
  q : Qd 495 x.n u
def B_bar (x : NM) : Prd := fun v G => if pb x.m x.n = true then v = .non else ∃ u, TRow x.n u v G ∧ BarOk x u
instance {x : NM} : Mono (B_bar x) := ⟨fun {v H H'} e h => by
  unfold B_bar at h ⊢
  split
  · rename_i c; rw [if_pos c] at h; exact h
  · rename_i c; rw [if_neg c] at h
    obtain ⟨u, p, o⟩ := h
    exact ⟨u, Mono.mono e p, o⟩⟩
theorem bar_yes {x : NM} {u : Nat → Gn} {v : V} (h : ¬ PSD x.m (List.range x.n)) (p : TRow x.n u v G) (o : BarOk x u) : B_bar x v G := by
  unfold B_bar
  rw [if_neg (by rw [pb_false h]; decide)]
  exact ⟨u, p, o⟩
theorem bar_no {x : NM} (h : PSD x.m (List.range x.n)) : B_bar x .non G := by
  unfold B_bar
  rw [if_pos (pb_true h)]
theorem not_psd {x : NM} {u : Nat → Gn} (h : (fm x.m (List.range x.n) u).re < 0) : ¬ PSD x.m (List.range x.n) := fun z => by
  have := z u
  exact absurd h (by grind)
theorem WS.at.q {p : Nat} (w : s.at G) (hp : p ∈ s.left) : Qd 295 s.n (s.w p) := by
  have hl : 1 ≤ s.left.length := by
    cases e : s.left with
    | nil => rw [e] at hp; cases hp
    | cons _ _ => simp
  exact (w.k.bw.mono (kx3 (by have := w.n4; have := w.k.len; omega))).row1 (w.k.lt hp)
theorem WS.at.qbent {a b : Nat} (w : s.at G) (ha : a ∈ s.left) (hb : b ∈ s.left) (hne : a ≠ b) (z0 : s.v a b ≠ 0) : Qd 495 s.n (bw s a b) := by
  have l2 := two_len ha hb hne
  have an := w.k.lt ha
  have bn' := w.k.lt hb
  obtain ⟨o1, o2⟩ := tsz (w.szv2 l2 an bn') z0 (w.szv2 l2 bn' bn').re
  obtain ⟨c, c0, cb, h⟩ := w.k.bw.mono (Nat.le_trans (kx_mono (by have := w.n4; have := w.k.len; omega : s.n - s.left.length ≤ 2)) (by decide : kx 2 ≤ 97))
  exact Qd.comb (a := 396) (b := 97) o2 c0 cb (h a an) (h b bn')
abbrev S_bent : Sp := spP (rW A_bent B_bent)
theorem psd_nil {V : Mx} {left : List Nat} (h : left = []) : PSD V left := by
  subst h
  intro w
  show (0 : Rat) ≤ (0 : Gn).re
  rw [zero_re]; decide
theorem m_bar_of (T : Tx K) : SemP (t_bar_of K spW S_fb S_fw S_bent S_take) n_bar_of A_sq B_bar := by
  intro mu x vs G H hA ⟨v, e, hv, ox⟩ D k
  subst e
  have n4 := ox.n4
  unfold t_bar_of
  dsimp only [tSeq]
  refine evW_make (ta := tVar 0) (σ := start n_bar_of [v]) (evp_var (P := TMx x.n x.m) rfl hv) (by omega) hA fun d G1 H1 s1 fr a1 f1 => ?_
  have I1 := WkI.start (M := x.m) hA s1 fr a1 f1 n4 ox.her ox.bd
  have B1 : Wb x.n x.m x.m idm (List.range x.n) := by
    refine ⟨I1.w.k, fun i hi j hj => ?_, fun i hi l hl => rfl, fun i hi l hl hn => absurd (by simpa using hl) hn⟩
    rw [sm_one List.nodup_range (p := i) (by simpa using hi) fun k _ hne => by unfold idm; rw [if_neg fun z => hne z.symm]; grind]
    unfold idm; rw [if_pos rfl]; grind
  show (tWhile _ _ { nx := _, rt := _, bk := _, ct := _ } _ H1)
  refine swhile (fun m σ H' => ∃ (s : WS) (c1 c2 c3 : Option V) (G' : Hp), m = s.left.length ∧ σ = [some v, some (.ref s.d.p), c1, c2, c3] ∧ WkI mu G H s G' H' ∧ s.n = x.n ∧ Wb x.n x.m s.v s.w s.left ∧ (PSD s.v s.left ↔ PSD x.m (List.range x.n)))
    ⟨_, ⟨d, x.n, x.m, idm, List.range x.n⟩, none, none, none, G1, rfl, rfl, I1, rfl, B1, Iff.rfl⟩ ?_
  rintro m σ H' ⟨s, c1, c2, c3, G', rfl, es, I, en, hB, hpsd⟩
  subst es
  refine ⟨addW mu s.d, G', !s.left.isEmpty, I.at_, evt_test (evp_neNil (evp_wl T (evp_is rfl) I.w.f.l)), fun hb G4 H4 s4 => ?_, fun hb G4 H4 s4 => ?_⟩
  · have I4 := I.ev s4
    dsimp only
    refine spar I4.at_ (P1 := TO (fw s (-1))) (P2 := TOP (fb s)) (evp_fw (g := -1) I4.w (evp_is rfl) evp_neg1) (evp_fb I4.w (evp_is rfl)) fun lo pr G5 H5 s5 p1 p2 => ?_
    have I5 := I4.ev s5
    dsimp only
    -- a low place
    refine sifb (D := _) I5.at_ (evt_test (evp_notN0 (b := (fw s (-1)).isNone) (evp_var (P := TO (fw s (-1))) rfl p1) fun v G1 _ p => to_non _ p)) (fun hlow G6 H6 s6 => ?_) fun hlow G6 H6 s6 => ?_
    · cases hneg : fw s (-1) with
      | none => rw [hneg] at hlow; cases hlow
      | some p =>
        obtain ⟨pm, psg⟩ := fw_some hneg
        have neg : (s.v p p).re < 0 := (sg_neg _).mp psg
        rw [hneg] at p1
        have p1' : lo = .int (p : Int) := p1
        subst p1'
        have I6 := I5.ev s6
        refine sret (D := _) (P := TRow s.n (s.w p)) I6.at_ (evp_wwi I6.w.f.w (evp_ww T (evp_is rfl)) (evp_is rfl) (I6.w.k.lt pm)) fun v G7 H7 s7 q => ?_
        have low := hB.low pm neg
        have qq := (I.w.q pm).mono (by decide : 295 ≤ 495)
        rw [en] at q qq
        exact k v G7 H7 (I6.ev s7).st (bar_yes (not_psd (x := x) low) q ⟨low, qq⟩)
    · have I6 := I5.ev s6
      have hneg : fw s (-1) = none := by
        cases q : fw s (-1) with
        | none => rfl
        | some p => rw [q] at hlow; cases hlow
      have p2' := Mono.mono s6.gg p2
      refine sifb (D := _) I6.at_ (evt_test (evp_notN0 (b := (fb s).isNone) (evp_var (P := TOP (fb s)) rfl p2') fun v G1 _ p => top_non _ p)) (fun hpr G7 H7 s7 => ?_) fun hpr G7 H7 s7 => ?_
      · cases hbs : fb s with
        | none => rw [hbs] at hpr; cases hpr
        | some ab =>
          obtain ⟨a, b⟩ := ab
          obtain ⟨am, bm, za, nb⟩ := fb_some hbs
          have hne : a ≠ b := fun z => by
            rw [← z, I.w.k.her.zero am za] at nb; exact nb rfl
          rw [hbs] at p2'
          have I7 := I6.ev s7
          have p27 : TPr (TZ (a : Int)) (TZ (b : Int)) pr G7 := Mono.mono s7.gg p2'
          refine sret (D := _) (P := B_bent (a, b) s) I7.at_ (evp_wc3 (x := (a, b)) (A := A_bent) (B := B_bent) I7.w (evp_is rfl) (evp_ix0 (A := TZ (a : Int)) (B := TZ (b : Int)) (evp_var rfl p27) evp_c) (evp_ix1 (A := TZ (a : Int)) (B := TZ (b : Int)) (evp_var rfl p27) evp_c) fun u y G1 _ q r => ⟨by rw [show u = _ from q, show y = _ from r], am, bm, hne, nb⟩) fun v G8 H8 s8 q => ?_
          have low := hB.bent am bm za nb
          have qq := I.w.qbent am bm hne nb
          have q : TRow s.n (bw s a b) v G8 := q
          rw [en] at q qq
          exact k v G8 H8 (I7.ev s8).st (bar_yes (not_psd (x := x) low) q ⟨low, qq⟩)
      · have I7 := I6.ev s7
        have hbs : fb s = none := by
          cases q : fb s with
          | none => rfl
          | some p => rw [q] at hpr; cases hpr
        dsimp only
        refine sasg I7.at_ (P := TO (fw s 1)) (evp_fw (g := 1) I7.w (evp_is rfl) (evp_c (v := .int 1))) fun pl G8 H8 s8 p8 => ?_
        have I8 := I7.ev s8
        dsimp only
        refine sifb (D := _) I8.at_ (evt_test (evp_isN0 (b := (fw s 1).isNone) (evp_var (P := TO (fw s 1)) rfl p8) fun v G1 _ p => to_non _ p)) (fun hpl G9 H9 s9 => ?_) fun hpl G9 H9 s9 => ?_
        · have I9 := I8.ev s9
          have hpos : fw s 1 = none := Option.isNone_iff_eq_none.mp hpl
          have h0 : ∀ a, a ∈ s.left → (s.v a a).re = 0 := fun a ha => by
            have h1 := fw_none hpos ha
            have h2 := fw_none hneg ha
            rw [← sg_zero (s.v a a).re]
            have hr : sg (s.v a a).re = 1 ∨ sg (s.v a a).re = -1 ∨ sg (s.v a a).re = 0 := by
              unfold sg
              by_cases h1 : 0 < (s.v a a).re.num <;> by_cases h2 : (s.v a a).re.num < 0 <;> simp [h1, h2] <;> omega
            rcases hr with z | z | z
            · exact absurd z h1
            · exact absurd z h2
            · exact z
          exact k .non G9 H9 I9.st (bar_no (hpsd.mp (psd_flat I.w.k.her h0 fun a ha b hb hz => fb_none hbs ha hb hz)))
        · have I9 := I8.ev s9
          cases hpos : fw s 1 with
          | none => rw [hpos] at hpl; cases hpl
          | some p =>
            obtain ⟨pm, psg⟩ := fw_some hpos
            have pos : 0 < (s.v p p).re := (sg_pos _).mp psg
            rw [hpos] at p8
            have p8' : pl = .int (p : Int) := p8
            subst p8'
            dsimp only
            refine stake (σ := [some v, some (.ref s.d.p), some lo, some pr, some (.int (p : Int))]) (i := 1) (k := 4) I9 pm (pos_ne pos) rfl rfl fun d' G10 H10 I10 sd r10 => ?_
            have hlen := wo_len I.w.k.nd pm
            refine ⟨_, ?_, ⟨d', s.n, tk s.v s.v s.left p, tk s.w s.v s.left p, wo s.left p⟩, some lo, some pr, some (.int (p : Int)), G10, rfl, ?_, I10, en, hB.take pm (pos_ne pos), (psd_tk I.w.k.nd I.w.k.her pm pos).symm.trans hpsd⟩
            · show (wo s.left p).length < s.left.length; omega
            · show [some v, some (.ref s.d.p), some lo, some pr, some (.int (p : Int))] = [some v, some (.ref d'.p), some lo, some pr, some (.int (p : Int))]
              rw [sd.1]
  · have I4 := I.ev s4
    have hnil : s.left = [] := by cases q : s.left with
      | nil => rfl
      | cons _ _ => rw [q] at hb; cases hb
    exact k .non G4 H4 I4.st (bar_no (hpsd.mp (psd_nil hnil)))
end N640

set_option Elab.async false
set_option linter.all false
set_option maxRecDepth 100000
set_option maxHeartbeats 4000000
namespace N640
open PySem PySem.Spec PyProof.Rows L2 Gn
variable {K : PySem.W.Frag} {mu : Mu} {G H G0 H0 G' H' : Hp} {σ : L2.St} {ta tb tc : TE} {D : Ends} {d : WD} {s : WS}
abbrev S_barof : Sp := spP (pR A_sq B_bar)
theorem m_bar : SemP (t_bar K S_barof S_want) n_bar A_tabS B_bar := by
  intro mu x vs G H hA ⟨v, e, hv, o⟩ D k
  subst e
  exact sret hA (evp_c1 (x := x) (A := A_sq) (B := B_bar) (evp_want (x := x) (evp_var (P := TTab x.n x.m) rfl hv) o.ok) fun v G1 _ p => ⟨v, rfl, p, o⟩) k
structure IB where
  n : Nat
  m : Mx
  u : Nat → Gn
def A_isbar (x : IB) (vs : List V) (G : Hp) : Prop := ∃ v a, vs = [v, a] ∧ TTab x.n x.m v G ∧ Lof (fun j => TVal (x.u j)) (List.range x.n) a G ∧ (⟨x.n, x.m⟩ : NM).sm ∧ Qd 495 x.n x.u
abbrev B_isbar (x : IB) : Prd := TB (decide ((fm x.m (List.range x.n) x.u).re < 0))
theorem mem_take_range {n k i : Nat} (h : i ∈ (List.range n).take k) : i < n := by simpa using List.mem_of_mem_take h
theorem pf_ok {x : IB} (o : (⟨x.n, x.m⟩ : NM).sm) (q : Qd 495 x.n x.u) : (⟨x.n, x.m, x.u, x.u⟩ : PF).ok := by
  have n4 : x.n ≤ 4 := o.n4
  have bd : Bd 9 x.n x.m := o.bd
  have rows : Qd 509 x.n (PF.r ⟨x.n, x.m, x.u, x.u⟩) := (bd.rows q.conj (by omega)).mono (by decide)
  refine ⟨by show x.n ≤ 8; omega, fun j hj => (q.sz hj).ok, fun i hi => ⟨fun j hj => (bd.sz hi (by simpa using hj)).ok, fun j hj => (q.conj.sz (by simpa using hj)).ok, fun j hj => ((bd.sz hi (by simpa using hj)).mul (q.conj.sz (by simpa using hj)) (Nat.le_refl _)).ok, fun k hk => ?_⟩,
    ⟨fun j hj => (q.sz (by simpa using hj)).ok, fun j hj => (rows.sz (by simpa using hj)).ok, fun j hj => ((q.sz (by simpa using hj)).mul (rows.sz (by simpa using hj)) (Nat.le_refl _)).ok, fun k hk => ?_⟩⟩
  · exact ((bd.row1 hi).psum q.conj ((List.range x.n).take k) (fun i hi => mem_take_range hi) (by rw [List.length_take]; simp; omega)).ok
  · exact (q.psum rows ((List.range x.n).take k) (fun i hi => mem_take_range hi) (by rw [List.length_take]; simp; omega)).ok
abbrev S_form : Sp := spP (pR A_form B_form)
theorem m_isbar (T : Tx K) : SemP (t_is_bar K S_want S_vals S_form S_twinof S_sign) n_is_bar A_isbar B_isbar := by
  intro mu x vs G H hA ⟨v, a, e, hv, ha, o, q⟩ D k
  subst e
  have n4 : x.n ≤ 4 := o.n4
  refine sasg hA (evp_want (x := (⟨x.n, x.m⟩ : NM)) (evp_var (P := TTab x.n x.m) rfl hv) o.ok) fun t G1 H1 s1 p1 => ?_
  have a1 := hA.stp s1
  have ha1 := Mono.mono s1.gg ha
  refine sret a1 (evp_to (evp_and (a := true) (b := decide ((fm x.m (List.range x.n) x.u).re < 0)) (evp_c2 (x := (⟨x.n, x.u⟩ : NF)) (A := A_vals) (B := fun _ => TB true) (P1 := TSq x.n x.u) (evp_var rfl (.inl ha1)) (P2 := TZ (x.n : Int)) (evp_to (evp_len (P := fun i => TRow x.n (x.m i)) (evp_var (P := Sof (fun i => TRow x.n (x.m i)) (List.range x.n)) rfl (.inl p1))) (by simp)) fun v u G2 _ p q => ⟨v, by rw [show u = _ from q], p, by show x.n ≤ 8; omega⟩) fun _ => ?_) (by simp)) fun v G2 H2 s2 p => k v G2 H2 (s1.trans s2) p
  refine evp_to (evp_lt (evp_sign (evp_c2 (x := (⟨x.n, x.m, x.u, x.u⟩ : PF)) (A := A_form) (B := B_form) (evp_var (P := TMx x.n x.m) rfl p1) (P2 := TRow x.n x.u) (evp_lcN (evi_list (evp_var (P := Lof (fun j => TVal (x.u j)) (List.range x.n)) rfl ha1)) (by simp; omega) (fun _ => rfl) fun j hj w G2 _ p G3 e3 => evp_c1 (x := x.u j) (A := A_valO) (B := fun z => TTw z) (evp_var rfl (Mono.mono e3 p)) fun v G1 _ p => ⟨v, rfl, p, (q.sz (by simpa using hj)).ok⟩) fun v u G2 _ p r => ⟨v, u, rfl, p, r, rfl, pf_ok o q⟩)) evp_c) ?_
  congr 1
  rw [decide_eq_decide]
  constructor
  · intro h
    rw [← num_neg]
    unfold sg at h
    by_cases h1 : 0 < (fm x.m (List.range x.n) x.u).re.num <;> by_cases h2 : (fm x.m (List.range x.n) x.u).re.num < 0 <;> simp [h1, h2] at h <;> omega
  · intro h
    rw [(sg_neg _).mpr h]; decide
/-! least_part -/
theorem NM.sm.pick {n : Nat} {m : Mx} {I : List Nat} (h : (⟨n, m⟩ : NM).sm) (hne : I ≠ []) (hl : I.length ≤ 4) (hi : ∀ i, i ∈ I → i < n) : (⟨I.length, pk m I⟩ : NM).sm := by
  have at_ : ∀ a, a < I.length → I.getD a 0 ∈ I := fun a ha => by
    rw [List.getD_eq_getElem?_getD, List.getElem?_eq_getElem ha]; exact List.getElem_mem ha
  refine ⟨List.length_pos_iff.mpr hne, hl, fun i hi' j hj => ?_, ?_⟩
  · have hi2 := hi _ (at_ i (by simpa using hi'))
    have hj2 := hi _ (at_ j (by simpa using hj))
    exact h.her _ (by simpa using hi2) _ (by simpa using hj2)
  · obtain ⟨d, d0, db, hb⟩ := h.bd
    exact ⟨d, d0, db, fun i hi' j hj => hb _ (hi _ (at_ i hi')) _ (hi _ (at_ j hj))⟩
theorem pk_range {m : Mx} {n a b : Nat} (ha : a < n) (hb : b < n) : pk m (List.range n) a b = m a b := by
  unfold pk
  rw [List.getD_eq_getElem?_getD, List.getD_eq_getElem?_getD, List.getElem?_range ha, List.getElem?_range hb]; rfl
theorem pb_congr {m m' : Mx} {n : Nat} (h : ∀ i, i < n → ∀ j, j < n → m i j = m' i j) : pb m n = pb m' n := by
  have e : PSD m (List.range n) ↔ PSD m' (List.range n) := PSD.congr fun i hi j hj => h i (by simpa using hi) j (by simpa using hj)
  by_cases z : PSD m (List.range n)
  · rw [pb_true z, pb_true (e.mp z)]
  · rw [pb_false z, pb_false fun q => z (e.mpr q)]
theorem pb_pick (m : Mx) (k : Nat) : pb (pk m (List.range k)) (List.range k).length = pb m k := by
  rw [List.length_range]
  exact pb_congr fun i hi j hj => pk_range hi hj
/-- the first leading part that is not never below -/
noncomputable def lp (x : NM) : Option Nat := (List.range x.n).find? fun k => !(pb x.m (k + 1))
noncomputable abbrev B_lp (x : NM) : Prd := TO (lp x)
theorem pos_range {n k : Nat} (h : k < n) (h4 : n ≤ 4) (m : Mx) : (⟨n, m, List.range (k + 1)⟩ : PK').ok :=
  ⟨by simp, List.nodup_range, fun i hi => by have : i < k + 1 := by simpa using hi
                                             show i < n; omega, by simp; omega⟩
theorem m_lpo : SemP (t_least_part_of K S_nbo S_pickof) n_least_part_of A_sq B_lp := by
  intro mu x vs G H hA ⟨v, e, hv, o⟩ D k
  subst e
  have n4 := o.n4
  refine sforP hA (evi_rng (n := x.n) ((eva_1 (P1 := TZ (x.n : Int)) (evp_to (evp_len (P := fun i => TRow x.n (x.m i)) (evp_var (P := Sof (fun i => TRow x.n (x.m i)) (List.range x.n)) rfl (.inl hv))) (by simp))).imp fun vs G1 _ ⟨v, e, p⟩ => by rw [e, show v = _ from p]) (by omega))
    (fun i σ' G' => (∃ c, σ' = [some v, c]) ∧ ((List.range x.n).take i).find? (fun k => !(pb x.m (k + 1))) = none) (fun i σ G G' e p => p) ⟨⟨none, rfl⟩, rfl⟩ (fun Gs Hs s0 i y u σ1 G2 H2 hy s2 ⟨⟨c, es⟩, hn⟩ pu => ?_) fun σ1 G2 H2 s2 ⟨⟨c, es⟩, hn⟩ => ?_
  · subst es
    cases pu
    obtain ⟨rfl, hi⟩ := range_get hy
    have a2 := (hA.stp s0).stp s2
    have hv2 := Mono.mono (s0.gg.trans s2.gg) hv
    have op := pos_range hi n4 x.m
    have test : EvT mu (tNot (tB (tCall S_nbo [] E0 (tCons (tCall S_pickof [] E0 (tCons (tVar 0) (tCons (tLstRg (tRg1 (tOp rAddI (tVar 1) (tC (.int 1))))) tNil))) tNil)))) [some v, some (.int (y : Int))] G2 (· = !(pb x.m (y + 1))) := by
      refine evt_not (evt_B (evp_to (evp_c1 (x := (⟨(List.range (y + 1)).length, pk x.m (List.range (y + 1))⟩ : NM)) (A := A_sq) (B := fun x => TB (pb x.m x.n)) (evp_c2 (x := (⟨x.n, x.m, List.range (y + 1)⟩ : PK')) (A := A_pick) (B := B_pick) (evp_var (P := TMx x.n x.m) rfl hv2) (P2 := TPos (List.range (y + 1))) (evp_rg (evp_to (evp_add (evp_is (v := .int (y : Int)) rfl) evp_c) rfl) (by omega)) fun v u G3 _ p q => ⟨v, u, rfl, p, q, op⟩) fun v G3 _ p => ⟨v, rfl, p, o.pick (by simp) (by simp; omega) op.lt⟩) ?_))
      show V.bl (pb (pk x.m (List.range (y + 1))) (List.range (y + 1)).length) = _
      rw [pb_pick]
    refine sifb (D := _) a2 test (fun hb G3 H3 s3 => ?_) fun hb G3 H3 s3 => ?_
    · refine sret (P := TO (some y)) (a2.stp s3) (evp_is (v := .int y) rfl) fun v G4 H4 s4 p => k v G4 H4 (((s0.trans s2).trans s3).trans s4) ?_
      show TO (lp x) v _
      rw [show lp x = some y from find_at hy hn hb]; exact p
    · exact ⟨G3, s2.trans s3, ⟨_, rfl⟩, find_next hy hn hb⟩
  · subst es
    rw [List.take_of_length_le (Nat.le_refl _)] at hn
    refine sret (P := TN) (σ := [some v, c]) (hA.stp s2) evp_c fun v G3 H3 s3 p => k v G3 H3 (s2.trans s3) ?_
    show TO (lp x) v _
    rw [show lp x = none from hn]; exact p
abbrev S_lpo : Sp := spP (pR A_sq B_lp)
theorem m_lp : SemP (t_least_part K S_lpo S_want) n_least_part A_tabS B_lp := by
  intro mu x vs G H hA ⟨v, e, hv, o⟩ D k
  subst e
  exact sret hA (evp_c1 (x := x) (A := A_sq) (B := B_lp) (evp_want (x := x) (evp_var (P := TTab x.n x.m) rfl hv) o.ok) fun v G1 _ p => ⟨v, rfl, p, o⟩) k
end N640

set_option Elab.async false
set_option linter.all false
set_option maxRecDepth 100000
set_option maxHeartbeats 4000000
namespace N640
open PySem PySem.Spec PyProof.Rows L2 Gn
variable {K : PySem.W.Frag} {mu : Mu} {G H G0 H0 G' H' : Hp} {σ : L2.St} {ta tb tc : TE} {D : Ends} {d : WD} {s : WS}
def prt2 (V : Mx) (p q : Nat) (dn : List Nat) : Mx := fun a j => if decide (a ∈ dn) then V a j - V a p * inv (V q p) * V q j - V a q * inv (V p q) * V p j else V a j
theorem prt2_in {V : Mx} {p q a : Nat} {dn : List Nat} (h : a ∈ dn) : prt2 V p q dn a = fun j => V a j - V a p * inv (V q p) * V q j - V a q * inv (V p q) * V p j := by funext j; unfold prt2; rw [if_pos (decide_eq_true h)]
theorem prt2_out {V : Mx} {p q a : Nat} {dn : List Nat} (h : a ∉ dn) : prt2 V p q dn a = V a := by funext j; unfold prt2; rw [if_neg (by simpa using h)]
theorem prt2_tw {V : Mx} {left : List Nat} {p q : Nat} : prt2 V p q (wo2 left p q) = tw V left p q := by
  funext a j
  by_cases h : a ∈ wo2 left p q
  · rw [prt2_in h, tw_left h]
  · rw [prt2_out h, tw_out h]
def spT2 : Sp := fun vs H Q _ => ∃ (mu : Mu) (s : WS) (p q : Nat) (G : Hp), vs = [.ref s.d.p, .int p, .int q] ∧ At (addW mu s.d) G H ∧ s.at G ∧ (∀ b, s.d.mt b → ¬ mu.mt b) ∧ p ∈ s.left ∧ q ∈ s.left ∧ p ≠ q ∧ s.v p q ≠ 0 ∧
  ∀ (d' : WD) (G' H' : Hp), SameD s.d d' → Rel (addW mu s.d).mt G H G' H' → At (addW mu d') G' H' → (⟨d', s.n, tw s.v s.left p q, s.w, wo2 s.left p q⟩ : WS).at G' → Q .non H'
theorem setv3 {te : TE} {n y : Nat} {f : Nat → Gn} {P : Nat → Prd} [∀ a, Mono (P a)] (hA : At (addW mu d) G H) (hn : ∀ b, d.mt b → ¬ mu.mt b) (hne : d.lv ≠ d.lw) (hs : σ[3]? = some (some (.ref d.lv))) (hy : σ[6]? = some (some (.int (y : Int)))) (hlt : y < n)
    (hv : Vof P (List.range n) d.vls G) (h : EvP (addW mu d) te σ G (TRow n f)) (k : ∀ u G' H', TRow n f u G' → Rel (addW mu d).mt G H G' H' → At (addW mu { d with vls := d.vls.set y u }) G' H' → D.nx σ H') :
    tAsg te (gSub (tVar 3) (tVar 6) rSetL) D σ H := by
  refine h G H Ex.rfl' hA _ fun u G1 H1 s1 p1 => ?_
  have a1 := hA.stp s1
  refine ⟨.ref d.lv, hs, .int (y : Int), hy, d.lv, d.vls, y, y, rfl, rfl, a1.iv.2.2.1, ?_, ?_⟩
  · have : y < d.vls.length := by rw [hv.1]; simpa using hlt
    unfold ixN
    rw [if_pos (by omega), if_pos (by omega)]; rfl
  · have g : G1 d.lv = none := a1.nm _ (.inr (.inr (.inl rfl)))
    exact k u G1 _ p1 (s1.toRel.putA _ (.inr (.inr (.inl rfl))) g) (a1.setV (hn _ (.inr (.inl rfl))) hne)
theorem m_take2 (T : Tx K) (vs : List V) (H : Hp) (Q : VK) (E : XK) (h : spT2 vs H Q E) (D : Ends) (hD : ∀ σ H', Q .non H' → D.nx σ H') : t_take_two K S_tover S_lt D (start n_take_two vs) H := by
  obtain ⟨mu, s, p, q, G, e, hA, w, hn, hp, hq, hne, z0, kk⟩ := h
  subst e
  have pn : p < s.n := w.k.lt hp
  have qn : q < s.n := w.k.lt hq
  have l2 := two_len hp hq hne
  have z0' : s.v q p ≠ 0 := by rw [w.k.her p hp q hq]; exact conj_ne z0
  refine sasg hA (evp_wv T (evp_is rfl)) fun lv G1 H1 s1 p1 => ?_
  cases p1
  have a1 := hA.stp s1
  have w1 := w.mono s1.gg
  dsimp only [tSeq]
  refine sfldE ?_
  refine (evp_lcF (P := fun i : Nat => TZ (i : Int)) (j := 6) (vs := [6]) (σ := [some (.ref s.d.p), some (.int p), some (.int q), some (.ref s.d.lv), none, none, none, none, none]) (xs := s.left) (wi := iList K (tFld K (tVar 0) "own_left")) (te := tVar 6) (tt := tAnd (tTest (tOp rNe (tVar 6) (tVar 1))) (tTest (tOp rNe (tVar 6) (tVar 2)))) (fun i => decide (i ≠ p ∧ i ≠ q)) (evi_list (P := fun i : Nat => TZ (i : Int)) (evp_wl T (evp_is rfl) w1.f.l)) (by have := w.k.len; have := w.n4; omega) (fun _ => rfl) (fun i hi v G2 e2 pv => ?_) fun i hi v G2 e2 pv G3 e3 => ?_) G1 H1 Ex.rfl' a1 _ fun y G2 H2 s2 py => ?_
  · cases pv
    refine evt_to (evt_and (evt_test (evp_neI (evp_is rfl) (evp_is rfl))) fun _ => evt_test (evp_neI (evp_is rfl) (evp_is rfl))) ?_
    by_cases h1 : i = p <;> by_cases h2 : i = q <;> simp [h1, h2] <;> omega
  · cases pv; exact evp_is rfl
  · have a2 := a1.stp s2
    obtain ⟨ll, ls, ey, gl, fl⟩ := py
    subst ey
    refine ⟨.ref s.d.p, rfl, s.d.p, N640.CW, s.d.dx, s.d.fs, rfl, a2.iv.2.1, bCls_ok T.clsW, He.eqO_ok T.no_own_left_W, by show 3 < 1000; decide, ?_⟩
    have a3 := a2.setL (l := ll) (hn _ (.inl rfl))
    have gp : G2 s.d.p = none := a2.nm _ (.inr (.inl rfl))
    have r3 : Rel (addW mu s.d).mt G H G2 (L2.upd H2 s.d.p (.ins N640.CW s.d.dx (WD.fs { s.d with ll := ll }))) := (s1.trans s2).toRel.putA _ (.inr (.inl rfl)) gp
    have w2 := w1.mono s2.gg
    have nd : (wo2 s.left p q).Nodup := w.k.nd.filter _
    dsimp only
    refine spar (mu := addW mu { s.d with ll := ll }) a3 (P1 := TTw (s.v p q)) (P2 := TTw (s.v q p)) (evp_at (evp_wvi (d := { s.d with ll := ll }) w2.f.v (evp_is rfl) (evp_is (v := .int (p : Int)) rfl) pn) (evp_is (v := .int (q : Int)) rfl) qn) (evp_at (evp_wvi (d := { s.d with ll := ll }) w2.f.v (evp_is rfl) (evp_is (v := .int (q : Int)) rfl) qn) (evp_is (v := .int (p : Int)) rfl) pn) fun tov bkv G3 H3 s3 pt pb' => ?_
    have a4 := a3.stp s3
    have r4 : Rel (addW mu s.d).mt G H G3 H3 := r3.trans s3.toRel
    have w3 := w2.mono s3.gg
    have gl3 := s3.gg _ _ gl
    have fl3 : Vof (fun i : Nat => TZ (i : Int)) (wo2 s.left p q) ls G3 := fl.mono s3.gg
    have els := vof_ints fl3
    dsimp only
    refine sforL ?_
    refine evp_wf (mu := mu) (d := { s.d with ll := ll }) (bCls_ok T.clsW) (He.eqO_ok T.no_own_left_W) rfl (evp_is rfl) G3 _ Ex.rfl' a4 _ fun x G4 H4 s4 px => ?_
    cases px
    have a5 := a4.stp s4
    have r5 : Rel (addW mu s.d).mt G H G4 H4 := r4.trans s4.toRel
    have gl4 := s4.gg _ _ gl3
    have fl4 := fl3.mono s4.gg
    have w4 := w3.mono s4.gg
    have pt4 : TTw (s.v p q) tov G4 := Mono.mono s4.gg pt
    have pb4 : TTw (s.v q p) bkv G4 := Mono.mono s4.gg pb'
    refine ⟨ll, rfl, ⟨ls, SqL.of (a5.ex _ _ gl4)⟩, ?_⟩
    refine for_list (xs := ls) (fun i σ H' => ∃ (G' : Hp) (d' : WD) (c1 c2 c3 : Option V), σ = [some (.ref s.d.p), some (.int p), some (.int q), some (.ref s.d.lv), some tov, some bkv, c1, c2, c3] ∧ SameD s.d d' ∧ d'.ll = ll ∧ At (addW mu d') G' H' ∧ Ex G4 G' ∧ Rel (addW mu s.d).mt G H G' H' ∧
        Vof (fun a => TRow s.n (prt2 s.v p q ((wo2 s.left p q).take i) a)) (List.range s.n) d'.vls G' ∧ d'.wls = s.d.wls) ?_ ?_ ?_ ?_
    · refine ⟨G4, { s.d with ll := ll }, none, none, none, rfl, ⟨rfl, rfl, rfl, rfl⟩, rfl, a5, Ex.rfl', r5, ?_, rfl⟩
      exact w4.f.v.imp fun a _ v h => by rw [prt2_out (by simp)]; exact h
    · rintro i σ H' _ ⟨G', d', c1, c2, c3, _, _, _, a', e', _⟩
      exact SqL.of (a'.ex _ _ (e' _ _ gl4))
    · rintro i x σ H' hx ⟨G', d', c1, c2, c3, es, sd, hll, a', e', r', fv, fw⟩
      subst es
      rw [els, List.getElem?_map] at hx
      cases hy : (wo2 s.left p q)[i]? with
      | none => rw [hy] at hx; cases hx
      | some y =>
        rw [hy] at hx
        cases hx
        have hym : y ∈ wo2 s.left p q := List.mem_of_getElem? hy
        have hyl : y ∈ s.left := (mem_wo2.mp hym).1
        have hyn : y < s.n := w.k.lt hyl
        have hnt : y ∉ (wo2 s.left p q).take i := nd_take nd hy
        have hpt : p ∉ (wo2 s.left p q).take i := fun z => (mem_wo2.mp (List.mem_of_mem_take z)).2.1 rfl
        have hqt : q ∉ (wo2 s.left p q).take i := fun z => (mem_wo2.mp (List.mem_of_mem_take z)).2.2 rfl
        have hn' : ∀ b, d'.mt b → ¬ mu.mt b := by rw [sd.mt]; exact hn
        have mtE : (addW mu d').mt = (addW mu s.d).mt := by funext b; show (mu.mt b ∨ d'.mt b) = (mu.mt b ∨ s.d.mt b); rw [sd.mt]
        have hne' : d'.lv ≠ d'.lw := by rw [sd.2.2.1, sd.2.2.2]; exact w.f.ne
        have tks := take_succ_get hy
        have row : ∀ {G'' : Hp} {σ : L2.St} {m a : Nat}, Ex G' G'' → σ[3]? = some (some (.ref s.d.lv)) → σ[m]? = some (some (.int (a : Int))) → a < s.n → a ∉ (wo2 s.left p q).take i → EvP (addW mu d') (tOp (rIxL K) (tVar 3) (tVar m)) σ G'' (TRow s.n (s.v a)) := fun {G'' σ m a} e h3 hm ha hna => by
          have := evp_wvi (K := K) (mu := mu) (d := d') (i := a) (fv.mono e) (evp_is (i := 3) (by rw [h3, sd.2.2.1])) (evp_is hm) ha
          rw [prt2_out hna] at this; exact this
        have s1' : Sz 292 (s.v y p * inv (s.v q p)) := (w.szv2 l2 hyn pn).div (w.szv2 l2 qn pn) z0' (by decide)
        have s2' : Sz 292 (s.v y q * inv (s.v p q)) := (w.szv2 l2 hyn qn).div (w.szv2 l2 pn qn) z0 (by decide)
        dsimp only [gName]
        refine spar a' (P1 := TTw (s.v y p * inv (s.v q p))) (P2 := TTw (s.v y q * inv (s.v p q))) (evp_tover (evp_at (row Ex.rfl' rfl rfl hyn hnt) (evp_is (v := .int (p : Int)) rfl) pn) (evp_var (P := TTw (s.v q p)) rfl (Mono.mono e' pb4)) (w.szv2 l2 hyn pn).ok2 (w.szv2 l2 qn pn).ok2 z0') (evp_tover (evp_at (row Ex.rfl' rfl rfl hyn hnt) (evp_is (v := .int (q : Int)) rfl) qn) (evp_var (P := TTw (s.v p q)) rfl (Mono.mono e' pt4)) (w.szv2 l2 hyn qn).ok2 (w.szv2 l2 pn qn).ok2 z0) fun ah bh G5 H5 s5 pa pbh => ?_
        have a6 := a'.stp s5
        dsimp only
        refine setv3 (d := d') (n := s.n) (y := y) (P := fun a => TRow s.n (prt2 s.v p q ((wo2 s.left p q).take i) a)) (f := fun j => s.v y j - s.v y p * inv (s.v q p) * s.v q j - s.v y q * inv (s.v p q) * s.v p j) a6 hn' hne' (by rw [sd.2.2.1]; rfl) rfl hyn (fv.mono s5.gg)
          (evp_less (n := s.n) (f := fun j => s.v y j - s.v y p * inv (s.v q p) * s.v q j) (z := s.v y q * inv (s.v p q)) (g := s.v p) (evp_less (n := s.n) (f := s.v y) (z := s.v y p * inv (s.v q p)) (g := s.v q) (row s5.gg rfl rfl hyn hnt) (evp_var rfl pa) (row s5.gg rfl rfl qn hqt) ?_) (evp_var rfl pbh) (row s5.gg rfl rfl pn hpt) ?_) fun u G6 H6 pu r6 a7 => ?_
        · exact ⟨by have := w.n4; show s.n ≤ 8; omega, fun j hj => (w.szv2 l2 hyn hj).ok, s1'.ok, fun j hj => (w.szv2 l2 qn hj).ok, fun j hj => (s1'.mul (w.szv2 l2 qn hj) (Nat.le_refl _)).ok⟩
        · exact ⟨by have := w.n4; show s.n ≤ 8; omega, fun j hj => ((w.szv2 l2 hyn hj).sub (s1'.mul (w.szv2 l2 qn hj) (Nat.le_refl _)) (Nat.le_refl _)).ok, s2'.ok, fun j hj => (w.szv2 l2 pn hj).ok, fun j hj => (s2'.mul (w.szv2 l2 pn hj) (Nat.le_refl _)).ok⟩
        · have r6' : Rel (addW mu s.d).mt G5 H5 G6 H6 := mtE ▸ r6
          refine ⟨G6, { d' with vls := d'.vls.set y u }, some (.int (y : Int)), some ah, some bh, rfl, sd, hll, a7, (e'.trans s5.gg).trans r6'.gg, (r'.trans (mtE ▸ s5.toRel)).trans r6', ?_, fw⟩
          refine Vof.upd (P' := fun a => TRow s.n (prt2 s.v p q ((wo2 s.left p q).take (i + 1)) a)) (fv.mono (s5.gg.trans r6'.gg)) (by rw [prt2_in (by rw [tks]; simp)]; exact pu) fun a ha hl v h => ?_
          by_cases hm : a ∈ (wo2 s.left p q).take i
          · rw [prt2_in hm] at h; rw [prt2_in (by rw [tks]; simp [hm])]; exact h
          · rw [prt2_out hm] at h; rw [prt2_out (by rw [tks]; simp [hm, ha])]; exact h
    · rintro σ H' ⟨G', d', c1, c2, c3, es, sd, hll, a', e', r', fv, fw⟩
      have hlen : ls.length = (wo2 s.left p q).length := fl3.1
      rw [hlen, List.take_length, prt2_tw] at fv
      refine hD _ _ (kk d' G' H' sd r' a' ⟨⟨fv, by rw [fw]; exact w4.f.w.mono e', ?_, by rw [sd.2.2.1, sd.2.2.2]; exact w.f.ne⟩, w.k.two hp hq hne z0, w.n4⟩)
      rw [hll]
      exact ⟨ll, ls, rfl, e' _ _ gl4, fl4.mono e'⟩
end N640

set_option Elab.async false
set_option linter.all false
set_option maxRecDepth 100000
set_option maxHeartbeats 4000000
namespace N640
open PySem PySem.Spec PyProof.Rows L2 Gn
variable {K : PySem.W.Frag} {mu : Mu} {G H G0 H0 G' H' : Hp} {σ : L2.St} {ta tb tc : TE} {D : Ends} {d : WD} {s : WS}
theorem tDropE {te : TE} (h : te σ H fun _ H1 => D.nx σ H1) : tDrop te D σ H := h
theorem callE {sp : Sp} {dvs : List V} {E : XK} {t : TA} {Q : VK} (h : t σ H fun vs H1 => sp (vs ++ dvs) H1 Q E) : tCall sp dvs E t σ H Q := h
theorem asg4E {td : TE} {g : TG} (h : ta σ H fun x H1 => tb σ H1 fun y H2 => tc σ H2 fun z H3 => td σ H3 fun w H4 => ([x, y, z, w] : List V).length ≤ sizeLine ∧ ∀ p, H4 p = none → g (.ref p) σ (upd H4 p (.tup [x, y, z, w])) D.nx) : tAsg (tTup (tCons ta (tCons tb (tCons tc (tCons td tNil))))) g D σ H := h
theorem stake2 {p q : Nat} {pr : V} (I : WkI mu G0 H0 s G H) (hp : p ∈ s.left) (hq : q ∈ s.left) (hne : p ≠ q) (z0 : s.v p q ≠ 0) (h1 : σ[1]? = some (some (.ref s.d.p))) (h2 : σ[7]? = some (some pr)) (hpr : TPr (TZ (p : Int)) (TZ (q : Int)) pr G)
    (kk : ∀ d' G' H', WkI mu G0 H0 ⟨d', s.n, tw s.v s.left p q, s.w, wo2 s.left p q⟩ G' H' → SameD s.d d' → Ex G G' → D.nx σ H') : tDrop (tCall spT2 [] E0 (tCons (tVar 1) (tCons (tOp (rIxT K) (tVar 7) (tC (.int 0))) (tCons (tOp (rIxT K) (tVar 7) (tC (.int 1))) tNil)))) D σ H :=
  tDropE <| callE <| eva_3 (P1 := TIs (.ref s.d.p)) (P2 := TZ (p : Int)) (P3 := TZ (q : Int)) (evp_is h1) (evp_ix0 (A := TZ (p : Int)) (B := TZ (q : Int)) (evp_var h2 hpr) evp_c) (evp_ix1 (A := TZ (p : Int)) (B := TZ (q : Int)) (evp_var h2 hpr) evp_c) G H Ex.rfl' I.at_ _ fun vs G1 H1 s1 ⟨v, u, w, e, e1, e2, e3⟩ => by
    cases e1; cases e2; cases e3
    subst e
    have I1 := I.ev s1
    exact ⟨mu, s, p, q, G1, rfl, I1.at_, I1.w, I1.hn, hp, hq, hne, z0, fun d' G' H' sd r a w => kk d' G' H' (I1.tk sd r a w) sd (s1.gg.trans r.gg)⟩
theorem ofR_mul (q r : Rat) : ofR (q * r) = ofR q * ofR r := by
  apply ext' <;> simp only [ofR, mul_re, mul_im] <;> grind
theorem real_of {z : Gn} (h : z.im = 0) : z = ofR z.re := ext' rfl h
/-- what walked gives: the product is the determinant where no place is left -/
def T4 (x : NM) (v : V) (G : Hp) : Prop := ∃ (a : Addr) (x1 x3 w : V) (L : Nat) (q : Rat), v = .ref a ∧ G a = some (.tup [x1, .int (L : Int), x3, w]) ∧ TRt q w G ∧ (L = 0 → q = (detJ x.m (List.range x.n)).re) ∧ (L ≠ 0 → (detJ x.m (List.range x.n)).re = 0)
instance {x : NM} : Mono (T4 x) := ⟨fun e ⟨a, x1, x3, w, L, q, h1, h2, h3, h4, h5⟩ => ⟨a, x1, x3, w, L, q, h1, e _ _ h2, Mono.mono e h3, h4, h5⟩⟩
abbrev S_mkR : Sp := S_ratio
theorem m_walked (T : Tx K) : SemP (t_walked K S_ratio spW S_fw S_fb S_size S_rmul spT2 S_mid S_take) n_walked A_sq T4 := by
  intro mu x vs G H hA ⟨v, e, hv, ox⟩ D k
  subst e
  have n4 := ox.n4
  unfold t_walked
  dsimp only [tSeq]
  refine asg4E ?_
  refine evW_make (ta := tVar 0) (σ := start n_walked [v]) (evp_var (P := TMx x.n x.m) rfl hv) (by omega) hA fun d G1 H1 s1 fr a1 f1 => ?_
  have I1 := WkI.start (M := x.m) hA s1 fr a1 f1 n4 ox.her ox.bd
  dsimp only [tC]
  refine evp_mkRi (i := 1) (evp_c (v := .int 1)) G1 H1 Ex.rfl' I1.at_ _ fun rv G2 H2 s2 p2 => ?_
  have I2 := I1.ev s2
  refine ⟨Nat.le_of_lt (small1000 (by show 4 ≤ 1000; decide)), fun tp htp => ?_⟩
  have s3 := I2.at_.hid (.tup [.ref d.p, .int 0, .int 0, rv]) htp
  have I3 := I2.ev (G' := G2) s3
  refine ⟨tp, _, rfl, SqT.of upd_same, rfl, .ref d.p, _, rfl, .int 0, _, rfl, .int 0, _, rfl, rv, _, rfl, rfl, ?_⟩
  -- the loop
  show (tWhile _ _ { nx := _, rt := _, bk := _, ct := _ } _ _)
  refine swhile (fun m σ H' => ∃ (s : WS) (ab be : Int) (pr : V) (q : Rat) (c1 c2 c3 c4 : Option V) (G' : Hp), m = s.left.length ∧ σ = [some v, some (.ref s.d.p), some (.int ab), some (.int be), some pr, c1, c2, c3, c4] ∧ WkI mu G H s G' H' ∧ s.n = x.n ∧ TRt q pr G' ∧ RO (700 * (s.n - s.left.length) + 1) q ∧
      ofR q * detJ s.v s.left = detJ x.m (List.range x.n))
    ⟨_, ⟨d, x.n, x.m, idm, List.range x.n⟩, 0, 0, rv, ((1 : Int) : Rat), none, none, none, none, G2, rfl, rfl, I3, rfl, p2, ro_int (by exact Nat.one_lt_two_pow (by omega)) (by omega), ?_⟩ ?_
  · show ofR ((1 : Int) : Rat) * detJ x.m (List.range x.n) = _
    rw [← one_ofR]; grind
  rintro m σ H' ⟨s, ab, be, pr, q, c1, c2, c3, c4, G', rfl, es, I, en, hpr, hro, hdet⟩
  subst es
  have l4 : s.left.length ≤ 4 := by have := I.w.n4; have := I.w.k.len; omega
  -- the end
  have finish : ∀ (G9 H9 : Hp) (c1 c2 c3 c4 : Option V), WkI mu G H s G9 H9 → Ex G' G9 → (s.left.length = 0 → True) → (s.left.length ≠ 0 → detJ s.v s.left = 0) →
      tRet (tTup (tCons (tVar 2) (tCons (tCB (rLenN K) (tCons (tFld K (tVar 1) "own_left") tNil)) (tCons (tVar 3) (tCons (tVar 4) tNil))))) D [some v, some (.ref s.d.p), some (.int ab), some (.int be), some pr, c1, c2, c3, c4] H9 := by
    intro G9 H9 c1 c2 c3 c4 I9 e9 _ hz
    refine sret (D := D) (P := T4 x) (mu := addW mu s.d) I9.at_ ((evp_tup (n := 4) (eva_cons (P := TZ ab) (evp_is rfl) (eva_cons (P := TZ (s.left.length : Int)) (evp_len (P := fun i : Nat => TZ (i : Int)) ((evp_wl T (evp_is rfl) I9.w.f.l).imp fun v G1 _ p => .inl p)) (eva_cons (P := TZ be) (evp_is rfl) (eva_cons (P := TRt q) (evp_var rfl (Mono.mono e9 hpr)) eva_nil)))) ?_ ?_).imp ?_) fun v G10 H10 s10 p => k v G10 H10 (I9.ev s10).st p
    · rintro vs G1 ⟨a, r, rfl, _, b, r2, rfl, _, c, r3, rfl, _, d, r4, rfl, _, rfl⟩; simp
    · rintro vs G1 G2 e ⟨a, r, rfl, h1, b, r2, rfl, h2, c, r3, rfl, h3, d, r4, rfl, h4, rfl⟩
      exact ⟨a, _, rfl, h1, b, _, rfl, h2, c, _, rfl, h3, d, _, rfl, Mono.mono e h4, rfl⟩
    · rintro w G1 _ ⟨ad, vs, rfl, g, a, r, rfl, h1, b, r2, rfl, h2, c, r3, rfl, h3, dd, r4, rfl, h4, rfl⟩
      cases h2
      refine ⟨ad, a, c, dd, s.left.length, q, rfl, g, h4, fun hl => ?_, fun hl => ?_⟩
      · have hnil : s.left = [] := List.length_eq_zero_iff.mp hl
        rw [← hdet, hnil, dJ0]
        show q = (ofR q * 1).re
        rw [show ofR q * 1 = ofR q by grind]; rfl
      · rw [← hdet, hz hl]
        show (ofR q * 0).re = 0
        rw [show ofR q * 0 = 0 by grind]; rfl
  refine ⟨addW mu s.d, G', !s.left.isEmpty, I.at_, evt_test (evp_neNil (evp_wl T (evp_is rfl) I.w.f.l)), fun hb G4 H4 s4 => ?_, fun hb G4 H4 s4 => ?_⟩
  · have I4 := I.ev s4
    have q4 := Mono.mono s4.gg hpr
    dsimp only
    refine spar3 I4.at_ (P1 := TO (fw s 1)) (P2 := TO (fw s (-1))) (P3 := TN) (evp_fw (g := 1) I4.w (evp_is rfl) (evp_c (v := .int 1))) (evp_fw (g := -1) I4.w (evp_is rfl) evp_neg1) evp_c fun hi lo pa G5 H5 s5 p1 p2 p3 => ?_
    cases p3
    have I5 := I4.ev s5
    have q5 := Mono.mono s5.gg q4
    -- what stands behind the branch
    have after : ∀ (s' : WS) (pr' : V) (q' : Rat) (pa' : V) (c4 : Option V) (b1 b2 : Bool) (G9 H9 : Hp), s'.left.length < s.left.length → s'.d.p = s.d.p → WkI mu G H s' G9 H9 → s'.n = x.n → TRt q' pr' G9 → RO (700 * (s'.n - s'.left.length) + 1) q' → ofR q' * detJ s'.v s'.left = detJ x.m (List.range x.n) →
        decide (hi = .non) = b1 → decide (pa' = .non) = b2 →
        tSeq (tAsg (tOp rAddI (tVar 2) (tCB rInt1 (tCons (tOrV (tOp rNotNn (tVar 5) (tC .non)) (tOp rNotNn (tVar 7) (tC .non))) tNil))) (gName 2)) (tAsg (tOp rAddI (tVar 3) (tCB rInt1 (tCons (tOp rIsN (tVar 5) (tC .non)) tNil))) (gName 3))
          { D with nx := fun σ' H' => ∃ m', m' < s.left.length ∧ ∃ (s : WS) (ab be : Int) (pr : V) (q : Rat) (c1 c2 c3 c4 : Option V) (G' : Hp), m' = s.left.length ∧ σ' = [some v, some (.ref s.d.p), some (.int ab), some (.int be), some pr, c1, c2, c3, c4] ∧ WkI mu G H s G' H' ∧ s.n = x.n ∧ TRt q pr G' ∧ RO (700 * (s.n - s.left.length) + 1) q ∧ ofR q * detJ s.v s.left = detJ x.m (List.range x.n),
                   ct := fun σ' H' => ∃ m', m' < s.left.length ∧ ∃ (s : WS) (ab be : Int) (pr : V) (q : Rat) (c1 c2 c3 c4 : Option V) (G' : Hp), m' = s.left.length ∧ σ' = [some v, some (.ref s.d.p), some (.int ab), some (.int be), some pr, c1, c2, c3, c4] ∧ WkI mu G H s G' H' ∧ s.n = x.n ∧ TRt q pr G' ∧ RO (700 * (s.n - s.left.length) + 1) q ∧ ofR q * detJ s.v s.left = detJ x.m (List.range x.n),
                   bk := tRet (tTup (tCons (tVar 2) (tCons (tCB (rLenN K) (tCons (tFld K (tVar 1) "own_left") tNil)) (tCons (tVar 3) (tCons (tVar 4) tNil))))) D } [some v, some (.ref s.d.p), some (.int ab), some (.int be), some pr', some hi, some lo, some pa', c4] H9 := by
      intro s' pr' q' pa' c4 b1 b2 G9 H9 hl hp I9 en9 hq9 hro9 hd9 hb1 hb2
      refine sasg I9.at_ (evp_add (evp_is rfl) (evp_intB (evp_or (evp_notN0 (b := b1) (evp_is (v := hi) rfl) fun v G1 _ p => by rw [show v = _ from p]; exact hb1) fun _ => evp_notN0 (b := b2) (evp_is (v := pa') rfl) fun v G1 _ p => by rw [show v = _ from p]; exact hb2))) fun x1 G10 H10 s10 p10 => ?_
      cases p10
      have I10 := I9.ev s10
      refine sasg I10.at_ (evp_add (evp_is rfl) (evp_intB (evp_isN0 (b := b1) (evp_is (v := hi) rfl) fun v G1 _ p => by rw [show v = _ from p]; exact hb1))) fun x2 G11 H11 s11 p11 => ?_
      cases p11
      refine ⟨_, hl, s', (ab + if (!b1 || !b2) = true then 1 else 0), (be + if b1 = true then 1 else 0), pr', q', some hi, some lo, some pa', c4, G11, rfl, ?_, I10.ev s11, en9, Mono.mono (s10.gg.trans s11.gg) hq9, hro9, hd9⟩
      rw [hp]; rfl
    dsimp only
    refine sifb (D := _) (b := (fw s 1).isNone && (fw s (-1)).isNone) I5.at_ (evt_and (evt_test (evp_isN0 (evp_var (P := TO (fw s 1)) rfl p1) fun v G1 _ p => to_non _ p)) fun _ => evt_test (evp_isN0 (evp_var (P := TO (fw s (-1))) rfl p2) fun v G1 _ p => to_non _ p)) (fun hb1 G6 H6 s6 => ?_) fun hb1 G6 H6 s6 => ?_
    · -- two places
      simp only [Bool.and_eq_true] at hb1
      have hpos : fw s 1 = none := Option.isNone_iff_eq_none.mp hb1.1
      have hneg : fw s (-1) = none := Option.isNone_iff_eq_none.mp hb1.2
      have h0 : ∀ a, a ∈ s.left → (s.v a a).re = 0 := fun a ha => by
        have h1 := fw_none hpos ha
        have h2 := fw_none hneg ha
        rw [← sg_zero (s.v a a).re]
        have hr : sg (s.v a a).re = 1 ∨ sg (s.v a a).re = -1 ∨ sg (s.v a a).re = 0 := by
          unfold sg
          by_cases h1 : 0 < (s.v a a).re.num <;> by_cases h2 : (s.v a a).re.num < 0 <;> simp [h1, h2] <;> omega
        rcases hr with z | z | z
        · exact absurd z h1
        · exact absurd z h2
        · exact z
      have I6 := I5.ev s6
      have q6 := Mono.mono s6.gg q5
      have hiN : hi = .non := by rw [hpos] at p1; exact p1
      refine sasg I6.at_ (P := TOP (fb s)) (evp_fb I6.w (evp_is rfl)) fun pv G7 H7 s7 p7 => ?_
      have I7 := I6.ev s7
      have q7 := Mono.mono s7.gg q6
      dsimp only
      refine sifb (D := _) (b := (fb s).isNone) I7.at_ (evt_test (evp_isN0 (evp_var (P := TOP (fb s)) rfl p7) fun v G1 _ p => top_non _ p)) (fun hb2 G8 H8 s8 => ?_) fun hb2 G8 H8 s8 => ?_
      · have hbs : fb s = none := Option.isNone_iff_eq_none.mp hb2
        have I8 := I7.ev s8
        refine finish G8 H8 (some hi) (some lo) (some pv) c4 I8 (((s4.gg.trans s5.gg).trans s6.gg).trans (s7.gg.trans s8.gg)) (fun _ => trivial) fun hl => ?_
        exact detJ_nought l4 (fun z => hl (by rw [z]; rfl)) fun i hi j hj => fb_none hbs hi hj (h0 i hi)
      · cases hbs : fb s with
        | none => rw [hbs] at hb2; cases hb2
        | some ab =>
          obtain ⟨a, b⟩ := ab
          obtain ⟨am, bm', za, nb⟩ := fb_some hbs
          have hne : a ≠ b := fun z => by
            rw [← z, I.w.k.her.zero am za] at nb; exact nb rfl
          have I8 := I7.ev s8
          have q8 := Mono.mono s8.gg q7
          rw [hbs] at p7
          have p8 : TPr (TZ (a : Int)) (TZ (b : Int)) pv G8 := Mono.mono s8.gg p7
          have an := I.w.k.lt am
          have bn' := I.w.k.lt bm'
          have l2 := two_len am bm' hne
          have zs := I.w.szv2 l2 an bn'
          have n1 := zs.nsq (k := 195) (by decide)
          have nn : RO 1 (((-1 : Int) : Rat)) := ⟨by show (-1 : Int).natAbs < 2 ^ 1; decide, by show (1 : Nat) < 2 ^ 1; decide⟩
          have hlen := wo2_len I.w.k.nd am bm' hne
          have hn := I.w.k.len
          have hn4 := I.w.n4
          have r1 : RO (700 * (s.n - s.left.length) + 196) (q * Gn.nsq (s.v a b)) := hro.mul n1 (by omega)
          have r2 : RO (700 * (s.n - (wo2 s.left a b).length) + 1) (q * Gn.nsq (s.v a b) * ((-1 : Int) : Rat)) := r1.mul nn (by omega)
          dsimp only [tNext, tSeq]
          refine sasg I8.at_ (P := TRt (q * Gn.nsq (s.v a b) * ((-1 : Int) : Rat))) ?_ fun pr2 G9 H9 s9 p9 => ?_
          · exact evp_rmul (evp_rmul (evp_var rfl q8) (evp_size (evp_at (evp_wvi I8.w.f.v (evp_wv T (evp_is rfl)) (evp_ix0 (A := TZ (a : Int)) (B := TZ (b : Int)) (evp_var rfl p8) evp_c) an) (evp_ix1 (A := TZ (a : Int)) (B := TZ (b : Int)) (evp_var rfl p8) evp_c) bn') zs.ok) (hro.mono (by omega)) (n1.mono (by decide))) (evp_mkRi evp_neg1) (r1.mono (by omega)) (nn.mono (by decide))
          · have I9 := I8.ev s9
            dsimp only
            refine stake2 (pr := pv) I9 am bm' hne nb rfl rfl (Mono.mono s9.gg p8) fun d' G10 H10 I10 sd e10 => ?_
            refine after ⟨d', s.n, tw s.v s.left a b, s.w, wo2 s.left a b⟩ pr2 _ pv c4 true false G10 H10 (by show (wo2 s.left a b).length < s.left.length; omega) sd.1 I10 en (Mono.mono e10 p9) r2 ?_ (by rw [hiN]; rfl) (by obtain ⟨ad, x1, y1, ev, _⟩ := p8; rw [ev]; rfl)
            have e1 : ofR (((-1 : Int)) : Rat) = -1 := by
              apply ext'
              · show (((-1 : Int)) : Rat) = -(1 : Rat); rfl
              · show (0 : Rat) = -(0 : Rat); decide
            show ofR (q * Gn.nsq (s.v a b) * ((-1 : Int) : Rat)) * detJ (tw s.v s.left a b) (wo2 s.left a b) = _
            rw [← hdet, det_tw I.w.k.nd l4 I.w.k.her am bm' hne (I.w.k.her.zero am (h0 a am)) (I.w.k.her.zero bm' (h0 b bm')) nb, ofR_mul, ofR_mul, e1, ← mul_conj, ← I.w.k.her a am b bm']
            grind
    · -- one place
      have I6 := I5.ev s6
      have q6 := Mono.mono s6.gg q5
      have hplace : ∃ p, p ∈ s.left ∧ s.v p p ≠ 0 ∧ ((fw s 1 = some p) ∨ (fw s 1 = none ∧ fw s (-1) = some p)) := by
        cases h1 : fw s 1 with
        | some p =>
          obtain ⟨pm, psg⟩ := fw_some h1
          exact ⟨p, pm, pos_ne ((sg_pos _).mp psg), .inl rfl⟩
        | none =>
          cases h2 : fw s (-1) with
          | some p =>
            obtain ⟨pm, psg⟩ := fw_some h2
            exact ⟨p, pm, neg_ne ((sg_neg _).mp psg), .inr ⟨rfl, rfl⟩⟩
          | none => rw [h1, h2] at hb1; cases hb1
      obtain ⟨p, pm, p0, hp⟩ := hplace
      have pn := I.w.k.lt pm
      dsimp only
      refine sasg I6.at_ (P := TZ (p : Int)) ?_ fun pl G7 H7 s7 p7 => ?_
      · rcases hp with hp | ⟨hp, hp2⟩
        · rw [hp] at p1
          have p1 : hi = .int (p : Int) := p1
          exact evp_if (A := (· = false)) (evt_test (evp_isN0 (evp_is (v := hi) rfl) fun v G1 _ q => by rw [show v = _ from q, p1]; rfl)) (fun z => nomatch z) fun _ => evp_var rfl p1
        · rw [hp] at p1
          have p1 : hi = .non := p1
          rw [hp2] at p2
          have p2 : lo = .int (p : Int) := p2
          exact evp_if (A := (· = true)) (evt_test (evp_isN0 (evp_is (v := hi) rfl) fun v G1 _ q => by rw [show v = _ from q, p1]; rfl)) (fun _ => evp_var rfl p2) fun z => nomatch z
      · cases p7
        have I7 := I6.ev s7
        have q7 := Mono.mono s7.gg q6
        have hlen := wo_len I.w.k.nd pm
        have hn := I.w.k.len
        have hn4 := I.w.n4
        have hl1 : 1 ≤ s.left.length := by omega
        have vs' : Sz 295 (s.v p p) := (I.w.k.bv.sz pn pn).mono (kx3 (by omega))
        have r2 : RO (700 * (s.n - (wo s.left p).length) + 1) (q * (s.v p p).re) := hro.mul vs'.re (by omega)
        dsimp only
        refine sasg I7.at_ (P := TRt (q * (s.v p p).re)) ?_ fun pr2 G8 H8 s8 p8 => ?_
        · exact evp_rmul (evp_var rfl q7) (evp_mid I7.w (evp_is rfl) (evp_is rfl) pn) (hro.mono (by omega)) (vs'.re.mono (by decide))
        · have I8 := I7.ev s8
          dsimp only
          refine stake (i := 1) (k := 8) I8 pm p0 rfl rfl fun d' G9 H9 I9 sd r9 => ?_
          refine after ⟨d', s.n, tk s.v s.v s.left p, tk s.w s.v s.left p, wo s.left p⟩ pr2 _ .non (some (.int (p : Int))) _ true G9 H9 (by show (wo s.left p).length < s.left.length; omega) sd.1 I9 en (Mono.mono r9.gg p8) r2 ?_ rfl rfl
          show ofR (q * (s.v p p).re) * detJ (tk s.v s.v s.left p) (wo s.left p) = _
          rw [← hdet, det_tk I.w.k.nd l4 pm p0, ofR_mul, ← real_of (I.w.k.her.im pm)]
          grind
  · have I4 := I.ev s4
    have hnil : s.left.length = 0 := by cases q : s.left with
      | nil => rfl
      | cons _ _ => rw [q] at hb; cases hb
    exact finish G4 H4 c1 c2 c3 c4 I4 s4.gg (fun _ => trivial) (fun h => absurd hnil h)
end N640

set_option Elab.async false
set_option linter.all false
set_option maxRecDepth 100000
set_option maxHeartbeats 4000000
namespace N640
open PySem PySem.Spec PyProof.Rows L2 Gn
variable {K : PySem.W.Frag} {mu : Mu} {G H G0 H0 G' H' : Hp} {σ : L2.St} {ta tb tc : TE} {D : Ends} {d : WD} {s : WS}
abbrev S_walked : Sp := spP (pR A_sq T4)
abbrev B_det (x : NM) : Prd := TRt (detJ x.m (List.range x.n)).re
theorem sasg4 {te : TE} {x : NM} (a : At mu G H) (h : EvP mu te σ G (T4 x)) (k : ∀ (x1 x3 w : V) (L : Nat) (q : Rat) (G' H' : Hp), Stp mu G H G' H' → TRt q w G' → (L = 0 → q = (detJ x.m (List.range x.n)).re) → (L ≠ 0 → (detJ x.m (List.range x.n)).re = 0) → D.nx ((((σ.set 1 (some x1)).set 2 (some (.int (L : Int)))).set 3 (some x3)).set 4 (some w)) H') :
    tAsg te (gTup K 4 (gCons (gName 1) (gCons (gName 2) (gCons (gName 3) (gCons (gName 4) gNil))))) D σ H :=
  h G H Ex.rfl' a _ fun v G' H' s ⟨p, x1, x3, w, L, q, e, g, h1, h2, h3⟩ => ⟨p, _, e, sqt_at (a.stp s) g, rfl, x1, _, rfl, _, _, rfl, x3, _, rfl, w, _, rfl, rfl, k x1 x3 w L q G' H' s h1 h2 h3⟩
theorem m_det : SemP (t_determinant K S_walked S_want S_ratio) n_determinant A_tabS B_det := by
  intro mu x vs G H hA ⟨v, e, hv, o⟩ D k
  subst e
  refine sasg4 (x := x) hA (evp_c1 (x := x) (A := A_sq) (B := T4) (evp_want (x := x) (evp_var (P := TTab x.n x.m) rfl hv) o.ok) fun v G1 _ p => ⟨v, rfl, p, o⟩) fun x1 x3 w L q G1 H1 s1 p1 h1 h2 => ?_
  have a1 := hA.stp s1
  dsimp only
  refine sret (P := B_det x) a1 ?_ fun v G2 H2 s2 p => k v G2 H2 (s1.trans s2) p
  by_cases hL : L = 0
  · have e1 := h1 hL
    rw [e1] at p1
    exact evp_if (A := (· = true)) (evt_to (evt_test (evp_eqI (evp_is rfl) evp_c)) (by simp [hL])) (fun _ => evp_var rfl p1) fun z => nomatch z
  · have e1 := h2 hL
    show EvP mu _ _ G1 (TRt (detJ x.m (List.range x.n)).re)
    rw [e1]
    exact evp_if (A := (· = false)) (evt_to (evt_test (evp_eqI (evp_is rfl) evp_c)) (by simp; omega)) (fun z => nomatch z) fun _ => evp_mkRi (i := 0) evp_c
end N640

set_option Elab.async false
set_option linter.all false
set_option maxRecDepth 100000
set_option maxHeartbeats 4000000
/-! The law's numbers. -/
namespace N640
open PySem PySem.Spec PyProof.Rows L2 Gn
variable {K : PySem.W.Frag} {mu : Mu} {G H G0 H0 G' H' : Hp} {σ : L2.St} {ta tb tc : TE} {D : Ends}
theorem m_Lgcd : SemP (t_L_gcd K) n_L_gcd A_gcd B_gcd := by
  intro mu ⟨a, b⟩ vs G H hA e D k
  have e : vs = [.int a, .int b] := e
  subst e
  refine spar hA (evp_abs (evp_is (v := .int a) rfl)) (evp_abs (evp_is (v := .int b) rfl)) fun x y G1 H1 s1 p1 p2 => ?_
  cases p1; cases p2
  dsimp only [tSeq]
  refine swhile (fun m σ H' => ∃ (u w : Nat) (G' : Hp), m = w ∧ σ = [some (.int (u : Int)), some (.int (w : Int))] ∧ Stp mu G H G' H' ∧ Nat.gcd u w = Nat.gcd a.natAbs b.natAbs) ⟨_, a.natAbs, b.natAbs, G1, rfl, rfl, s1, rfl⟩ ?_
  rintro m σ H' ⟨u, w, G', rfl, es, st, hg⟩
  subst es
  refine ⟨mu, G', decide ((0 : Int) < (m : Int)), hA.stp st, evt_test (evp_gt (evp_is rfl) evp_c), fun hb G2 H2 s2 => ?_, fun hb G2 H2 s2 => ?_⟩
  · have hm : (0 : Int) < (m : Int) := of_decide_eq_true hb
    refine spar ((hA.stp st).stp s2) (evp_is (v := .int (m : Int)) rfl) (evp_mod (evp_intI (evp_is (v := .int (u : Int)) rfl)) (evp_is (v := .int (m : Int)) rfl) hm) fun x y G3 H3 s3 p1 p2 => ?_
    cases p1; cases p2
    refine ⟨u % m, Nat.mod_lt _ (by omega), m, u % m, G3, rfl, ?_, (st.trans s2).trans s3, ?_⟩
    · show [some (V.int (m : Int)), some (V.int ((u : Int) % (m : Int)))] = _
      rw [Int.natCast_emod]
    · rw [← hg, Nat.gcd_comm u m, Nat.gcd_rec m u, Nat.gcd_comm]
  · have hm : ¬ ((0 : Int) < (m : Int)) := of_decide_eq_false hb
    have m0 : m = 0 := by omega
    subst m0
    dsimp only
    refine sret (D := D) (P := B_gcd (a, b)) ((hA.stp st).stp s2) ?_ fun v G3 H3 s3 p => k v G3 H3 ((st.trans s2).trans s3) p
    have : u = Nat.gcd a.natAbs b.natAbs := by rw [← hg, Nat.gcd_zero_right]
    show EvP mu _ _ G2 (TZ ((Nat.gcd a.natAbs b.natAbs : Nat) : Int))
    rw [← this]
    exact evp_is rfl
abbrev S_low : Sp := spP (pR A_byp B_num)
theorem m_Llow : SemP (t_L_low K S_gcd) n_L_low A_byp B_num := by
  intro mu z vs G H hA ⟨a, b, c, e, c0, cz, ez⟩ D k
  subst e
  have gpos : 0 < gc3 a b c := gc3_pos (by omega)
  have gle : ((gc3 a b c : Nat) : Int).natAbs < 2 ^ 8900 := by
    refine Nat.lt_of_le_of_lt ?_ cz
    rw [Int.natAbs_natCast]
    exact Nat.le_trans (Nat.gcd_le_left _ (Nat.gcd_pos_of_pos_right _ (by omega))) (Nat.gcd_le_right _ (by omega))
  have g0 : ((gc3 a b c : Nat) : Int) ≠ 0 := by omega
  refine sasg hA (P := TZ (gc3 a b c : Nat)) ?_ fun x G1 H1 s1 p1 => ?_
  · refine evp_c2 (x := (((Nat.gcd a.natAbs c.natAbs : Nat) : Int), b)) (A := A_gcd) (B := B_gcd) (evp_c2 (x := (a, c)) (A := A_gcd) (B := B_gcd) (evp_is (v := .int a) rfl) (evp_is (v := .int c) rfl) fun v u G1 _ p1 p2 => by rw [p1, p2]; rfl) (evp_is (v := .int b) rfl) fun v u G1 _ p1 p2 => ?_
    rw [show v = _ from p1, show u = _ from p2]; rfl
  · cases p1
    have a1 := hA.stp s1
    dsimp only
    refine sasg a1 (P := TZ (gc3 a b c : Nat)) (evp_if (A := (· = true)) (evt_to (evt_test (evp_gt (evp_is rfl) evp_c)) (decide_eq_true c0)) (fun _ => evp_is rfl) fun z => nomatch z) fun x G2 H2 s2 p2 => ?_
    cases p2
    obtain ⟨f1, f2, f3⟩ := g_red c0 ez
    have fd : ∀ x : Int, x.fdiv ((gc3 a b c : Nat) : Int) = x / ((gc3 a b c : Nat) : Int) := fun x => Int.fdiv_eq_ediv_of_nonneg x (by omega)
    refine sret (a1.stp s2) (evp_tup3 (evp_divS (b := 8900) (evp_is rfl) (evp_is rfl) g0 gle) (evp_divS (b := 8900) (evp_is rfl) (evp_is rfl) g0 gle) (evp_divS (b := 8900) (evp_is rfl) (evp_is rfl) g0 gle)) fun v G3 H3 s3 p => k v G3 H3 ((s1.trans s2).trans s3) ?_
    rw [fd, fd, fd, f1, f2, f3] at p
    exact p
theorem evp_low {z : Gn} {a b c : Int} (ha : EvP mu ta σ G (TZ a)) (hb : EvP mu tb σ G (TZ b)) (hc : EvP mu tc σ G (TZ c)) (c0 : 0 < c) (cz : c.natAbs < 2 ^ 8900) (ez : val a b c = z) : EvP mu (tCall S_low [] E0 (tCons ta (tCons tb (tCons tc tNil)))) σ G (TNum z) :=
  evp_c3 (x := z) (A := A_byp) (B := B_num) ha hb hc fun v u w G1 _ p q r => ⟨a, b, c, by rw [show v = _ from p, show u = _ from q, show w = _ from r], c0, cz, ez⟩
/-! the three parts of a number -/
theorem evp_n0 {z : Gn} (h : EvP mu ta σ G (TNum z)) : EvP mu (tOp (rIxT K) ta (tC (.int 0))) σ G (TZ (gp z)) := evp_jx0 h evp_c
theorem evp_n1 {z : Gn} (h : EvP mu ta σ G (TNum z)) : EvP mu (tOp (rIxT K) ta (tC (.int 1))) σ G (TZ (gs z)) := evp_jx1 h evp_c
theorem evp_n2 {z : Gn} (h : EvP mu ta σ G (TNum z)) : EvP mu (tOp (rIxT K) ta (tC (.int 2))) σ G (TZ (gl z)) := evp_jx2 h evp_c
def A_nn (x : TP) (vs : List V) (G : Hp) : Prop := ∃ v u, vs = [v, u] ∧ TNum x.z v G ∧ TNum x.w u G ∧ Ok x.z ∧ Ok x.w
abbrev B_nadd (x : TP) : Prd := TNum (x.z + x.w)
abbrev B_nmul (x : TP) : Prd := TNum (x.z * x.w)
abbrev B_nsub (x : TP) : Prd := TNum (x.z - x.w)
abbrev B_ninv (x : TP) : Prd := TNum (x.z * inv x.w)
theorem m_Lplus : SemP (t_L_plus K S_low) n_L_plus A_nn B_nadd := by
  intro mu ⟨z, w⟩ vs G H hA ⟨v, u, e, hv, hu, ⟨a1, a2, a3⟩, b1, b2, b3⟩ D k
  subst e
  have V0 : EvP mu (tVar 0) (start n_L_plus [v, u]) G (TNum z) := evp_var rfl hv
  have V1 : EvP mu (tVar 1) (start n_L_plus [v, u]) G (TNum w) := evp_var rfl hu
  refine sret hA (evp_low (z := z + w) (evp_add (evp_mul (evp_n0 V0) (evp_n2 V1) a1 b3) (evp_mul (evp_n0 V1) (evp_n2 V0) b1 a3)) (evp_add (evp_mul (evp_n1 V0) (evp_n2 V1) a2 b3) (evp_mul (evp_n1 V1) (evp_n2 V0) b2 a3)) (evp_mul (evp_n2 V0) (evp_n2 V1) a3 b3) (Int.mul_pos (gl_pos z) (gl_pos w)) (bm a3 b3 (by decide)) ?_) k
  rw [← val_add (gl_ne z) (gl_ne w), val_g, val_g]
theorem m_Lby : SemP (t_L_by K S_low) n_L_by A_nn B_nmul := by
  intro mu ⟨z, w⟩ vs G H hA ⟨v, u, e, hv, hu, ⟨a1, a2, a3⟩, b1, b2, b3⟩ D k
  subst e
  have V0 : EvP mu (tVar 0) (start n_L_by [v, u]) G (TNum z) := evp_var rfl hv
  have V1 : EvP mu (tVar 1) (start n_L_by [v, u]) G (TNum w) := evp_var rfl hu
  refine sret hA (evp_low (z := z * w) (evp_sub (evp_mul (evp_n0 V0) (evp_n0 V1) a1 b1) (evp_mul (evp_n1 V0) (evp_n1 V1) a2 b2)) (evp_add (evp_mul (evp_n0 V0) (evp_n1 V1) a1 b2) (evp_mul (evp_n1 V0) (evp_n0 V1) a2 b1)) (evp_mul (evp_n2 V0) (evp_n2 V1) a3 b3) (Int.mul_pos (gl_pos z) (gl_pos w)) (bm a3 b3 (by decide)) ?_) k
  rw [← val_mul (gl_ne z) (gl_ne w), val_g, val_g]
abbrev S_nadd : Sp := spP (pR A_nn B_nadd)
abbrev S_nmul : Sp := spP (pR A_nn B_nmul)
abbrev S_nsub : Sp := spP (pR A_nn B_nsub)
theorem evp_nadd {z w : Gn} (ha : EvP mu ta σ G (TNum z)) (hb : EvP mu tb σ G (TNum w)) (o1 : Ok z) (o2 : Ok w) : EvP mu (tCall S_nadd [] E0 (tCons ta (tCons tb tNil))) σ G (TNum (z + w)) :=
  evp_c2 (x := (⟨z, w⟩ : TP)) (A := A_nn) (B := B_nadd) ha hb fun v u G1 _ p q => ⟨v, u, rfl, p, q, o1, o2⟩
theorem evp_nmul {z w : Gn} (ha : EvP mu ta σ G (TNum z)) (hb : EvP mu tb σ G (TNum w)) (o1 : Ok z) (o2 : Ok w) : EvP mu (tCall S_nmul [] E0 (tCons ta (tCons tb tNil))) σ G (TNum (z * w)) :=
  evp_c2 (x := (⟨z, w⟩ : TP)) (A := A_nn) (B := B_nmul) ha hb fun v u G1 _ p q => ⟨v, u, rfl, p, q, o1, o2⟩
theorem evp_nsub {z w : Gn} (ha : EvP mu ta σ G (TNum z)) (hb : EvP mu tb σ G (TNum w)) (o1 : Ok z) (o2 : Ok w) : EvP mu (tCall S_nsub [] E0 (tCons ta (tCons tb tNil))) σ G (TNum (z - w)) :=
  evp_c2 (x := (⟨z, w⟩ : TP)) (A := A_nn) (B := B_nsub) ha hb fun v u G1 _ p q => ⟨v, u, rfl, p, q, o1, o2⟩
theorem evp_num3 {z : Gn} {a b c : Int} (ha : EvP mu ta σ G (TZ a)) (hb : EvP mu tb σ G (TZ b)) (hc : EvP mu tc σ G (TZ c)) (e1 : a = gp z) (e2 : b = gs z) (e3 : c = gl z) : EvP mu (tTup (tCons ta (tCons tb (tCons tc tNil)))) σ G (TNum z) := by
  subst e1 e2 e3
  exact evp_tup3 ha hb hc
theorem m_Lless : SemP (t_L_less K S_nadd) n_L_less A_nn B_nsub := by
  intro mu ⟨z, w⟩ vs G H hA ⟨v, u, e, hv, hu, oz, ow⟩ D k
  subst e
  have V1 : EvP mu (tVar 1) (start n_L_less [v, u]) G (TNum w) := evp_var rfl hu
  obtain ⟨f1, f2, f3⟩ := g_neg w
  refine sret hA (P := TNum (z - w)) ?_ k
  have : z - w = z + -w := by grind
  rw [this]
  exact evp_nadd (evp_var rfl hv) (evp_num3 (evp_sub evp_c (evp_n0 V1)) (evp_sub evp_c (evp_n1 V1)) (evp_n2 V1) (by rw [f1]; omega) (by rw [f2]; omega) f3.symm) oz ow.neg
def A_n (z : Gn) (vs : List V) (G : Hp) : Prop := ∃ v, vs = [v] ∧ TNum z v G
abbrev B_nconj (z : Gn) : Prd := TNum (conj z)
theorem m_Lmirror : SemP (t_L_mirror K) n_L_mirror A_n B_nconj := by
  intro mu z vs G H hA ⟨v, e, hv⟩ D k
  subst e
  have V0 : EvP mu (tVar 0) (start n_L_mirror [v]) G (TNum z) := evp_var rfl hv
  obtain ⟨f1, f2, f3⟩ := g_conj z
  exact sret hA (evp_num3 (evp_n0 V0) (evp_sub evp_c (evp_n1 V0)) (evp_n2 V0) f1.symm (by rw [f2]; omega) f3.symm) k
abbrev S_nconj : Sp := spP (pR A_n B_nconj)
theorem evp_nconj {z : Gn} (h : EvP mu ta σ G (TNum z)) : EvP mu (tCall S_nconj [] E0 (tCons ta tNil)) σ G (TNum (conj z)) :=
  evp_c1 (x := z) (A := A_n) (B := B_nconj) h fun v G1 _ p => ⟨v, rfl, p⟩
theorem inv_val {w : Gn} (w0 : w ≠ 0) : val (gp w * gl w) (0 - gs w * gl w) (gp w * gp w + gs w * gs w) = inv w := by
  have h := val_div (a := 1) (b := 0) (c := 1) (by decide) (gl_ne w) (sq_ne w0)
  rw [val_g] at h
  have e1 : val 1 0 1 = 1 := by
    apply ext'
    · show ((1 : Int) : Rat) / ((1 : Int) : Rat) = 1
      rw [show ((1 : Int) : Rat) = 1 from rfl]; grind
    · show ((0 : Int) : Rat) / ((1 : Int) : Rat) = 0
      rw [show ((0 : Int) : Rat) = 0 from rfl]; grind
  rw [e1] at h
  have e2 : (1 : Gn) * inv w = inv w := by grind
  rw [e2] at h
  rw [h]
  congr 1 <;> grind
theorem Sz.inv {n k : Nat} {w : Gn} (h : Sz n w) (w0 : w ≠ 0) (e : 2 * n + 1 ≤ k) : Sz k (Gn.inv w) :=
  Sz.of (sq_pos w0) (inv_val w0) (bm h.1 h.2.2 (by omega)) (b0 (bm h.2.1 h.2.2 (by omega))) (ba (bm h.1 h.1 (Nat.le_refl _)) (bm h.2.1 h.2.1 (Nat.le_refl _)) (by omega) (by omega))
def A_nover (x : TP) (vs : List V) (G : Hp) : Prop := ∃ v u, vs = [v, u] ∧ TNum x.z v G ∧ TNum x.w u G ∧ Ok x.z ∧ Sz 2100 x.w ∧ x.w ≠ 0
theorem m_Lover : SemP (t_L_over K S_nmul S_low) n_L_over A_nover B_ninv := by
  intro mu ⟨z, w⟩ vs G H hA ⟨v, u, e, hv, hu, oz, ow, w0⟩ D k
  subst e
  have w0 : w ≠ 0 := w0
  have V1 : EvP mu (tVar 1) (start n_L_over [v, u]) G (TNum w) := evp_var rfl hu
  have ow' : Sz 2100 w := ow
  have oi : Ok (inv w) := ow'.inv w0 (by decide)
  obtain ⟨b1, b2, b3⟩ := ow'
  refine sret hA (evp_nmul (evp_var rfl hv) (evp_low (z := inv w) (evp_mul (evp_n0 V1) (evp_n2 V1) b1 b3) (evp_sub evp_c (evp_mul (evp_n1 V1) (evp_n2 V1) b2 b3)) (evp_add (evp_mul (evp_n0 V1) (evp_n0 V1) b1 b1) (evp_mul (evp_n1 V1) (evp_n1 V1) b2 b2)) (sq_pos w0) (bn (ba (bm b1 b1 (Nat.le_refl _)) (bm b2 b2 (Nat.le_refl _)) (Nat.le_refl _) (Nat.le_refl _)) (by decide)) (inv_val w0)) oz oi) k
abbrev S_nover : Sp := spP (pR A_nover B_ninv)
theorem evp_nover {z w : Gn} (ha : EvP mu ta σ G (TNum z)) (hb : EvP mu tb σ G (TNum w)) (o1 : Ok z) (o2 : Sz 2100 w) (w0 : w ≠ 0) : EvP mu (tCall S_nover [] E0 (tCons ta (tCons tb tNil))) σ G (TNum (z * inv w)) :=
  evp_c2 (x := (⟨z, w⟩ : TP)) (A := A_nover) (B := B_ninv) ha hb fun v u G1 _ p q => ⟨v, u, rfl, p, q, o1, o2, w0⟩
theorem evp_n0z : EvP mu (tTup (tCons (tC (.int 0)) (tCons (tC (.int 0)) (tCons (tC (.int 1)) tNil)))) σ G (TNum 0) := evp_num3 evp_c evp_c evp_c gp_zero.symm gs_zero.symm gl_zero.symm
structure LS where
  xs : List Nat
  f : Nat → Gn
def A_lsum (x : LS) (vs : List V) (G : Hp) : Prop := ∃ v, vs = [v] ∧ Lof (fun i => TNum (x.f i)) x.xs v G ∧ (∀ i, i ∈ x.xs → Ok (x.f i)) ∧ ∀ k, k ≤ x.xs.length → Ok (sm (x.xs.take k) x.f)
abbrev B_lsum (x : LS) : Prd := TNum (sm x.xs x.f)
theorem m_Lsum : SemP (t_L_sum K S_nadd) n_L_sum A_lsum B_lsum := by
  intro mu x vs G H hA ⟨v, e, hv, o1, o2⟩ D k
  subst e
  refine sasg hA evp_n0z fun f0 G1 H1 s1 p1 => ?_
  have a1 := hA.stp s1
  have hv1 := Mono.mono s1.gg hv
  refine sforP a1 (evi_list (evp_var rfl hv1)) (fun i σ' G' => ∃ f a, σ' = [some v, some f, a] ∧ TNum (sm (x.xs.take i) x.f) f G') (fun i σ G G' e ⟨f, a, es, p⟩ => ⟨f, a, es, Mono.mono e p⟩) ⟨f0, none, rfl, p1⟩ (fun Gs Hs s0 i y w σ1 G2 H2 hy s2 ⟨f, a, es, p⟩ pw => ?_) fun σ1 G2 H2 s2 ⟨f, a, es, p⟩ => ?_
  · subst es
    have a2 := (a1.stp s0).stp s2
    have hi : i < x.xs.length := (List.getElem?_eq_some_iff.mp hy).1
    refine sasg (D := _) (σ := [some v, some f, some w]) (i := 1) a2 (evp_nadd (evp_var rfl p) (evp_var rfl pw) (o2 i (Nat.le_of_lt hi)) (o1 y (List.mem_of_getElem? hy))) fun f' G3 H3 s3 p3 => ⟨G3, s2.trans s3, f', some w, rfl, ?_⟩
    rw [take_succ_get hy, sm_append]
    have e0 : sm [y] x.f = x.f y := by show x.f y + 0 = _; grind
    rw [e0]; exact p3
  · subst es
    rw [List.take_length] at p
    exact sret (a1.stp s2) (evp_var rfl p) fun v G3 H3 s3 q => k v G3 H3 ((s1.trans s2).trans s3) q
def A_nO (z : Gn) (vs : List V) (G : Hp) : Prop := ∃ v, vs = [v] ∧ TNum z v G ∧ Ok z
theorem m_Ltwin : SemP (t_L_twin K S_mkTwin S_ratio) n_L_twin A_nO fun z => TTw z := by
  intro mu z vs G H hA ⟨v, e, hv, o1, o2, o3⟩ D k
  subst e
  have V0 : EvP mu (tVar 0) (start n_L_twin [v]) G (TNum z) := evp_var rfl hv
  refine sret hA (P := TTw z) (evp_mk (x := z) (eva_2 (P1 := TRt z.re) (P2 := TRt z.im) (evp_mkR (evp_n0 V0) (evp_n2 V0) (gl_ne z) (bn o3 (by decide)) (re_g z)) (evp_mkR (evp_n1 V0) (evp_n2 V0) (gl_ne z) (bn o3 (by decide)) (im_g z))) fun vs G1 _ ⟨a, b, ev, p, q⟩ => ?_) k
  exact ⟨a, b, by rw [ev]; rfl, .inr ⟨z.re, z.im, .inl p, .inl q, ro_of (gl_ne z) (re_g z) o1 o3, ro_of (gl_ne z) (im_g z) o2 o3, rfl⟩⟩
end N640

set_option Elab.async false
set_option linter.all false
set_option maxRecDepth 100000
set_option maxHeartbeats 4000000
/-! Slices; the law's part and choices. -/
namespace N640
open PySem PySem.Spec PyProof.Rows L2 Gn
variable {K : PySem.W.Frag} {mu : Mu} {G H G0 H0 G' H' : Hp} {σ : L2.St} {ta tb tc : TE} {D : Ends} {α : Type}
theorem Vof.drop {P : α → Prd} {xs : List α} {vs : List V} (h : Vof P xs vs G) (k : Nat) : Vof P (xs.drop k) (vs.drop k) G :=
  ⟨by simp [h.1], fun i v x a b => by
    rw [List.getElem?_drop] at a b
    exact h.2 _ v x a b⟩
theorem Vof.take {P : α → Prd} {xs : List α} {vs : List V} (h : Vof P xs vs G) (k : Nat) : Vof P (xs.take k) (vs.take k) G :=
  ⟨by simp [h.1], fun i v x a b => by
    rw [List.getElem?_take] at a b
    split at a
    · rename_i hk
      rw [if_pos hk] at b
      exact h.2 _ v x a b
    · cases a⟩
theorem cut_from (vs : List V) (k : Nat) : cutV vs (some (k : Int)) none = vs.drop k := by
  unfold cutV
  rw [HT.sIx_nat, HT.sIx_none]
  rcases Nat.le_total k vs.length with h | h
  · rw [Nat.min_eq_left h]; exact List.take_of_length_le (by simp)
  · rw [Nat.min_eq_right h, List.drop_eq_nil_of_le h]; simp
theorem cut_upto (vs : List V) (k : Nat) : cutV vs none (some (k : Int)) = vs.take k := by
  unfold cutV
  rw [HT.sIx_nat, HT.sIx_none]
  simp only [List.drop_zero, Nat.sub_zero]
  rcases Nat.le_total k vs.length with h | h
  · rw [Nat.min_eq_left h]
  · rw [Nat.min_eq_right h, List.take_of_length_le (Nat.le_refl _), List.take_of_length_le h]
theorem evp_from {P : α → Prd} [m : ∀ x, Mono (P x)] {xs : List α} {k : Nat} (h : EvP mu ta σ G (Lof P xs)) (hb : EvP mu tb σ G (TZ (k : Int))) : EvP mu (tSl (rSlL K) ta (tPart tb) tNoPart) σ G (Lof P (xs.drop k)) := fun G1 H1 e a Q q =>
  h G1 H1 e a _ fun v G2 H2 s2 p => hb G2 H2 (e.trans s2.gg) (a.stp s2) _ fun u G3 H3 s3 pu => by
    have p3 := Mono.mono s3.gg p
    obtain ⟨x, vs, ev, g, f⟩ := p3
    have a3 := (a.stp s2).stp s3
    refine ⟨k, pu, x, vs, ev, sql_at a3 g, fun l hl => ?_⟩
    rw [cut_from]
    exact q _ _ _ ((s2.trans s3).trans (a3.new (.lst (vs.drop k)) hl)) ⟨l, _, rfl, upd_same, (f.drop k).mono (a3.new (.lst (vs.drop k)) hl).gg⟩
theorem evp_upto {P : α → Prd} [m : ∀ x, Mono (P x)] {xs : List α} {k : Nat} (h : EvP mu ta σ G (Lof P xs)) (hb : EvP mu tb σ G (TZ (k : Int))) : EvP mu (tSl (rSlL K) ta tNoPart (tPart tb)) σ G (Lof P (xs.take k)) := fun G1 H1 e a Q q =>
  h G1 H1 e a _ fun v G2 H2 s2 p => hb G2 H2 (e.trans s2.gg) (a.stp s2) _ fun u G3 H3 s3 pu => by
    have p3 := Mono.mono s3.gg p
    obtain ⟨x, vs, ev, g, f⟩ := p3
    have a3 := (a.stp s2).stp s3
    refine ⟨k, pu, x, vs, ev, sql_at a3 g, fun l hl => ?_⟩
    rw [cut_upto]
    exact q _ _ _ ((s2.trans s3).trans (a3.new (.lst (vs.take k)) hl)) ⟨l, _, rfl, upd_same, (f.take k).mono (a3.new (.lst (vs.take k)) hl).gg⟩
/-! rows of the law's numbers -/
abbrev TNRow (n : Nat) (f : Nat → Gn) : Prd := Lof (fun j => TNum (f j)) (List.range n)
abbrev TNx (n : Nat) (M : Mx) : Prd := Lof (fun i => TNRow n (M i)) (List.range n)
theorem evp_nat {n : Nat} {f : Nat → Gn} {i : Nat} (h : EvP mu ta σ G (TNRow n f)) (hb : EvP mu tb σ G (TZ (i : Int))) (hi : i < n) : EvP mu (tOp (rIxL K) ta tb) σ G (TNum (f i)) :=
  evp_ixL (P := fun j => TNum (f j)) (x := i) h hb (by simp [hi])
theorem evp_nrow {n : Nat} {m : Mx} {i : Nat} (h : EvP mu ta σ G (TNx n m)) (hb : EvP mu tb σ G (TZ (i : Int))) (hi : i < n) : EvP mu (tOp (rIxL K) ta tb) σ G (TNRow n (m i)) :=
  evp_ixL (P := fun i => TNRow n (m i)) (x := i) h hb (by simp [hi])
def A_npart (x : PK') (vs : List V) (G : Hp) : Prop := ∃ v a, vs = [v, a] ∧ TNx x.n x.m v G ∧ TPos x.I a G ∧ x.ok
abbrev B_npart (x : PK') : Prd := TNx x.I.length (pk x.m x.I)
theorem m_Lpart : SemP (t_L_part K) n_L_part A_npart B_npart := by
  intro mu x vs G H hA ⟨v, a, e, hv, ha, o⟩ D k
  subst e
  have hl : x.I.length ≤ 1000 := by have := o.l8; omega
  refine sret hA (P := Lof (fun i => Lof (fun j => TNum (x.m i j)) x.I) x.I) (evp_lcN (evi_list (evp_var (P := TPos x.I) rfl ha)) hl (fun _ => rfl) fun i hi w G1 e1 p G2 e2 => evp_lcN (evi_list (evp_var (P := TPos x.I) rfl (Mono.mono (e1.trans e2) ha))) hl (fun _ => rfl) fun j hj u G3 e3 q G4 e4 => ?_) fun v G1 H1 s1 p => k v G1 H1 s1 ?_
  · cases p; cases q
    exact evp_nat (evp_nrow (evp_var (P := TNx x.n x.m) rfl (Mono.mono (((e1.trans e2).trans e3).trans e4) hv)) (evp_is rfl) (o.lt i hi)) (evp_is rfl) (o.lt j hj)
  · have q := p.reidx 0
    exact q.imp fun i _ v h => h.reidx 0
/-! choices -/
def chs : Nat → List (List Nat)
  | 0 => [[]]
  | n + 1 => chs n ++ (chs n).map (· ++ [n])
theorem chs_len : ∀ n, (chs n).length = 2 ^ n
  | 0 => rfl
  | n + 1 => by simp [chs, chs_len n, Nat.pow_succ]; omega
theorem chs_lt : ∀ {n : Nat} {I : List Nat}, I ∈ chs n → I.length ≤ n ∧ (∀ i, i ∈ I → i < n) ∧ I.Pairwise (· < ·)
  | 0, I, h => by
    have : I = [] := by simpa [chs] using h
    subst this; simp
  | n + 1, I, h => by
    rcases List.mem_append.mp h with h | h
    · obtain ⟨a, b, c⟩ := chs_lt h
      exact ⟨by omega, fun i hi => Nat.lt_succ_of_lt (b i hi), c⟩
    · obtain ⟨J, hJ, rfl⟩ := List.mem_map.mp h
      obtain ⟨a, b, c⟩ := chs_lt hJ
      refine ⟨by simp; omega, fun i hi => ?_, ?_⟩
      · rcases List.mem_append.mp hi with hi | hi
        · exact Nat.lt_succ_of_lt (b i hi)
        · have : i = n := by simpa using hi
          omega
      · refine List.pairwise_append.mpr ⟨c, by simp, fun x hx y hy => ?_⟩
        have : y = n := by simpa using hy
        have := b x hx
        omega
theorem chs_cons : ∀ n, ∃ t, chs n = [] :: t ∧ ∀ I, I ∈ t → I ≠ []
  | 0 => ⟨[], rfl, fun I h => nomatch h⟩
  | n + 1 => by
    obtain ⟨t, e, h⟩ := chs_cons n
    refine ⟨t ++ (chs n).map (· ++ [n]), by simp [chs, e], fun I hI => ?_⟩
    rcases List.mem_append.mp hI with hI | hI
    · exact h I hI
    · obtain ⟨J, _, rfl⟩ := List.mem_map.mp hI
      simp
def A_ch (n : Nat) (vs : List V) (G : Hp) : Prop := vs = [.int (n : Int)] ∧ n ≤ 4
abbrev B_ch (n : Nat) : Prd := Lof TPos ((chs n).drop 1)
theorem m_Lchoices : SemP (t_L_choices K) n_L_choices A_ch B_ch := by
  intro mu n vs G H hA ⟨e, hn⟩ D k
  subst e
  refine sasg (P := Lof TPos (chs 0)) hA (evp_lst1 (P := TPos) (x := []) evp_nil) fun f0 G1 H1 s1 p1 => ?_
  have a1 := hA.stp s1
  dsimp only [tSeq]
  refine sforP a1 (evi_rng (n := n) (eva_1 (evp_is (v := .int (n : Int)) rfl) |>.imp fun vs G1 _ ⟨v, e, p⟩ => by rw [e, show v = _ from p]) (by omega)) (fun i σ' G' => ∃ f a b, σ' = [some (.int (n : Int)), some f, a, b] ∧ Lof TPos (chs i) f G') (fun i σ G G' e ⟨f, a, b, es, p⟩ => ⟨f, a, b, es, Mono.mono e p⟩) ⟨f0, none, none, rfl, p1⟩ (fun Gs Hs s0 i y w σ1 G2 H2 hy s2 ⟨f, a, b, es, p⟩ pw => ?_) fun σ1 G2 H2 s2 ⟨f, a, b, es, p⟩ => ?_
  · subst es
    obtain ⟨rfl, hi⟩ := range_get hy
    have pw : w = .int (y : Int) := pw
    subst pw
    have a2 := (a1.stp s0).stp s2
    have l1 : (chs y).length ≤ 16 := by
      rw [chs_len]
      exact Nat.pow_le_pow_right (by omega) (show y ≤ 4 by omega)
    refine sasg (D := _) (σ := [some (.int (n : Int)), some f, some (.int (y : Int)), b]) (i := 1) (P := Lof TPos (chs (y + 1))) a2 ?_ fun f' G3 H3 s3 p3 => ⟨G3, s2.trans s3, f', _, _, rfl, p3⟩
    refine evp_cat (evp_var rfl p) ?_ (by simp; omega)
    have := evp_lcN (mu := mu) (σ := [some (.int (n : Int)), some f, some (.int (y : Int)), b]) (j := 3) (vs := [3]) (te := tOp rCat (tVar 3) (tLst (tCons (tVar 2) tNil))) (P := fun I => TPos (I ++ [y])) (evi_list (K := K) (evp_var (i := 1) rfl p)) (by omega) (fun _ => rfl) fun I hI v G3 e3 pv G4 e4 => evp_cat (evp_var rfl (Mono.mono e4 pv)) (evp_lst1 (P := fun i : Nat => TZ (i : Int)) (evp_is rfl)) (by have := (chs_lt hI).1; simp; omega)
    exact this.imp fun v G5 _ ⟨x, us, e, g, f⟩ => ⟨x, us, e, g, by simpa using f.1, fun i v I h1 h2 => by
      rw [List.getElem?_map] at h2
      cases hc : (chs y)[i]? with
      | none => rw [hc] at h2; cases h2
      | some J => rw [hc] at h2; cases h2; exact f.2 i v J h1 hc⟩
  · subst es
    rw [show (List.range n).length = n by simp] at p
    exact sret (a1.stp s2) (evp_from (k := 1) (evp_var rfl p) evp_c) fun v G3 H3 s3 q => k v G3 H3 ((s1.trans s2).trans s3) q
end N640

set_option Elab.async false
set_option linter.all false
set_option maxRecDepth 100000
set_option maxHeartbeats 4000000
/-! Lists that grow before they are told; the law's left. -/
namespace N640
open PySem PySem.Spec PyProof.Rows L2 Gn
variable {K : PySem.W.Frag} {mu : Mu} {G H G0 H0 G' H' : Hp} {σ : L2.St} {ta tb tc te : TE} {D : Ends} {α : Type} {P : Prd}
structure Hd (mu : Mu) (H0 : Hp) (f : Addr) (vs : List V) (G H : Hp) : Prop where
  h0 : H0 f = none
  g : G f = none
  nm : ¬ mu.mt f
  h : H f = some (.lst vs)
theorem Hd.rel {f : Addr} {vs : List V} (h : Hd mu H0 f vs G H) (s : Stp mu G H G' H') : Hd mu H0 f vs G' H' :=
  ⟨h.h0, (s.fr f (by rw [h.h]; intro z; cases z)).trans h.g, h.nm, s.hh f _ h.nm h.h⟩
theorem shid {i : Nat} (a : At mu G H) (k : ∀ f H', Stp mu G H G H' → Hd mu H f [] G H' → At mu G H' → D.nx (σ.set i (some (.ref f))) H') : tAsg (tLst tNil) (gName i) D σ H :=
  ⟨Nat.zero_le _, fun f hf => k f _ (a.hid (.lst []) hf) ⟨hf, a.gnone hf, a.fresh hf, upd_same⟩ (a.stp (a.hid (.lst []) hf))⟩
theorem sapp {f : Addr} {i : Nat} {vs : List V} (a : At mu G0 H0) (s : Stp mu G0 H0 G H) (hd : Hd mu H0 f vs G H) (hs : σ[i]? = some (some (.ref f))) (h : EvP mu te σ G P) (hl : vs.length < 1000)
    (k : ∀ v G' H', Stp mu G0 H0 G' H' → Hd mu H0 f (vs ++ [v]) G' H' → P v G' → Ex G G' → D.nx σ H') : tDrop (tBM K "list" rAppend (tVar i) (tCons te tNil)) D σ H := by
  refine ⟨.ref f, hs, .inl ⟨rfl, vs, SqL.of hd.h⟩, ?_⟩
  refine h G H Ex.rfl' (a.stp s) _ fun y G1 H1 s1 p => ?_
  have hd1 := hd.rel s1
  refine ⟨f, vs, y, rfl, rfl, hd1.h, small1000 (Nat.le_of_lt hl), ?_⟩
  exact k y G1 _ ((s.trans s1).put _ hd.h0 hd1.g hd.nm) ⟨hd.h0, hd1.g, hd.nm, upd_same⟩ p s1.gg
theorem Hd.tell {f : Addr} {vs : List V} (hd : Hd mu H0 f vs G H) (a : At mu G0 H0) (s : Stp mu G0 H0 G H) : Stp mu G0 H0 (upd G f (.lst vs)) H ∧ Ex G (upd G f (.lst vs)) :=
  ⟨s.show_ a.ex hd.h0 hd.h, Ex.new hd.g⟩
structure LL where
  n : Nat
  m : Mx
  p : Nat
  q : Option Nat
def LL.r (x : LL) : Mx := match x.q with
  | none => fun i j => x.m i j - x.m i x.p * x.m x.p j * inv (x.m x.p x.p)
  | some q => fun i j => x.m i j - (x.m i x.p * x.m q j * inv (x.m q x.p) + x.m i q * x.m x.p j * inv (x.m x.p q))
def LL.qv (x : LL) : V := match x.q with
  | none => .non
  | some q => .int (q : Int)
structure LL.ok (x : LL) : Prop where
  n8 : x.n ≤ 8
  pn : x.p < x.n
  sz : ∀ i, i < x.n → ∀ j, j < x.n → Sz 500 (x.m i j)
  z0 : x.q = none → x.m x.p x.p ≠ 0
  qn : ∀ q, x.q = some q → q < x.n ∧ x.m q x.p ≠ 0 ∧ x.m x.p q ≠ 0
def A_left (x : LL) (vs : List V) (G : Hp) : Prop := ∃ v, vs = [v, .int (x.p : Int), x.qv] ∧ TNx x.n x.m v G ∧ x.ok
abbrev B_left (x : LL) : Prd := TNx x.n x.r
theorem evp_nover' {z w : Gn} (ha : EvP mu ta σ G (TNum z)) (hb : EvP mu tb σ G (TNum w)) (o1 : Sz 1001 z) (o2 : Sz 500 w) (w0 : w ≠ 0) : EvP mu (tCall S_nover [] E0 (tCons ta (tCons tb tNil))) σ G (TNum (z * inv w)) :=
  evp_nover ha hb (o1.mono (by decide)) (o2.mono (by decide)) w0
theorem m_Lleft : SemP (t_L_left K S_nover S_nmul S_nadd S_nsub) n_L_left A_left B_left := by
  intro mu x vs G H hA ⟨v, e, hv, o⟩ D k
  subst e
  have n8 := o.n8
  have hlen : EvP mu (tCB (rLenN K) (tCons (tVar 0) tNil)) (start n_L_left [v, .int (x.p : Int), x.qv]) G (TZ (x.n : Int)) := evp_to (evp_len (P := fun i => TNRow x.n (x.m i)) (evp_var (P := Sof (fun i => TNRow x.n (x.m i)) (List.range x.n)) rfl (.inl hv))) (by simp)
  unfold t_L_left
  dsimp only [tSeq]
  refine sparE ?_
  refine evp_rg hlen (by omega) G H Ex.rfl' hA _ fun sv G1 H1 s1 p1 => ?_
  have a1 := hA.stp s1
  refine ⟨Nat.zero_le _, fun f hf => ⟨sv, .ref f, rfl, ?_⟩⟩
  have s2 := a1.hid (.lst []) hf
  have hd2 : Hd mu H1 f [] G1 (L2.upd H1 f (.lst [])) := ⟨hf, a1.gnone hf, a1.fresh hf, upd_same⟩
  have hv1 := Mono.mono s1.gg hv
  dsimp only [tSeq]
  refine sfor (xs := List.range x.n) (PI := fun i : Nat => TZ (i : Int)) (a1.stp s2) (by exact evi_list (evp_var (P := TPos (List.range x.n)) rfl p1)) fun Gs Hs s3 => ⟨fun i σ' G' H' => ∃ (acc : List V) (c5 c6 c7 c8 : Option V), σ' = [some v, some (.int (x.p : Int)), some x.qv, some sv, some (.ref f), c5, c6, c7, c8] ∧ Stp mu G1 H1 G' H' ∧ Hd mu H1 f acc G' H' ∧ Vof (fun i => TNRow x.n (x.r i)) ((List.range x.n).take i) acc G',
    ⟨[], none, none, none, none, rfl, s2.trans s3, hd2.rel s3, Vof.nil⟩, fun i y w σ1 G4 H4 G5 H5 hy e4 a4 ⟨acc, c5, c6, c7, c8, es, s4, hd4, f4⟩ s5 pw => ?_, fun σ1 G4 H4 e4 a4 ⟨acc, c5, c6, c7, c8, es, s4, hd4, f4⟩ => ?_⟩
  · subst es
    obtain ⟨rfl, hi⟩ := range_get hy
    have pw : w = .int (y : Int) := pw
    subst pw
    have a5 := a4.stp s5
    have s45 := s4.trans s5
    have hd5 := hd4.rel s5
    have f5 := f4.mono s5.gg
    have hv5 := Mono.mono s45.gg hv1
    have p5 := Mono.mono s45.gg p1
    dsimp only [tSeq]
    refine shid (σ := [some v, some (.int (x.p : Int)), some x.qv, some sv, some (.ref f), some (.int (y : Int)), c6, c7, c8]) (i := 6) a5 fun g H6 s6 hg6 a6 => ?_
    dsimp only [tSeq]
    refine sfor (xs := List.range x.n) (PI := fun i : Nat => TZ (i : Int)) (a5.stp s6) (by exact evi_list (evp_var (P := TPos (List.range x.n)) (i := 3) rfl p5)) fun Gt Ht s7 => ⟨fun j σ' G' H' => ∃ (acc2 : List V) (c7 c8 : Option V), σ' = [some v, some (.int (x.p : Int)), some x.qv, some sv, some (.ref f), some (.int (y : Int)), some (.ref g), c7, c8] ∧ Stp mu G5 H5 G' H' ∧ Hd mu H5 g acc2 G' H' ∧ Vof (fun j => TNum (x.r y j)) ((List.range x.n).take j) acc2 G',
      ⟨[], c7, c8, rfl, s6.trans s7, hg6.rel s7, Vof.nil⟩, fun j y2 w σ2 G8 H8 G9 H9 hy2 e8 a8 ⟨acc2, c7, c8, es, s8, hd8, f8⟩ s9 pw => ?_, fun σ2 G8 H8 e8 a8 ⟨acc2, c7, c8, es, s8, hd8, f8⟩ => ?_⟩
    · subst es
      obtain ⟨rfl, hj⟩ := range_get hy2
      have pw : w = .int (y2 : Int) := pw
      subst pw
      have a9 := a8.stp s9
      have s89 := s8.trans s9
      have hd9 := hd8.rel s9
      have f9 := f8.mono s9.gg
      have hv9 := Mono.mono s89.gg hv5
      have row : ∀ {a b : Nat} {ta tb : TE} {σ : L2.St} {G7 : Hp}, Ex G9 G7 → σ[0]? = some (some v) → EvP mu ta σ G7 (TZ (a : Int)) → EvP mu tb σ G7 (TZ (b : Int)) → a < x.n → b < x.n → EvP mu (tOp (rIxL K) (tOp (rIxL K) (tVar 0) ta) tb) σ G7 (TNum (x.m a b)) := fun e hs h1 h2 ha hb => evp_nat (evp_nrow (evp_var (P := TNx x.n x.m) hs (Mono.mono e hv9)) h1 ha) h2 hb
      have o5 : ∀ {a b : Nat}, a < x.n → b < x.n → Sz 500 (x.m a b) := fun ha hb => o.sz _ ha _ hb
      have pn := o.pn
      have mm : ∀ {a b c d : Nat}, a < x.n → b < x.n → c < x.n → d < x.n → Sz 1001 (x.m a b * x.m c d) := fun h1 h2 h3 h4 => (o5 h1 h2).mul (o5 h3 h4) (by decide)
      have one : ∀ {a b c d r s : Nat} {ta tb tc td tr ts : TE} {σ : L2.St}, σ[0]? = some (some v) → EvP mu ta σ G9 (TZ (a : Int)) → EvP mu tb σ G9 (TZ (b : Int)) → EvP mu tc σ G9 (TZ (c : Int)) → EvP mu td σ G9 (TZ (d : Int)) → EvP mu tr σ G9 (TZ (r : Int)) → EvP mu ts σ G9 (TZ (s : Int)) → a < x.n → b < x.n → c < x.n → d < x.n → r < x.n → s < x.n → x.m r s ≠ 0 →
          EvP mu (tCall S_nover [] E0 (tCons (tCall S_nmul [] E0 (tCons (tOp (rIxL K) (tOp (rIxL K) (tVar 0) ta) tb) (tCons (tOp (rIxL K) (tOp (rIxL K) (tVar 0) tc) td) tNil))) (tCons (tOp (rIxL K) (tOp (rIxL K) (tVar 0) tr) ts) tNil))) σ G9 (TNum (x.m a b * x.m c d * inv (x.m r s))) := fun hs h1 h2 h3 h4 h5 h6 l1 l2 l3 l4 l5 l6 z => evp_nover' (evp_nmul (row Ex.rfl' hs h1 h2 l1 l2) (row Ex.rfl' hs h3 h4 l3 l4) ((o5 l1 l2).mono (by decide)) ((o5 l3 l4).mono (by decide))) (row Ex.rfl' hs h5 h6 l5 l6) (mm l1 l2 l3 l4) (o5 l5 l6) z
      have two : ∀ {a b c d r s : Nat}, a < x.n → b < x.n → c < x.n → d < x.n → r < x.n → s < x.n → x.m r s ≠ 0 → Sz 2002 (x.m a b * x.m c d * inv (x.m r s)) := fun l1 l2 l3 l4 l5 l6 z => (mm l1 l2 l3 l4).div (o5 l5 l6) z (by decide)
      have tail : ∀ (c : V) (tk : Gn) (Ga Ha : Hp) (D' : Ends), Stp mu G9 H9 Ga Ha → TNum tk c Ga → x.r y y2 = x.m y y2 - tk → Ok tk →
          (∀ (u : V) (G' H' : Hp), Ex Gt G' → At mu G' H' → Stp mu G5 H5 G' H' → Hd mu H5 g (acc2 ++ [u]) G' H' → Vof (fun j => TNum (x.r y j)) ((List.range x.n).take (y2 + 1)) (acc2 ++ [u]) G' → D'.nx [some v, some (.int (x.p : Int)), some x.qv, some sv, some (.ref f), some (.int (y : Int)), some (.ref g), some (.int (y2 : Int)), some c] H') →
          tDrop (tBM K "list" rAppend (tVar 6) (tCons (tCall S_nsub [] E0 (tCons (tOp (rIxL K) (tOp (rIxL K) (tVar 0) (tVar 5)) (tVar 7)) (tCons (tVar 8) tNil))) tNil)) D' [some v, some (.int (x.p : Int)), some x.qv, some sv, some (.ref f), some (.int (y : Int)), some (.ref g), some (.int (y2 : Int)), some c] Ha := by
        intro c tk Ga Ha D' sa pa er ok kk
        have sa0 := s89.trans sa
        refine sapp (P := TNum (x.r y y2)) a5 sa0 (hd9.rel sa) rfl ?_ (by rw [f9.1]; simp; omega) fun u Gb Hb sb hb pb eb => ?_
        · rw [er]
          exact evp_nsub (row sa.gg rfl (evp_is rfl) (evp_is rfl) hi hj) (evp_var rfl pa) ((o5 hi hj).mono (by decide)) ok
        · refine kk u Gb Hb (e8.trans (s9.gg.trans (sa.gg.trans eb))) (a5.stp sb) sb hb ?_
          rw [take_succ_get hy2]
          exact Vof.snoc (f9.mono (sa.gg.trans eb)) pb
      dsimp only [tSeq]
      cases hq : x.q with
      | none =>
        have z0 := o.z0 hq
        have eq : x.qv = .non := by unfold LL.qv; rw [hq]
        refine sift (D := _) a9 (evt_to (evt_test (evp_isN0 (P := TIs x.qv) (b := true) (evp_is rfl) fun v G1 _ p => by rw [show v = _ from p, eq]; rfl)) rfl) fun Ga Ha sa => ?_
        refine sasg (D := _) (a9.stp sa) ((one (σ := [some v, some (.int (x.p : Int)), some x.qv, some sv, some (.ref f), some (.int (y : Int)), some (.ref g), some (.int (y2 : Int)), c8]) rfl (evp_is rfl) (evp_is rfl) (evp_is rfl) (evp_is rfl) (evp_is rfl) (evp_is rfl) hi pn pn hj pn pn z0).mono sa.gg) fun c Gb Hb sb pb => ?_
        refine tail c _ Gb Hb _ (sa.trans sb) pb (by unfold LL.r; rw [hq]) ((two hi pn pn hj pn pn z0).mono (by decide)) fun u G' H' e1 a1 s1 h1 v1 => ⟨G', e1, a1, acc2 ++ [u], some (.int (y2 : Int)), some c, rfl, s1, h1, v1⟩
      | some q =>
        obtain ⟨qn, z1, z2⟩ := o.qn q hq
        have eq : x.qv = .int (q : Int) := by unfold LL.qv; rw [hq]
        refine siff (D := _) a9 (evt_to (evt_test (evp_isN0 (P := TIs x.qv) (b := false) (evp_is rfl) fun v G1 _ p => by rw [show v = _ from p, eq]; rfl)) rfl) fun Ga Ha sa => ?_
        have vq : EvP mu (tVar 2) [some v, some (.int (x.p : Int)), some x.qv, some sv, some (.ref f), some (.int (y : Int)), some (.ref g), some (.int (y2 : Int)), c8] G9 (TZ (q : Int)) := evp_is (by rw [eq]; rfl)
        have b1 := two hi pn qn hj qn pn z1
        have b2 := two hi qn pn hj pn qn z2
        refine sasg (D := _) (a9.stp sa) ((evp_nadd (one (σ := [some v, some (.int (x.p : Int)), some x.qv, some sv, some (.ref f), some (.int (y : Int)), some (.ref g), some (.int (y2 : Int)), c8]) rfl (evp_is rfl) (evp_is rfl) vq (evp_is rfl) vq (evp_is rfl) hi pn qn hj qn pn z1) (one rfl (evp_is rfl) vq (evp_is rfl) (evp_is rfl) (evp_is rfl) vq hi qn pn hj pn qn z2) (b1.mono (by decide)) (b2.mono (by decide))).mono sa.gg) fun c Gb Hb sb pb => ?_
        refine tail c _ Gb Hb _ (sa.trans sb) pb (by unfold LL.r; rw [hq]) (b1.add b2 (by decide)) fun u G' H' e1 a1 s1 h1 v1 => ⟨G', e1, a1, acc2 ++ [u], some (.int (y2 : Int)), some c, rfl, s1, h1, v1⟩
    · subst es
      rw [List.take_length] at f8
      obtain ⟨st, et⟩ := hd8.tell a5 s8
      have hdt := hd5.rel st
      refine sapp (P := TNRow x.n (x.r y)) a1 (s45.trans st) hdt rfl (evp_var (v := .ref g) rfl ⟨g, acc2, rfl, upd_same, f8.mono et⟩) (by rw [f5.1]; simp; omega) fun u Gb Hb sb hb pb eb => ⟨Gb, ?_, a1.stp sb, acc ++ [u], some (.int (y : Int)), some (.ref g), c7, c8, rfl, sb, hb, ?_⟩
      · exact e4.trans (s5.gg.trans (st.gg.trans eb))
      · rw [take_succ_get hy]
        exact Vof.snoc (f5.mono (st.gg.trans eb)) pb
  · subst es
    rw [List.take_length] at f4
    obtain ⟨st, et⟩ := hd4.tell a1 s4
    exact sret (a1.stp st) (evp_var (P := B_left x) (v := .ref f) rfl ⟨f, acc, rfl, upd_same, f4.mono et⟩) fun v G9 H9 s9 p9 => k v G9 H9 ((s1.trans st).trans s9) p9
end N640

set_option Elab.async false
set_option linter.all false
set_option maxRecDepth 100000
set_option maxHeartbeats 4000000
/-! Lists against []; the law's determinant. -/
namespace N640
open PySem PySem.Spec PyProof.Rows L2 Gn
variable {K : PySem.W.Frag} {mu : Mu} {G H G0 H0 G' H' : Hp} {σ : L2.St} {ta tb tc te : TE} {D : Ends} {α : Type} {P : α → Prd}
/-- a kind of value that `==` can take -/
def Tel (K : PySem.W.Frag) (k : Nat) (A : Prd) : Prop := ∀ (mu : Mu) (v : V) (G H : Hp), At mu G H → A v G → ∃ d, Dp K H v d ∧ Shp k d
theorem Shp.up {k l : Nat} {d : PyData} (h : Shp k d) (e : k ≤ l) : Shp l d := ⟨h.1, Nat.le_trans h.2 e⟩
theorem tel_int {i : Int} : Tel K 0 (TZ i) := fun mu v G H a p => ⟨.int i, by rw [show v = _ from p]; exact .int i, shp_int _ _⟩
theorem tel_tr {A B C : Prd} {k : Nat} (ha : Tel K k A) (hb : Tel K k B) (hc : Tel K k C) : Tel K (k + 1) (TTr A B C) := fun mu v G H a ⟨x, p, q, r, e, g, h1, h2, h3⟩ => by
  obtain ⟨d1, y1, z1⟩ := ha mu p G H a h1
  obtain ⟨d2, y2, z2⟩ := hb mu q G H a h2
  obtain ⟨d3, y3, z3⟩ := hc mu r G H a h3
  refine ⟨.tuple [d1, d2, d3], by rw [e]; exact .tup (sqt_at a g) (.cons y1 (.cons y2 (.cons y3 .nil))), Shp.tuple fun d hd => ?_⟩
  simp only [List.mem_cons, List.not_mem_nil, or_false] at hd
  rcases hd with rfl | rfl | rfl <;> assumption
theorem tel_pr {A B : Prd} {k : Nat} (ha : Tel K k A) (hb : Tel K k B) : Tel K (k + 1) (TPr A B) := fun mu v G H a ⟨x, p, q, e, g, h1, h2⟩ => by
  obtain ⟨d1, y1, z1⟩ := ha mu p G H a h1
  obtain ⟨d2, y2, z2⟩ := hb mu q G H a h2
  refine ⟨.tuple [d1, d2], by rw [e]; exact .tup (sqt_at a g) (.cons y1 (.cons y2 .nil)), Shp.tuple fun d hd => ?_⟩
  simp only [List.mem_cons, List.not_mem_nil, or_false] at hd
  rcases hd with rfl | rfl <;> assumption
theorem tel_all {k : Nat} (hp : ∀ x, Tel K k (P x)) (a : At mu G H) : ∀ {xs : List α} {vs : List V}, Vof P xs vs G → ∃ ds, DpAll K H vs ds ∧ ds.length = xs.length ∧ ∀ d, d ∈ ds → Shp k d
  | [], vs, h => by
    have : vs = [] := List.length_eq_zero_iff.mp h.1
    subst this
    exact ⟨[], .nil, rfl, fun d z => nomatch z⟩
  | x :: xs, [], h => by have := h.1; simp at this
  | x :: xs, v :: vs, h => by
    obtain ⟨ds, h1, h2, h3⟩ := tel_all hp a (xs := xs) (vs := vs) ⟨by have := h.1; simpa using this, fun i w y p q => h.2 (i + 1) w y (by simpa using p) (by simpa using q)⟩
    obtain ⟨d, y, z⟩ := hp x mu v G H a (h.2 0 v x rfl rfl)
    exact ⟨d :: ds, .cons y h1, by simp [h2], fun e he => (List.mem_cons.mp he).elim (fun q => q ▸ z) (h3 e)⟩
theorem tel_lof {k : Nat} (hp : ∀ x, Tel K k (P x)) (xs : List α) : Tel K (k + 1) (Lof P xs) := fun mu v G H a ⟨x, vs, e, g, f⟩ => by
  obtain ⟨ds, h1, h2, h3⟩ := tel_all hp a f
  exact ⟨.list ds, by rw [e]; exact .lst (sql_at a g) h1, Shp.list h3⟩
theorem tel_num (z : Gn) : Tel K 1 (TNum z) := tel_tr tel_int tel_int tel_int
theorem nil_op [∀ x, Mono (P x)] {k : Nat} (hp : ∀ x, Tel K k (P x)) (hk : k ≤ 60) {xs : List α} (h : EvP mu ta σ G (Lof P xs)) (b : Bool) {r : R2}
    (hr : ∀ x y H Q (d e : PyData), Dp K H x d → Dp K H y e → SeqAt.shaped d = true → SeqAt.shaped e = true → ∀ u : V, PyData.eqv d e = xs.isEmpty → (u = V.bl (if b then xs.isEmpty else !xs.isEmpty)) → Q u H → r x y H Q) : EvP mu (tOp r ta (tLst tNil)) σ G (TB (if b then xs.isEmpty else !xs.isEmpty)) :=
  evp_op h (evp_nil (P := P)) fun v w G1 _ ⟨a, vs, e1, g1, f1⟩ ⟨b', us, e2, g2, f2⟩ => by
    have eu : us = [] := List.length_eq_zero_iff.mp f2.1
    subst eu
    refine RvP.pure (v := .bl (if b then xs.isEmpty else !xs.isEmpty)) (fun Q H hA q => ?_) rfl
    obtain ⟨ds, h1, h2, h3⟩ := tel_all hp hA f1
    refine hr v w H Q (.list ds) (.list []) (by rw [e1]; exact .lst (sql_at hA g1) h1) (by rw [e2]; exact .lst (sql_at hA g2) .nil) ((Shp.list h3).ok (by omega)) rfl _ ?_ rfl q
    rw [eqv_nil]
    cases ds <;> cases xs <;> simp at h2 <;> rfl
theorem evp_eqNil [∀ x, Mono (P x)] {k : Nat} (hp : ∀ x, Tel K k (P x)) (hk : k ≤ 60) {xs : List α} (h : EvP mu ta σ G (Lof P xs)) : EvP mu (tOp (rEqD K) ta (tLst tNil)) σ G (TB xs.isEmpty) :=
  nil_op hp hk h true fun x y H Q d e h1 h2 h3 h4 u h5 h6 q => ⟨d, e, h1, h2, h3, h4, by rw [h5]; rw [h6] at q; exact q⟩
theorem evp_neNilG [∀ x, Mono (P x)] {k : Nat} (hp : ∀ x, Tel K k (P x)) (hk : k ≤ 60) {xs : List α} (h : EvP mu ta σ G (Lof P xs)) : EvP mu (tOp (rNeD K) ta (tLst tNil)) σ G (TB (!xs.isEmpty)) :=
  nil_op hp hk h false fun x y H Q d e h1 h2 h3 h4 u h5 h6 q => ⟨d, e, h1, h2, h3, h4, by rw [h5]; rw [h6] at q; exact q⟩
/-- a number against (0, 0, 1) -/
theorem evp_neZ {z : Gn} (h : EvP mu ta σ G (TNum z)) : EvP mu (tOp (rNeD K) ta (tTup (tCons (tC (.int 0)) (tCons (tC (.int 0)) (tCons (tC (.int 1)) tNil))))) σ G (TB (!@decide (z = 0) (Classical.propDecidable _))) :=
  evp_op h evp_n0z fun v w G1 _ ⟨a, x1, x2, x3, e1, g1, p1, p2, p3⟩ ⟨b, y1, y2, y3, e2, g2, q1, q2, q3⟩ => by
    refine RvP.pure (v := .bl (!@decide (z = 0) (Classical.propDecidable _))) (fun Q H hA q => ?_) rfl
    refine ⟨.tuple [.int (gp z), .int (gs z), .int (gl z)], .tuple [.int (gp 0), .int (gs 0), .int (gl 0)], ?_, ?_, rfl, rfl, ?_⟩
    · rw [e1]; exact .tup (sqt_at hA g1) (by rw [show x1 = _ from p1, show x2 = _ from p2, show x3 = _ from p3]; exact .cons (.int _) (.cons (.int _) (.cons (.int _) .nil)))
    · rw [e2]; exact .tup (sqt_at hA g2) (by rw [show y1 = _ from q1, show y2 = _ from q2, show y3 = _ from q3]; exact .cons (.int _) (.cons (.int _) (.cons (.int _) .nil)))
    · have : PyData.eqv (.tuple [.int (gp z), .int (gs z), .int (gl z)]) (.tuple [.int (gp 0), .int (gs 0), .int (gl 0)]) = @decide (z = 0) (Classical.propDecidable _) := by
        simp only [PyData.eqv, PyData.eqvAll, Bool.and_true]
        by_cases hz : z = 0
        · subst hz; simp
        · rw [show @decide (z = 0) (Classical.propDecidable _) = false by simp [hz]]
          rw [gp_zero, gs_zero, gl_zero]
          have := mt g_zero.mpr hz
          by_cases h1 : gp z = 0
          · have h2 : gs z ≠ 0 := fun h2 => this ⟨h1, h2⟩
            simp [h1, h2]
          · simp [h1]
      rw [this]; exact q
end N640

set_option Elab.async false
set_option linter.all false
set_option maxRecDepth 100000
set_option maxHeartbeats 4000000
/-! The law's determinant. -/
namespace N640
open PySem PySem.Spec PyProof.Rows L2 Gn
variable {K : PySem.W.Frag} {mu : Mu} {G H G0 H0 G' H' : Hp} {σ : L2.St} {ta tb tc te : TE} {D : Ends}
def dsz : Nat → Nat
  | 0 => 1
  | k + 1 => (k + 1) * (dsz k + 12) + 1
def mnr (m : Mx) (j : Nat) : Mx := fun a b => m (a + 1) (if b < j then b else b + 1)
theorem mnr_sz {k : Nat} {m : Mx} (h : ∀ i, i < k + 1 → ∀ j, j < k + 1 → Sz 9 (m i j)) {j : Nat} (hj : j < k + 1) : ∀ a, a < k → ∀ b, b < k → Sz 9 (mnr m j a b) := fun a ha b hb => by
  unfold mnr
  refine h _ (by omega) _ ?_
  split <;> omega
def dtm (m : Mx) (k j : Nat) : Gn := (if 2 * (j / 2) = j then 1 else -1) * (m 0 j * det k (mnr m j))
theorem det_succ (k : Nat) (m : Mx) : det (k + 1) m = sm (List.range (k + 1)) (dtm m k) := rfl
theorem term_sz {k : Nat} {m : Mx} (h : ∀ i, i < k + 1 → ∀ j, j < k + 1 → Sz 9 (m i j)) (hd : ∀ j, j < k + 1 → Sz (dsz k) (det k (mnr m j))) {j : Nat} (hj : j < k + 1) : Sz (dsz k + 10) (m 0 j * det k (mnr m j)) ∧ Sz (dsz k + 10) (dtm m k j) := by
  have p := (h 0 (by omega) j hj).mul (hd j hj) (k := dsz k + 10) (by omega)
  refine ⟨p, ?_⟩
  unfold dtm
  split
  · have e : (1 : Gn) * (m 0 j * det k (mnr m j)) = m 0 j * det k (mnr m j) := by grind
    rw [e]; exact p
  · have e : (-1 : Gn) * (m 0 j * det k (mnr m j)) = -(m 0 j * det k (mnr m j)) := by grind
    rw [e]; exact p.neg
theorem sums_sz {k : Nat} {m : Mx} (h : ∀ i, i < k + 1 → ∀ j, j < k + 1 → Sz 9 (m i j)) (hd : ∀ j, j < k + 1 → Sz (dsz k) (det k (mnr m j))) : ∀ t, t ≤ k + 1 → Sz (t * (dsz k + 12) + 1) (sm (List.range t) (dtm m k)) := by
  intro t
  induction t with
  | zero => intro _; simp only [List.range_zero, Nat.zero_mul, Nat.zero_add]; exact sz0
  | succ t ih =>
    intro ht
    rw [List.range_succ, sm_append]
    have e0 : sm [t] (dtm m k) = dtm m k t := by show dtm m k t + 0 = _; grind
    rw [e0]
    exact (ih (by omega)).add (term_sz h hd (by omega)).2 (by rw [Nat.add_mul]; omega)
theorem det_sz : ∀ (k : Nat) {m : Mx}, (∀ i, i < k → ∀ j, j < k → Sz 9 (m i j)) → Sz (dsz k) (det k m)
  | 0, m, h => sz1
  | k + 1, m, h => by
    rw [det_succ]
    exact sums_sz h (fun j hj => det_sz k (mnr_sz h hj)) (k + 1) (Nat.le_refl _)
def A_ldet (k : Nat) (x : NM) (vs : List V) (G : Hp) : Prop := ∃ v, vs = [v] ∧ TNx x.n x.m v G ∧ x.n = k ∧ k ≤ 4 ∧ ∀ i, i < x.n → ∀ j, j < x.n → Sz 9 (x.m i j)
abbrev B_ldet (x : NM) : Prd := TNum (det x.n x.m)
abbrev S_ldet (k : Nat) : Sp := spP (pR (A_ldet k) B_ldet)
theorem m_Ldet0 {S : Sp} : SemP (t_L_determinant K S S_nmul S_nadd) n_L_determinant (A_ldet 0) B_ldet := by
  intro mu x vs G H hA ⟨v, e, hv, hn, h4, hs⟩ D k
  subst e
  have e1 : det x.n x.m = 1 := by rw [hn]; rfl
  have em : (List.range x.n).isEmpty = true := by rw [hn]; rfl
  refine sift hA (evt_to (evt_test (evp_eqNil (fun i => tel_lof (fun j => tel_num (x.m i j)) (List.range x.n)) (by decide) (evp_var (P := TNx x.n x.m) rfl hv))) em) fun G1 H1 s1 => ?_
  refine sret (D := D) (P := B_ldet x) (hA.stp s1) ?_ fun v G2 H2 s2 p => k v G2 H2 (s1.trans s2) p
  show EvP mu _ _ G1 (TNum (det x.n x.m))
  rw [e1]
  obtain ⟨g1, g2, g3⟩ := g_int 1
  exact evp_num3 evp_c evp_c evp_c g1.symm g2.symm g3.symm
theorem d4 {k : Nat} (h : k + 1 ≤ 4) : dsz k ≤ 196 := by
  have : k = 0 ∨ k = 1 ∨ k = 2 ∨ k = 3 := by omega
  rcases this with rfl | rfl | rfl | rfl <;> decide
theorem getD_cut {n j b : Nat} (hj : j < n + 1) (hb : b < n) : ((List.range (n + 1)).take j ++ (List.range (n + 1)).drop (j + 1)).getD b 0 = if b < j then b else b + 1 := by
  rw [List.getD_eq_getElem?_getD]
  by_cases h : b < j
  · rw [if_pos h, List.getElem?_append_left (by simp; omega), List.getElem?_take, if_pos h, List.getElem?_range (by omega)]; rfl
  · rw [if_neg h, List.getElem?_append_right (by simp; omega), List.getElem?_drop, List.length_take, List.length_range, Nat.min_eq_left (by omega), List.getElem?_range (by omega)]
    show j + 1 + (b - j) = b + 1
    omega
theorem m_LdetS {k : Nat} : SemP (t_L_determinant K (S_ldet k) S_nmul S_nadd) n_L_determinant (A_ldet (k + 1)) B_ldet := by
  intro mu x vs G H hA ⟨v, e, hv, hn, h4, hs⟩ D kk
  subst e
  obtain ⟨n, m⟩ := x
  have hn : n = k + 1 := hn
  subst hn
  have hv : TNx (k + 1) m v G := hv
  have hs : ∀ i, i < k + 1 → ∀ j, j < k + 1 → Sz 9 (m i j) := hs
  have hd : ∀ j, j < k + 1 → Sz (dsz k) (det k (mnr m j)) := fun j hj => det_sz k (mnr_sz hs hj)
  have dk := d4 h4
  have em : (List.range (k + 1)).isEmpty = false := by simp [List.range_succ]
  refine siff hA (evt_to (evt_test (evp_eqNil (fun i => tel_lof (fun j => tel_num (m i j)) (List.range (k + 1))) (by decide) (evp_var (P := TNx (k + 1) m) rfl hv))) em) fun G1 H1 s1 => ?_
  have a1 := hA.stp s1
  dsimp only [tNext, tSeq]
  refine sasg a1 evp_n0z fun f0 G2 H2 s2 p2 => ?_
  have a2 := a1.stp s2
  have s12 := s1.trans s2
  have hv2 := Mono.mono s12.gg hv
  dsimp only [tSeq]
  have hlen : ∀ {σ : L2.St}, σ[0]? = some (some v) → EvP mu (tCB (rLenN K) (tCons (tVar 0) tNil)) σ G2 (TZ ((k + 1 : Nat) : Int)) := fun hs => evp_to (evp_len (P := fun i => TNRow (k + 1) (m i)) (evp_var (P := Sof (fun i => TNRow (k + 1) (m i)) (List.range (k + 1))) hs (.inl hv2))) (by simp)
  refine sforP a2 (evi_rng (n := k + 1) (by exact (eva_1 (hlen rfl)).imp fun vs G1 _ ⟨v, e, p⟩ => by rw [e, show v = _ from p]) (by omega)) (fun i σ' G' => ∃ f c2 c3 c4 c5, σ' = [some v, some f, c2, c3, c4, c5] ∧ TNum (sm (List.range i) (dtm m k)) f G') (fun i σ G G' e ⟨f, c2, c3, c4, c5, es, p⟩ => ⟨f, c2, c3, c4, c5, es, Mono.mono e p⟩) ⟨f0, none, none, none, none, rfl, p2⟩ (fun Gs Hs s3 i y w σ1 G4 H4 hy s4 ⟨f, c2, c3, c4, c5, es, p⟩ pw => ?_) fun σ1 G4 H4 s4 ⟨f, c2, c3, c4, c5, es, p⟩ => ?_
  · subst es
    obtain ⟨rfl, hi⟩ := range_get hy
    have pw : w = .int (y : Int) := pw
    subst pw
    have a4 := (a2.stp s3).stp s4
    have hv4 := Mono.mono (s3.gg.trans s4.gg) hv2
    dsimp only [tSeq]
    have V0 : ∀ {c3 c4 c5 : Option V} {G5 : Hp}, Ex G4 G5 → EvP mu (tVar 0) [some v, some f, some (.int (y : Int)), c3, c4, c5] G5 (TNx (k + 1) m) := fun e => evp_var rfl (Mono.mono e hv4)
    refine sasg (D := _) (σ := [some v, some f, some (.int (y : Int)), c3, c4, c5]) (i := 3) (P := TNum (det k (mnr m y))) a4 ?_ fun rs G5 H5 s5 p5 => ?_
    · refine evp_c1 (P1 := TNx k (mnr m y)) (x := (⟨k, mnr m y⟩ : NM)) (A := A_ldet k) (B := B_ldet) ?_ fun u G5 _ q => ⟨u, rfl, q, rfl, by omega, mnr_sz hs hi⟩
      have h := evp_lcN (mu := mu) (σ := [some v, some f, some (.int (y : Int)), c3, c4, c5]) (j := 5) (vs := [5]) (te := tOp rCat (tSl (rSlL K) (tVar 5) tNoPart (tPart (tVar 2))) (tSl (rSlL K) (tVar 5) (tPart (tOp rAddI (tVar 2) (tC (.int 1)))) tNoPart)) (P := fun i => Lof (fun c => TNum (m i c)) ((List.range (k + 1)).take y ++ (List.range (k + 1)).drop (y + 1))) (evi_list (K := K) (evp_from (K := K) (k := 1) (V0 Ex.rfl') evp_c)) (by simp; omega) (fun _ => rfl) fun I hI u G5 e5 pu G6 e6 => evp_cat (evp_upto (evp_var rfl (Mono.mono e6 pu)) (evp_is rfl)) (evp_from (k := y + 1) (evp_var rfl (Mono.mono e6 pu)) (evp_to (evp_add (evp_is (v := .int (y : Int)) rfl) evp_c) rfl)) (by simp; omega)
      refine h.imp fun u G6 _ q => ?_
      have q2 := q.reidx 0
      have el : ((List.range (k + 1)).drop 1).length = k := by simp
      rw [el] at q2
      refine q2.imp fun i hi2 u2 r => ?_
      have hi2 : i < k := by simpa using hi2
      have r2 := r.reidx 0
      have el2 : ((List.range (k + 1)).take y ++ (List.range (k + 1)).drop (y + 1)).length = k := by simp; omega
      rw [el2] at r2
      refine r2.imp fun b hb u3 t => ?_
      have hb : b < k := by simpa using hb
      rw [getD_cut hi hb] at t
      have eg : ((List.range (k + 1)).drop 1).getD i 0 = i + 1 := by
        rw [List.getD_eq_getElem?_getD, List.getElem?_drop, List.getElem?_range (by omega)]
        show 1 + i = i + 1
        omega
      rw [eg] at t
      exact t
    · have a5 := a4.stp s5
      dsimp only [tSeq]
      have b0 := (hs 0 (by omega) y hi)
      have b1 := hd y hi
      have tz := term_sz hs hd hi
      refine sasg (D := _) (i := 4) (P := TNum (m 0 y * det k (mnr m y))) a5 (evp_nmul (by exact evp_nat (evp_nrow (V0 s5.gg) (evp_c (v := .int 0)) (by omega)) (evp_is rfl) hi) (by exact evp_var rfl p5) (b0.mono (by decide)) (b1.mono (by omega))) fun on G6 H6 s6 p6 => ?_
      have a6 := a5.stp s6
      dsimp only
      refine sasg (D := _) (σ := [some v, some f, some (.int (y : Int)), some rs, some on, c5]) (i := 1) (P := TNum (sm (List.range (y + 1)) (dtm m k))) a6 ?_ fun f2 G7 H7 s7 p7 => ⟨G7, s4.trans (s5.trans (s6.trans s7)), f2, _, _, _, _, rfl, p7⟩
      rw [List.range_succ, sm_append]
      have e0 : sm [y] (dtm m k) = dtm m k y := by show dtm m k y + 0 = _; grind
      rw [e0]
      refine evp_nadd (evp_var rfl (Mono.mono (s5.gg.trans s6.gg) p)) ?_ ((sums_sz hs hd y (by omega)).mono ?_) (tz.2.mono (by omega))
      · have ev : EvP mu (tVar 4) [some v, some f, some (.int (y : Int)), some rs, some on, c5] G6 (TNum (m 0 y * det k (mnr m y))) := evp_var rfl p6
        refine evp_if (A := (· = decide (2 * (y / 2) = y))) (evt_to (evt_test (evp_eqI (evp_mul (a := 2) (b := 64) evp_c (evp_div (b := 2) (evp_is rfl) evp_c (by decide) (by decide)) (by decide) (by
          have : (y : Int) / 2 ≤ 4 := by omega
          have : 0 ≤ (y : Int) / 2 := by omega
          have : ((y : Int) / 2).natAbs ≤ 4 := by omega
          exact Nat.lt_of_le_of_lt this (by decide))) (evp_is rfl))) (by congr 1; simp only [eq_iff_iff]; omega)) (fun ht => ?_) fun hf => ?_
        · have ht : 2 * (y / 2) = y := of_decide_eq_true ht.symm
          have : dtm m k y = m 0 y * det k (mnr m y) := by unfold dtm; rw [if_pos ht]; grind
          rw [this]; exact ev
        · have hf : ¬ 2 * (y / 2) = y := of_decide_eq_false hf.symm
          have : dtm m k y = -(m 0 y * det k (mnr m y)) := by unfold dtm; rw [if_neg hf]; grind
          rw [this]
          obtain ⟨f1, f2, f3⟩ := g_neg (m 0 y * det k (mnr m y))
          exact evp_num3 (evp_sub evp_c (evp_n0 ev)) (evp_sub evp_c (evp_n1 ev)) (evp_n2 ev) (by rw [f1]; omega) (by rw [f2]; omega) f3.symm
      · have : y * (dsz k + 12) ≤ 4 * 208 := Nat.mul_le_mul (by omega) (by omega)
        omega
  · subst es
    rw [show (List.range (k + 1)).length = k + 1 by simp] at p
    exact sret (D := D) (P := B_ldet ⟨k + 1, m⟩) (a2.stp s4) (evp_var rfl (by exact p)) fun v G5 H5 s5 q => kk v G5 H5 ((s12.trans s4).trans s5) q
end N640

set_option Elab.async false
set_option linter.all false
set_option maxRecDepth 100000
set_option maxHeartbeats 4000000
/-! The law's steps: the table that is left, with noughts where a place was taken. -/
namespace N640
open PySem PySem.Spec PyProof.Rows L2 Gn
variable {K : PySem.W.Frag} {mu : Mu} {G H G0 H0 G' H' : Hp} {σ : L2.St} {ta tb tc te : TE} {D : Ends}
open Classical in
noncomputable def zr (V : Mx) (left : List Nat) : Mx := fun i j => if i ∈ left ∧ j ∈ left then V i j else 0
theorem zr_in {V : Mx} {left : List Nat} {i j : Nat} (hi : i ∈ left) (hj : j ∈ left) : zr V left i j = V i j := if_pos ⟨hi, hj⟩
theorem zr_out {V : Mx} {left : List Nat} {i j : Nat} (h : ¬ (i ∈ left ∧ j ∈ left)) : zr V left i j = 0 := if_neg h
theorem zr_ne {V : Mx} {left : List Nat} {i j : Nat} (h : zr V left i j ≠ 0) : i ∈ left ∧ j ∈ left ∧ V i j ≠ 0 := by
  by_cases c : i ∈ left ∧ j ∈ left
  · exact ⟨c.1, c.2, by rw [zr_in c.1 c.2] at h; exact h⟩
  · exact absurd (zr_out c) h
theorem zr_range {M : Mx} {n i j : Nat} (hi : i < n) (hj : j < n) : zr M (List.range n) i j = M i j := zr_in (by simpa using hi) (by simpa using hj)
theorem m0r (a b : Gn) : a * 0 * b = 0 := by grind
theorem m0l (a b : Gn) : 0 * a * b = 0 := by grind
theorem left_one {V : Mx} {left : List Nat} {n p i j : Nat} (hp : p ∈ left) (ne : V p p ≠ 0) : (LL.mk n (zr V left) p none).r i j = zr (tk V V left p) (wo left p) i j := by
  show zr V left i j - zr V left i p * zr V left p j * inv (zr V left p p) = _
  rw [zr_in hp hp]
  have im := mul_inv ne
  by_cases hi : i ∈ left
  · by_cases hj : j ∈ left
    · rw [zr_in hi hj, zr_in hi hp, zr_in hp hj]
      by_cases ip : i = p
      · subst ip
        rw [zr_out (fun z => (mem_wo.mp z.1).2 rfl)]
        have : V i j - V i i * V i j * inv (V i i) = V i j - V i j * (V i i * inv (V i i)) := by grind
        rw [this, im]; grind
      · by_cases jp : j = p
        · subst jp
          rw [zr_out (fun z => (mem_wo.mp z.2).2 rfl)]
          have : V i j - V i j * V j j * inv (V j j) = V i j - V i j * (V j j * inv (V j j)) := by grind
          rw [this, im]; grind
        · rw [zr_in (mem_wo.mpr ⟨hi, ip⟩) (mem_wo.mpr ⟨hj, jp⟩), tk_sch (mem_wo.mpr ⟨hi, ip⟩)]
          unfold N640.sch; grind
    · rw [zr_out (left := wo left p) (fun z => hj (mem_wo.mp z.2).1), zr_out (i := i) (fun z => hj z.2), zr_out (i := p) (j := j) (fun z => hj z.2), m0r]; grind
  · rw [zr_out (left := wo left p) (fun z => hi (mem_wo.mp z.1).1), zr_out (i := i) (j := j) (fun z => hi z.1), zr_out (i := i) (j := p) (fun z => hi z.1), m0l]; grind
theorem left_two {V : Mx} {left : List Nat} {n p q i j : Nat} (hp : p ∈ left) (hq : q ∈ left) (hne : p ≠ q) (zp : V p p = 0) (zq : V q q = 0) (ne : V p q ≠ 0) (ne' : V q p ≠ 0) : (LL.mk n (zr V left) p (some q)).r i j = zr (tw V left p q) (wo2 left p q) i j := by
  show zr V left i j - (zr V left i p * zr V left q j * inv (zr V left q p) + zr V left i q * zr V left p j * inv (zr V left p q)) = _
  rw [zr_in hq hp, zr_in hp hq]
  have im := mul_inv ne
  have im' := mul_inv ne'
  by_cases hi : i ∈ left
  · by_cases hj : j ∈ left
    · rw [zr_in hi hj, zr_in hi hp, zr_in hi hq, zr_in hp hj, zr_in hq hj]
      by_cases ip : i = p
      · subst ip
        rw [zr_out (left := wo2 left i q) (fun z => (mem_wo2.mp z.1).2.1 rfl), zp]
        have : V i j - (0 * V q j * inv (V q i) + V i q * V i j * inv (V i q)) = V i j - V i j * (V i q * inv (V i q)) := by grind
        rw [this, im]; grind
      · by_cases iq : i = q
        · subst iq
          rw [zr_out (left := wo2 left p i) (fun z => (mem_wo2.mp z.1).2.2 rfl), zq]
          have : V i j - (V i p * V i j * inv (V i p) + 0 * V p j * inv (V p i)) = V i j - V i j * (V i p * inv (V i p)) := by grind
          rw [this, im']; grind
        · by_cases jp : j = p
          · subst jp
            rw [zr_out (left := wo2 left j q) (fun z => (mem_wo2.mp z.2).2.1 rfl), zp]
            have : V i j - (V i j * V q j * inv (V q j) + V i q * 0 * inv (V j q)) = V i j - V i j * (V q j * inv (V q j)) := by grind
            rw [this, im']; grind
          · by_cases jq : j = q
            · subst jq
              rw [zr_out (left := wo2 left p j) (fun z => (mem_wo2.mp z.2).2.2 rfl), zq]
              have : V i j - (V i p * 0 * inv (V j p) + V i j * V p j * inv (V p j)) = V i j - V i j * (V p j * inv (V p j)) := by grind
              rw [this, im]; grind
            · rw [zr_in (mem_wo2.mpr ⟨hi, ip, iq⟩) (mem_wo2.mpr ⟨hj, jp, jq⟩), tw_left (mem_wo2.mpr ⟨hi, ip, iq⟩)]
              grind
    · rw [zr_out (left := wo2 left p q) (fun z => hj (mem_wo2.mp z.2).1), zr_out (i := i) (fun z => hj z.2), zr_out (i := p) (j := j) (fun z => hj z.2), zr_out (i := q) (j := j) (fun z => hj z.2), m0r, m0r]; grind
  · rw [zr_out (left := wo2 left p q) (fun z => hi (mem_wo2.mp z.1).1), zr_out (i := i) (j := j) (fun z => hi z.1), zr_out (i := i) (j := p) (fun z => hi z.1), zr_out (i := i) (j := q) (fun z => hi z.1), m0l, m0l]; grind
end N640

set_option Elab.async false
set_option linter.all false
set_option maxRecDepth 100000
set_option maxHeartbeats 4000000
/-! The law's steps. -/
namespace N640
open PySem PySem.Spec PyProof.Rows L2 Gn
section
variable {K : PySem.W.Frag} {mu : Mu} {G H G0 H0 G' H' : Hp} {σ : L2.St} {ta tb tc te : TE} {D : Ends} {α β : Type} {P : α → Prd}
theorem Vof.app {xs ys : List α} {vs us : List V} (h : Vof P xs vs G) (h2 : Vof P ys us G) : Vof P (xs ++ ys) (vs ++ us) G := by
  refine ⟨by simp [h.1, h2.1], fun i v x a b => ?_⟩
  by_cases hi : i < xs.length
  · rw [List.getElem?_append_left (by rw [h.1]; exact hi)] at a
    rw [List.getElem?_append_left hi] at b
    exact h.2 i v x a b
  · rw [List.getElem?_append_right (by rw [h.1]; omega)] at a
    rw [List.getElem?_append_right (by omega)] at b
    rw [h.1] at a
    exact h2.2 _ v x a b
theorem Vof.mapped {f : β → α} {ys : List β} {vs : List V} (h : Vof (fun y => P (f y)) ys vs G) : Vof P (ys.map f) vs G :=
  ⟨by rw [List.length_map]; exact h.1, fun i v x a b => by
    rw [List.getElem?_map] at b
    cases hc : ys[i]? with
    | none => rw [hc] at b; cases b
    | some y => rw [hc] at b; cases b; exact h.2 i v y a hc⟩
theorem evp_lastL [m : ∀ x, Mono (P x)] {xs : List α} {x : α} (h : EvP mu ta σ G (Lof P (xs ++ [x]))) : EvP mu (tOp (rIxL K) ta (tUn rNeg (tC (.int 1)))) σ G (P x) :=
  evp_op h (evp_neg1 (i := 1)) fun v w G1 _ ⟨a, vs, e1, g, f⟩ e2 => by
    have hl : vs.length = xs.length + 1 := by rw [f.1]; simp
    obtain ⟨us, u, e⟩ : ∃ us u, vs = us ++ [u] := ⟨vs.dropLast, vs.getLast (by intro z; rw [z] at hl; simp at hl), (List.dropLast_concat_getLast _).symm⟩
    subst e
    have hu : us.length = xs.length := by simpa using hl
    exact RvP.pure (v := u) (fun Q H hA q => ⟨a, _, -1, u, e1, e2, sql_at hA g, atI_last us u, q⟩) (f.2 xs.length u x (by rw [← hu]; simp) (by simp))
theorem sext [m : ∀ x, Mono (P x)] {f : Addr} {i : Nat} {vs : List V} {xs : List α} (a : At mu G0 H0) (s : Stp mu G0 H0 G H) (hd : Hd mu H0 f vs G H) (hs : σ[i]? = some (some (.ref f))) (h : EvP mu te σ G (Lof P xs)) (hl : vs.length + xs.length < 1000)
    (k : ∀ us G' H', Stp mu G0 H0 G' H' → Hd mu H0 f (vs ++ us) G' H' → Vof P xs us G' → Ex G G' → D.nx σ H') : tDrop (tBM K "list" rExtend (tVar i) (tCons te tNil)) D σ H := by
  refine ⟨.ref f, hs, .inl ⟨rfl, vs, SqL.of hd.h⟩, ?_⟩
  refine h G H Ex.rfl' (a.stp s) _ fun y G1 H1 s1 p => ?_
  have hd1 := hd.rel s1
  obtain ⟨b, zs, e, g, fz⟩ := p
  refine ⟨f, b, vs, zs, rfl, by rw [e], hd1.h, ((a.stp s).stp s1).ex _ _ g, ?_, ?_⟩
  · exact Nat.le_of_lt (small1000 (by rw [fz.1]; exact Nat.le_of_lt hl))
  · exact k zs G1 _ ((s.trans s1).put _ hd.h0 hd1.g hd.nm) ⟨hd.h0, hd1.g, hd.nm, upd_same⟩ fz s1.gg
end
variable {K : PySem.W.Frag} {mu : Mu} {G H G0 H0 G' H' : Hp} {σ : L2.St} {ta tb tc te : TE} {D : Ends}
def TA : Prd := fun _ _ => True
instance : Mono TA := ⟨fun _ _ => trivial⟩
theorem EvP.any {P : Prd} (h : EvP mu te σ G P) : EvP mu te σ G TA := h.imp fun _ _ _ _ => trivial
abbrev B_steps (x : NM) : Prd := TPr (TTr TA TA (TIn fun be => 0 ≤ be ∧ (be = 0 ↔ PSD x.m (List.range x.n)))) TA
def A_steps (x : NM) (vs : List V) (G : Hp) : Prop := ∃ v, vs = [v] ∧ TNx x.n x.m v G ∧ x.sm
abbrev S_left : Sp := spP (pR A_left B_left)
abbrev TPP (x : Nat × Nat) : Prd := TPr (TZ (x.1 : Int)) (TZ (x.2 : Int))
noncomputable def nz (z : Gn) : Bool := !@decide (z = 0) (Classical.propDecidable _)
theorem nz_iff {z : Gn} : nz z = true ↔ z ≠ 0 := by
  unfold nz
  by_cases h : z = 0 <;> simp [h]
noncomputable def prs (R : Mx) (n i : Nat) : List (Nat × Nat) := (List.range i).flatMap fun p => ((List.range n).filter fun q => nz (R p q)).map fun q => (p, q)
theorem prs_succ (R : Mx) (n i : Nat) : prs R n (i + 1) = prs R n i ++ ((List.range n).filter fun q => nz (R i q)).map fun q => (i, q) := by
  unfold prs
  rw [List.range_succ, List.flatMap_append]
  simp
theorem prs_len (R : Mx) (n i : Nat) : (prs R n i).length ≤ i * n := by
  induction i with
  | zero => simp [prs]
  | succ i ih =>
    rw [prs_succ, List.length_append, List.length_map, Nat.succ_mul]
    have := List.length_filter_le (fun q => nz (R i q)) (List.range n)
    rw [List.length_range] at this
    omega
theorem prs_mem {R : Mx} {n i : Nat} {p q : Nat} : (p, q) ∈ prs R n i ↔ p < i ∧ q < n ∧ R p q ≠ 0 := by
  unfold prs
  simp [List.mem_flatMap, List.mem_map, List.mem_filter, nz_iff]
structure Iv (M : Mx) (n i : Nat) (V : Mx) (left : List Nat) (be : Int) (z : Gn) : Prop where
  k : Wk n V V left
  len : left.length + i ≤ n
  nn : 0 ≤ be
  b0 : be = 0 → (PSD M (List.range n) ↔ PSD V left)
  b1 : 0 < be → ¬ PSD M (List.range n)
  sz : Sz (700 * (n - left.length) + 1) z
theorem Iv.szR {M : Mx} {n i : Nat} {V : Mx} {left : List Nat} {be : Int} {z : Gn} (h : Iv M n i V left be z) (n4 : n ≤ 4) (ne : left ≠ []) {a b : Nat} (ha : a < n) (hb : b < n) : Sz 295 (zr V left a b) := by
  have hl := List.length_pos_iff.mpr ne
  by_cases c : a ∈ left ∧ b ∈ left
  · rw [zr_in c.1 c.2]
    exact (h.k.bv.sz ha hb).mono (kx3 (by omega))
  · rw [zr_out c]; exact sz0.mono (by decide)
theorem Iv.done {M : Mx} {n i : Nat} {V : Mx} {left : List Nat} {be : Int} {z : Gn} (h : Iv M n i V left be z) (h0 : ∀ a, a < n → ∀ b, b < n → zr V left a b = 0) : 0 ≤ be ∧ (be = 0 ↔ PSD M (List.range n)) := by
  refine ⟨h.nn, fun e => (h.b0 e).mpr (PSD.nought fun a ha b hb => ?_), fun p => ?_⟩
  · rw [← zr_in (V := V) ha hb]; exact h0 a (h.k.lt ha) b (h.k.lt hb)
  · rcases Int.lt_or_eq_of_le h.nn with q | q
    · exact absurd p (h.b1 q)
    · exact q.symm
theorem Iv.one {M : Mx} {n i : Nat} {V : Mx} {left : List Nat} {be : Int} {z : Gn} (h : Iv M n i V left be z) (n4 : n ≤ 4) {p : Nat} (hp : p ∈ left) (ne : V p p ≠ 0) :
    Iv M n (i + 1) (tk V V left p) (wo left p) (if 0 < (V p p).re then be else be + 1) (z * V p p) := by
  have hl := wo_len h.k.nd hp
  have hz := h.len
  have hn := h.nn
  have rne : (V p p).re ≠ 0 := fun e => ne (h.k.her.zero hp e)
  refine ⟨h.k.take hp ne, by omega, by split <;> omega, fun e => ?_, fun e => ?_, ?_⟩
  · by_cases pos : 0 < (V p p).re
    · rw [if_pos pos] at e
      exact (h.b0 e).trans (psd_tk h.k.nd h.k.her hp pos)
    · rw [if_neg pos] at e; omega
  · by_cases pos : 0 < (V p p).re
    · rw [if_pos pos] at e; exact h.b1 e
    · intro q
      rcases Int.lt_or_eq_of_le hn with b | b
      · exact h.b1 b q
      · have := ((h.b0 b.symm).mp q).diag h.k.nd hp
        exact pos (by grind)
  · have s := (h.k.bv.sz (h.k.lt hp) (h.k.lt hp)).mono (kx3 (t := n - left.length) (by omega))
    exact h.sz.mul s (by omega)
theorem Iv.two {M : Mx} {n i : Nat} {V : Mx} {left : List Nat} {be : Int} {z : Gn} (h : Iv M n i V left be z) (n4 : n ≤ 4) {p q : Nat} (hp : p ∈ left) (hq : q ∈ left) (hne : p ≠ q) (zp : V p p = 0) (ne : V p q ≠ 0) :
    Iv M n (i + 1) (tw V left p q) (wo2 left p q) (be + 1) (z * (-1 * (V p q * conj (V p q)))) := by
  have hl := wo2_len h.k.nd hp hq hne
  have hz := h.len
  have hn := h.nn
  have s := (h.k.bv.sz (h.k.lt hp) (h.k.lt hq)).mono (kx3 (t := n - left.length) (by omega))
  have s2 := s.mul s.conj (k := 591) (by decide)
  have e1 : (-1 : Gn) * (V p q * conj (V p q)) = -(V p q * conj (V p q)) := by grind
  refine ⟨?_, by omega, by omega, fun e => by omega, fun e qq => ?_, ?_⟩
  · have w := h.k.two hp hq hne ne
    exact ⟨w.sub, w.her, w.bv, w.bv⟩
  · rcases Int.lt_or_eq_of_le hn with b | b
    · exact h.b1 b qq
    · exact PSD.beside h.k.nd hp hq h.k.her zp ne ((h.b0 b.symm).mp qq)
  · rw [e1]
    exact h.sz.mul s2.neg (by omega)
end N640

set_option Elab.async false
set_option linter.all false
set_option maxRecDepth 100000
set_option maxHeartbeats 4000000
/-! The law's steps, the walk. -/
namespace N640
open PySem PySem.Spec PyProof.Rows L2 Gn
variable {K : PySem.W.Frag} {mu : Mu} {G H G0 H0 G' H' : Hp} {σ : L2.St} {ta tb tc te : TE} {D : Ends}
theorem TNx.cong {n : Nat} {M M' : Mx} {v : V} (h : TNx n M v G) (e : ∀ i, i < n → ∀ j, j < n → M i j = M' i j) : TNx n M' v G :=
  h.imp fun i hi u p => p.imp fun j hj w q => by rw [← e i (by simpa using hi) j (by simpa using hj)]; exact q
theorem evp_left {x : LL} (h : EvP mu ta σ G (TNx x.n x.m)) (hp : EvP mu tb σ G (TZ (x.p : Int))) (hq : EvP mu tc σ G (TIs x.qv)) (o : x.ok) : EvP mu (tCall S_left [] E0 (tCons ta (tCons tb (tCons tc tNil)))) σ G (B_left x) :=
  evp_c3 (x := x) (A := A_left) (B := B_left) h hp hq fun v u w G1 _ p q r => ⟨v, by rw [show u = _ from q, show w = _ from r], p, o⟩
theorem last_of {α : Type} {xs : List α} (h : xs ≠ []) : ∃ ys y, xs = ys ++ [y] ∧ y ∈ xs := ⟨xs.dropLast, xs.getLast h, (List.dropLast_concat_getLast h).symm, List.getLast_mem h⟩
theorem m_Lsteps : SemP (t_L_steps K S_nmul S_left S_nconj) n_L_steps A_steps B_steps := by
  intro mu x vs G H hA ⟨v, e, hv, ox⟩ D k
  subst e
  have n4 := ox.n4
  obtain ⟨n, M⟩ := x
  have n4 : n ≤ 4 := n4
  have hv : TNx n M v G := hv
  have her : Her M (List.range n) := ox.her
  have bd : Bd 9 n M := ox.bd
  have hl0 : EvP mu (tCB (rLenN K) (tCons (tVar 0) tNil)) (start n_L_steps [v]) G (TZ (n : Int)) := evp_to (evp_len (P := fun i => TNRow n (M i)) (evp_var (P := Sof (fun i => TNRow n (M i)) (List.range n)) rfl (.inl hv))) (by simp)
  unfold t_L_steps
  dsimp only [tSeq]
  have t4 : EvP mu (tTup (tCons (tC (.int 0)) (tCons (tC (.int 0)) (tCons (tTup (tCons (tC (.int 1)) (tCons (tC (.int 0)) (tCons (tC (.int 1)) tNil)))) (tCons (tLstRg (tRg1 (tCB (rLenN K) (tCons (tVar 0) tNil)))) tNil))))) (start n_L_steps [v]) G (fun w G1 => ∃ a pr sm, w = .ref a ∧ G1 a = some (.tup [.int 0, .int 0, pr, sm]) ∧ TNum 1 pr G1 ∧ TPos (List.range n) sm G1) := by
    obtain ⟨g1, g2, g3⟩ := g_int 1
    refine (evp_tup (n := 4) (eva_cons (P := TZ 0) evp_c (eva_cons (P := TZ 0) evp_c (eva_cons (P := TNum 1) (evp_num3 evp_c evp_c evp_c g1.symm g2.symm g3.symm) (eva_cons (P := TPos (List.range n)) (evp_rg hl0 (by omega)) eva_nil)))) ?_ ?_).imp ?_
    · rintro vs G1 ⟨a, r, rfl, _, b, r2, rfl, _, c, r3, rfl, _, d, r4, rfl, _, rfl⟩; simp
    · rintro vs G1 G2 e ⟨a, r, rfl, h1, b, r2, rfl, h2, c, r3, rfl, h3, d, r4, rfl, h4, rfl⟩
      exact ⟨a, _, rfl, h1, b, _, rfl, h2, c, _, rfl, Mono.mono e h3, d, _, rfl, Mono.mono e h4, rfl⟩
    · rintro w G1 _ ⟨ad, vs, rfl, g, a, r, rfl, h1, b, r2, rfl, h2, c, r3, rfl, h3, dd, r4, rfl, h4, rfl⟩
      cases h1; cases h2
      exact ⟨ad, c, dd, rfl, g, h3, h4⟩
  refine t4 G H Ex.rfl' hA _ fun w G1 H1 s1 ⟨ad, pr, smv, ew, gw, ppr, psm⟩ => ?_
  have a1 := hA.stp s1
  refine ⟨ad, _, ew, sqt_at a1 gw, rfl, .int 0, _, rfl, .int 0, _, rfl, pr, _, rfl, smv, _, rfl, rfl, ?_⟩
  have hv1 : TNx n (zr M (List.range n)) v G1 := TNx.cong (Mono.mono s1.gg hv) fun i hi j hj => (zr_range hi hj).symm
  have iv0 : Iv M n 0 M (List.range n) 0 1 := ⟨⟨List.Sublist.refl _, her, bd.mono (kx_ge _), bd.mono (kx_ge _)⟩, by simp, by omega, fun _ => Iff.rfl, fun z => by omega, sz1.mono (by omega)⟩
  dsimp only [tSeq]
  refine sforP (xs := List.range (n + 1)) (PI := fun i : Nat => TZ (i : Int)) a1 (evi_rng (n := n + 1) (by
      refine (eva_1 (P1 := TZ ((n + 1 : Nat) : Int)) ?_).imp fun vs G1 _ ⟨v, e, p⟩ => by rw [e, show v = _ from p]
      exact evp_to (evp_add (evp_to (evp_len (P := fun i => TNRow n (zr M (List.range n) i)) (evp_var (P := Sof (fun i => TNRow n (zr M (List.range n) i)) (List.range n)) rfl (.inl hv1))) (by simp; rfl)) evp_c) rfl) (by omega))
    (fun i σ' G' => ∃ (rows pr : V) (ab be : Int) (c5 c6 c7 c8 c9 c10 : Option V) (X : Mx) (left : List Nat) (z : Gn), σ' = [some rows, some (.int ab), some (.int be), some pr, some smv, c5, c6, c7, c8, c9, c10] ∧ TNx n (zr X left) rows G' ∧ TNum z pr G' ∧ Iv M n i X left be z)
    (fun i σ G G' e ⟨rows, pr, ab, be, c5, c6, c7, c8, c9, c10, X, left, z, es, h1, h2, h3⟩ => ⟨rows, pr, ab, be, c5, c6, c7, c8, c9, c10, X, left, z, es, Mono.mono e h1, Mono.mono e h2, h3⟩)
    ⟨v, pr, 0, 0, none, none, none, none, none, none, M, List.range n, 1, rfl, hv1, ppr, iv0⟩
    (fun Gs Hs s3 i y w σ1 G4 H4 hy s4 ⟨rows, pr, ab, be, c5, c6, c7, c8, c9, c10, X, left, z, es, hR, hz, iv⟩ pw => ?_) fun σ1 G4 H4 s4 ⟨rows, pr, ab, be, c5, c6, c7, c8, c9, c10, X, left, z, es, hR, hz, iv⟩ => ?_
  · subst es
    obtain ⟨rfl, hi⟩ := range_get hy
    have pw : w = .int (y : Int) := pw
    subst pw
    have a4 := (a1.stp s3).stp s4
    have sm4 := Mono.mono (s3.gg.trans s4.gg) psm
    have hn := iv.k.len
    dsimp only [tSeq]
    have row : ∀ {a b : Nat} {ta tb : TE} {σ : L2.St} {G7 : Hp}, Ex G4 G7 → σ[0]? = some (some rows) → EvP mu ta σ G7 (TZ (a : Int)) → EvP mu tb σ G7 (TZ (b : Int)) → a < n → b < n → EvP mu (tOp (rIxL K) (tOp (rIxL K) (tVar 0) ta) tb) σ G7 (TNum (zr X left a b)) := fun e hs h1 h2 ha hb => evp_nat (evp_nrow (evp_var (P := TNx n (zr X left)) hs (Mono.mono e hR)) h1 ha) h2 hb
    -- lone
    refine sasg (D := _) (σ := [some rows, some (.int ab), some (.int be), some pr, some smv, some (.int (y : Int)), c6, c7, c8, c9, c10]) (i := 6) (P := TPos ((List.range n).filter fun p => !decide (gp (zr X left p p) = 0))) a4 (evp_lcF (fun p => !decide (gp (zr X left p p) = 0)) (evi_list (evp_var (P := TPos (List.range n)) rfl sm4)) (by simp; omega) (fun _ => rfl) (fun p hp u G5 e5 pu => by
        cases pu
        have hp : p < n := by simpa using hp
        exact evt_test (evp_neI (evp_n0 (row e5 rfl (evp_is rfl) (evp_is rfl) hp hp)) evp_c)) fun p hp u G5 e5 pu G6 e6 => by cases pu; exact evp_is rfl) fun lo G5 H5 s5 p5 => ?_
    have a5 := a4.stp s5
    dsimp only
    -- pairs
    refine shid (σ := [some rows, some (.int ab), some (.int be), some pr, some smv, some (.int (y : Int)), some lo, c7, c8, c9, c10]) (i := 7) a5 fun f H6 s6 hd6 a6 => ?_
    dsimp only
    have sm5 := Mono.mono s5.gg sm4
    refine sfor (xs := List.range n) (PI := fun i : Nat => TZ (i : Int)) a6 (by exact evi_list (evp_var (P := TPos (List.range n)) (i := 4) rfl sm5)) fun Gt Ht s7 => ⟨fun i σ' G' H' => ∃ (acc : List V) (c8 c9 : Option V), σ' = [some rows, some (.int ab), some (.int be), some pr, some smv, some (.int (y : Int)), some lo, some (.ref f), c8, c9, c10] ∧ Stp mu G5 H5 G' H' ∧ Hd mu H5 f acc G' H' ∧ Vof TPP (prs (zr X left) n i) acc G',
      ⟨[], c8, c9, rfl, s6.trans s7, hd6.rel s7, Vof.nil⟩, fun i p u σ1 G8 H8 G9 H9 hy e8 a8 ⟨acc, c8, c9, es, s8, hd8, f8⟩ s9 pu => ?_, fun σ1 G8 H8 e8 a8 ⟨acc, c8, c9, es, s8, hd8, f8⟩ => ?_⟩
    · subst es
      obtain ⟨rfl, hp⟩ := range_get hy
      have pu : u = .int (p : Int) := pu
      subst pu
      have a9 := a8.stp s9
      have s89 := s8.trans s9
      have e49 := s5.gg.trans s89.gg
      refine sext (xs := (((List.range n).filter fun q => nz (zr X left p q)).map fun q => (p, q))) (P := TPP) a5 s89 (hd8.rel s9) rfl ?_ ?_ fun us Ga Ha sa hda fa ea => ⟨Ga, e8.trans (s9.gg.trans ea), a5.stp sa, acc ++ us, some (.int (p : Int)), c9, rfl, sa, hda, ?_⟩
      · refine (evp_lcF (P := fun q : Nat => TPP (p, q)) (fun q => nz (zr X left p q)) (evi_list (evp_var (P := TPos (List.range n)) (i := 4) rfl (Mono.mono s89.gg sm5))) (by simp; omega) (fun _ => rfl) (fun q hq u G10 e10 pu => ?_) fun q hq u G10 e10 pu G11 e11 => ?_).imp fun v G10 _ ⟨b, zs, e, g, fz⟩ => ⟨b, zs, e, g, fz.mapped⟩
        · cases pu
          have hq : q < n := by simpa using hq
          exact evt_test (evp_neZ (row (e49.trans e10) rfl (evp_is rfl) (evp_is rfl) hp hq))
        · cases pu
          exact evp_tup2 (evp_is rfl) (evp_is rfl)
      · have := prs_len (zr X left) n p
        have h2 : p * n ≤ 4 * 4 := Nat.mul_le_mul (by omega) n4
        have h3 := List.length_filter_le (fun q => nz (zr X left p q)) (List.range n)
        rw [List.length_range] at h3
        rw [f8.1, List.length_map]; omega
      · rw [prs_succ]
        exact (f8.mono (s9.gg.trans ea)).app fa
    · subst es
      rw [show (List.range n).length = n by simp] at f8
      obtain ⟨st, et⟩ := hd8.tell a5 s8
      have at_ := a5.stp st
      have pairs : Lof TPP (prs (zr X left) n n) (.ref f) (L2.upd G8 f (.lst acc)) := ⟨f, acc, rfl, upd_same, f8.mono et⟩
      have e4t : Ex G4 (L2.upd G8 f (.lst acc)) := s5.gg.trans st.gg
      generalize hGt : L2.upd G8 f (.lst acc) = Gx at *
      have st4 : Stp mu G4 H4 Gx H8 := s5.trans st
      have lot := Mono.mono st.gg p5
      have hzt := Mono.mono e4t hz
      dsimp only
      have gst : Stp mu Gs Hs Gx H8 := s4.trans st4
      have rowx : ∀ {a b : Nat} {ta tb : TE} {σ : L2.St} {G7 : Hp}, Ex Gx G7 → σ[0]? = some (some rows) → EvP mu ta σ G7 (TZ (a : Int)) → EvP mu tb σ G7 (TZ (b : Int)) → a < n → b < n → EvP mu (tOp (rIxL K) (tOp (rIxL K) (tVar 0) ta) tb) σ G7 (TNum (zr X left a b)) := fun e hs h1 h2 ha hb => row (e4t.trans e) hs h1 h2 ha hb
      by_cases hL : ((List.range n).filter fun p => !decide (gp (zr X left p p) = 0)) = []
      · refine siff (D := _) at_ (evt_to (evt_test (evp_neNilG (k := 0) (fun i => tel_int) (by decide) (evp_var rfl lot))) (by rw [hL]; rfl)) fun G10 H10 s10 => ?_
        have a10 := at_.stp s10
        have pr10 := Mono.mono s10.gg pairs
        have h0 : ∀ p, p < n → gp (zr X left p p) = 0 := fun p hp => by
          have := List.filter_eq_nil_iff.mp hL p (by simpa using hp)
          simpa using this
        by_cases hP : prs (zr X left) n n = []
        · refine siff (D := _) a10 (evt_to (evt_test (evp_neNilG (k := 1) (fun i => tel_pr tel_int tel_int) (by decide) (evp_var rfl pr10))) (by rw [hP]; rfl)) fun G11 H11 s11 => ?_
          have a11 := a10.stp s11
          have hR11 := Mono.mono (e4t.trans (s10.gg.trans s11.gg)) hR
          have hz11 := Mono.mono (s10.gg.trans s11.gg) hzt
          have z0 : ∀ a, a < n → ∀ b, b < n → zr X left a b = 0 := fun a ha b hb => Classical.byContradiction fun q => by
            have : (a, b) ∈ prs (zr X left) n n := prs_mem.mpr ⟨ha, hb, q⟩
            rw [hP] at this; cases this
          refine sasg (D := _) a11 (evp_sub (evp_sub (evp_to (evp_len (P := fun i => TNRow n (zr X left i)) (evp_var (P := Sof (fun i => TNRow n (zr X left i)) (List.range n)) rfl (.inl hR11))) rfl) (evp_is rfl)) (evp_is rfl)) fun at1 G12 H12 s12 p12 => ?_
          refine sret (D := _) (P := B_steps ⟨n, M⟩) (a11.stp s12) (evp_tup2 (evp_tup3 (evp_is rfl).any (evp_is rfl).any ((evp_is (v := .int be) rfl).imp fun v G1 _ p => ⟨be, p, iv.done z0⟩)) (P2 := TA) ?_) fun u G13 H13 s13 p13 => k u G13 H13 ((s1.trans s3).trans (gst.trans ((s10.trans s11).trans (s12.trans s13)))) p13
          refine (evp_if (P := TA) (A := fun _ => True) (EvT.imp (evt_test (evp_eqI (evp_var (P := TIs at1) rfl rfl |>.imp fun v G1 _ p => by rw [show v = _ from p]; exact p12) evp_c)) fun _ _ => trivial) (fun _ => (evp_is rfl).any) fun _ => EvP.any (P := TNum 0) evp_n0z)
        · refine sift (D := _) a10 (evt_to (evt_test (evp_neNilG (k := 1) (fun i => tel_pr tel_int tel_int) (by decide) (evp_var rfl pr10))) (by cases h : prs (zr X left) n n with | nil => exact absurd h hP | cons a t => rfl)) fun G11 H11 s11 => ?_
          have a11 := a10.stp s11
          obtain ⟨ys, ⟨p, q⟩, epq, mpq⟩ := last_of hP
          obtain ⟨pn, qn, npq⟩ := prs_mem.mp mpq
          obtain ⟨pm, qm, ne⟩ := zr_ne npq
          have zd : ∀ a, a ∈ left → X a a = 0 := fun a ha => iv.k.her.zero ha (by
            have := h0 a (iv.k.lt ha)
            rw [zr_in ha ha] at this
            exact (re_zero _).mpr this)
          have hne : p ≠ q := fun e => by
            rw [← e] at ne
            exact ne (zd p pm)
          have ne' : X q p ≠ 0 := by rw [iv.k.her p pm q qm]; exact conj_ne ne
          have lne : left ≠ [] := List.ne_nil_of_mem pm
          have pr11 := Mono.mono s11.gg pr10
          rw [epq] at pr11
          have hz11 := Mono.mono (s10.gg.trans s11.gg) hzt
          refine sasg2 (D := _) (A := TZ (p : Int)) (B := TZ (q : Int)) a11 (evp_lastL (P := TPP) (x := (p, q)) (evp_var rfl pr11)) fun pv qv G12 H12 s12 e1 e2 => ?_
          cases e1; cases e2
          have a12 := a11.stp s12
          have e12 : Ex Gx G12 := (s10.gg.trans s11.gg).trans s12.gg
          have spq := iv.szR n4 lne pn qn
          have ee : zr X left p q = X p q := zr_in pm qm
          have o1 : Ok ((-1 : Gn) * (zr X left p q * conj (zr X left p q))) := by
            have e1 : (-1 : Gn) * (zr X left p q * conj (zr X left p q)) = -(zr X left p q * conj (zr X left p q)) := by grind
            rw [e1]
            exact ((spq.mul spq.conj (k := 591) (by decide)).neg).mono (by decide)
          have om : Sz 2 (-1 : Gn) := by
            have := (sz1.mono (n := 2) (by decide)).neg
            exact this
          dsimp only
          refine sasg (D := _) (σ := [some rows, some (.int ab), some (.int be), some pr, some smv, some (.int (y : Int)), some lo, some (.ref f), some (.int (p : Int)), some (.int (q : Int)), c10]) (i := 3) (P := TNum (z * (-1 * (X p q * conj (X p q))))) a12 ?_ fun pr2 G13 H13 s13 p13 => ?_
          · rw [← ee]
            obtain ⟨f1, f2, f3⟩ := g_neg 1
            obtain ⟨g1, g2, g3⟩ := g_int 1
            refine evp_nmul (evp_var rfl (Mono.mono s12.gg hz11)) (evp_nmul (evp_num3 (evp_sub evp_c evp_c) evp_c evp_c ?_ ?_ ?_) (evp_nmul (rowx e12 rfl (evp_is rfl) (evp_is rfl) pn qn) (evp_nconj (rowx e12 rfl (evp_is rfl) (evp_is rfl) pn qn)) (spq.mono (by decide)) (spq.conj.mono (by decide))) (om.mono (by decide)) ((spq.mul spq.conj (k := 591) (by decide)).mono (by decide))) (iv.sz.mono (by have := iv.len; omega)) o1
            · rw [f1]; show (0 : Int) - 1 = - gp (ofR ((1 : Int) : Rat)); rw [g1]; rfl
            · rw [f2]; show (0 : Int) = - gs (ofR ((1 : Int) : Rat)); rw [g2]; rfl
            · rw [f3]; exact g3.symm
          · have a13 := a12.stp s13
            dsimp only
            refine spar (D := _) (σ := [some rows, some (.int ab), some (.int be), some pr2, some smv, some (.int (y : Int)), some lo, some (.ref f), some (.int (p : Int)), some (.int (q : Int)), c10]) (i := 1) (j := 2) a13 (evp_add (evp_is (v := .int ab) rfl) (evp_c (v := .int 1))) (evp_add (evp_is (v := .int be) rfl) (evp_c (v := .int 1))) fun u1 u2 G14 H14 s14 q1 q2 => ?_
            cases q1; cases q2
            have a14 := a13.stp s14
            have e14 := e12.trans (s13.gg.trans s14.gg)
            dsimp only
            refine sasg (D := _) (σ := [some rows, some (.int (ab + 1)), some (.int (be + 1)), some pr2, some smv, some (.int (y : Int)), some lo, some (.ref f), some (.int (p : Int)), some (.int (q : Int)), c10]) (i := 0) a14 (evp_left (x := ⟨n, zr X left, p, some q⟩) (evp_var rfl (Mono.mono (e4t.trans e14) hR)) (evp_is rfl) (evp_is rfl) ⟨by show n ≤ 8; omega, pn, fun i hi j hj => (iv.szR n4 lne hi hj).mono (by decide), fun z => (by cases z), fun q2 hq2 => by cases hq2; exact ⟨qn, by show zr X left q p ≠ 0; rw [zr_in qm pm]; exact ne', npq⟩⟩) fun rows2 G15 H15 s15 p15 => ?_
            refine ⟨G15, gst.trans ((s10.trans s11).trans ((s12.trans s13).trans (s14.trans s15))), rows2, pr2, ab + 1, be + 1, _, _, _, _, _, _, tw X left p q, wo2 left p q, z * (-1 * (X p q * conj (X p q))), rfl, TNx.cong p15 fun i hi j hj => left_two pm qm hne (zd p pm) (zd q qm) ne ne', Mono.mono (s14.gg.trans s15.gg) p13, iv.two n4 pm qm hne (zd p pm) ne⟩
      · refine sift (D := _) at_ (evt_to (evt_test (evp_neNilG (k := 0) (fun i => tel_int) (by decide) (evp_var rfl lot))) (by cases h : ((List.range n).filter fun p => !decide (gp (zr X left p p) = 0)) with | nil => exact absurd h hL | cons a t => rfl)) fun G10 H10 s10 => ?_
        have a10 := at_.stp s10
        obtain ⟨ys, p, ep, mp⟩ := last_of hL
        have mp2 := List.mem_filter.mp mp
        have pn : p < n := by simpa using mp2.1
        have gne : gp (zr X left p p) ≠ 0 := by simpa using mp2.2
        have zne : zr X left p p ≠ 0 := fun e => gne (by rw [e]; exact gp_zero)
        obtain ⟨pm, _, ne⟩ := zr_ne zne
        have lne : left ≠ [] := List.ne_nil_of_mem pm
        have ee : zr X left p p = X p p := zr_in pm pm
        have lo10 := Mono.mono s10.gg lot
        rw [ep] at lo10
        have sp := iv.szR n4 lne pn pn
        refine sasg (D := _) (P := TZ (p : Int)) a10 (evp_lastL (P := fun i : Nat => TZ (i : Int)) (evp_var rfl lo10)) fun pv G11 H11 s11 e1 => ?_
        cases e1
        have a11 := a10.stp s11
        have e11 := s10.gg.trans s11.gg
        dsimp only
        refine sasg (D := _) (σ := [some rows, some (.int ab), some (.int be), some pr, some smv, some (.int (y : Int)), some lo, some (.ref f), some (.int (p : Int)), c9, c10]) (i := 3) (P := TNum (z * X p p)) a11 (by rw [← ee]; exact evp_nmul (evp_var rfl (Mono.mono e11 hzt)) (rowx e11 rfl (evp_is rfl) (evp_is rfl) pn pn) (iv.sz.mono (by have := iv.len; omega)) (sp.mono (by decide))) fun pr2 G12 H12 s12 p12 => ?_
        have a12 := a11.stp s12
        have e12 := e11.trans s12.gg
        dsimp only
        refine sasg2 (D := _) (σ := [some rows, some (.int ab), some (.int be), some pr2, some smv, some (.int (y : Int)), some lo, some (.ref f), some (.int (p : Int)), c9, c10]) (i := 1) (j := 2) (A := TZ (if 0 < (X p p).re then ab + 1 else ab)) (B := TZ (if 0 < (X p p).re then be else be + 1)) a12 (evp_if (A := (· = decide (0 < gp (zr X left p p)))) (evt_test (evp_gt (evp_n0 (rowx e12 rfl (evp_is rfl) (evp_is rfl) pn pn)) evp_c)) (fun ht => ?_) fun hf => ?_) fun u1 u2 G13 H13 s13 q1 q2 => ?_
        · have ht : 0 < gp (zr X left p p) := of_decide_eq_true ht.symm
          rw [ee] at ht
          have ht := (re_pos _).mpr ht
          rw [if_pos ht, if_pos ht]
          exact evp_tup2 (evp_add (evp_is rfl) evp_c) (evp_is rfl)
        · have hf : ¬ 0 < gp (zr X left p p) := of_decide_eq_false hf.symm
          rw [ee] at hf
          have hf := mt (re_pos _).mp hf
          rw [if_neg hf, if_neg hf]
          exact evp_tup2 (evp_is rfl) (evp_add (evp_is rfl) evp_c)
        · cases q1; cases q2
          have a13 := a12.stp s13
          have e13 := e12.trans s13.gg
          dsimp only
          refine sasg (D := _) (σ := [some rows, some (.int (if 0 < (X p p).re then ab + 1 else ab)), some (.int (if 0 < (X p p).re then be else be + 1)), some pr2, some smv, some (.int (y : Int)), some lo, some (.ref f), some (.int (p : Int)), c9, c10]) (i := 0) a13 (evp_left (x := ⟨n, zr X left, p, none⟩) (evp_var rfl (Mono.mono (e4t.trans e13) hR)) (evp_is rfl) (evp_c (v := .non)) ⟨by show n ≤ 8; omega, pn, fun i hi j hj => (iv.szR n4 lne hi hj).mono (by decide), fun _ => zne, fun q2 hq2 => by cases hq2⟩) fun rows2 G15 H15 s15 p15 => ?_
          refine ⟨G15, gst.trans (s10.trans (s11.trans (s12.trans (s13.trans s15)))), rows2, pr2, _, _, _, _, _, _, _, _, tk X X left p, wo left p, z * X p p, rfl, TNx.cong p15 fun i hi j hj => left_one pm ne, Mono.mono (s13.gg.trans s15.gg) p12, iv.one n4 pm ne⟩
  · exfalso
    have := iv.len
    simp at this
    omega
end N640

set_option Elab.async false
set_option linter.all false
set_option maxRecDepth 100000
set_option maxHeartbeats 4000000
/-! The pot. -/
namespace N640
open PySem PySem.Spec PyProof.Rows L2 Gn
variable {K : PySem.W.Frag} {mu : Mu} {G H G0 H0 G' H' : Hp} {σ : L2.St} {ta tb tc te : TE} {D : Ends} {p : Addr} {τ : Type}
def PotH (p : Addr) (H : Hp) : Prop := ∃ x y : Int, H p = some (.lst [.int x, .int y]) ∧ 0 ≤ y ∧ y < 2 ^ 40
structure HasPot (mu : Mu) (p : Addr) : Prop where
  mt : mu.mt p
  get : ∀ H, mu.inv H → PotH p H
  put : ∀ (H : Hp) (x y : Int), mu.inv H → 0 ≤ y → y < 2 ^ 40 → mu.inv (upd H p (.lst [.int x, .int y]))
theorem HasPot.stp (h : HasPot mu p) (a : At mu G H) {x y : Int} (h1 : 0 ≤ y) (h2 : y < 2 ^ 40) : Stp mu G H G (upd H p (.lst [.int x, .int y])) := by
  have gp := a.nm p h.mt
  refine ⟨⟨fun b o n e => ?_, fun b e => ?_, Ex.rfl', fun b o e => ?_, fun b _ => rfl⟩, h.put H x y a.iv h1 h2⟩
  · have : b ≠ p := fun q => n (q ▸ h.mt)
    rw [upd_ne this]; exact e
  · by_cases q : b = p
    · rw [q, upd_same]; intro z; cases z
    · rw [upd_ne q]; exact e
  · have : b ≠ p := fun q => by rw [q, gp] at e; cases e
    rw [upd_ne this]; exact a.ex b o e
/-- pots as ghosts -/
def addP (mu : Mu) (p : Addr) : Mu where
  mt b := mu.mt b ∨ b = p
  inv H := mu.inv H ∧ PotH p H
  loc H H' h i := ⟨mu.loc H H' (fun b hb => h b (.inl hb)) i.1, let ⟨x, y, a, b⟩ := i.2; ⟨x, y, (h _ (.inr rfl)).trans a, b⟩⟩
  here H b i hb := by
    rcases hb with hb | rfl
    · exact mu.here H b i.1 hb
    · obtain ⟨x, y, a, _⟩ := i.2
      rw [a]; intro z; cases z
theorem hasPot (nm : ¬ mu.mt p) : HasPot (addP mu p) p where
  mt := .inr rfl
  get _ h := h.2
  put H x y h h1 h2 := ⟨mu.loc H _ (fun b hb => upd_ne fun q => nm (q ▸ hb)) h.1, x, y, upd_same, h1, h2⟩
def rP {τ : Type} (A : τ → List V → Hp → Prop) (B : τ → Prd) : Rq := fun mu vs G P => ∃ x p us, vs = .ref p :: us ∧ HasPot mu p ∧ A x us G ∧ ∀ v G', Ex G G' → B x v G' → P v G'
def SemPot {τ : Type} (t : TS) (N : List Str) (A : τ → List V → Hp → Prop) (B : τ → Prd) : Prop :=
  ∀ (mu : Mu) (p : Addr) (x : τ) (us : List V) (G H : Hp), HasPot mu p → At mu G H → A x us G → ∀ D : Ends, (∀ v G' H', Stp mu G H G' H' → B x v G' → D.rt v H') → t D (start N (.ref p :: us)) H
theorem SemPot.meets {t : TS} {N : List Str} {A : τ → List V → Hp → Prop} {B : τ → Prd} (h : SemPot t N A B) : Meets t N (rP A B) := fun mu vs G H P hA ⟨x, p, us, e, hp, a, b⟩ Q q => by
  subst e
  exact h mu p x us G H hp hA a _ fun v G' H' s p => q v G' H' s (b v G' s.gg p)
theorem evp_q0 {A : τ → List V → Hp → Prop} {B : τ → Prd} {x : τ} (hp : HasPot mu p) (h : EvP mu ta σ G (TIs (.ref p))) (k : ∀ G1, Ex G G1 → A x [] G1) : EvP mu (tCall (spP (rP A B)) [] E0 (tCons ta tNil)) σ G (B x) := fun G1 H e a Q q =>
  callE <| eva_1 h G1 H e a _ fun vs G2 H2 s2 ⟨v, e1, e2⟩ => ⟨mu, G2, B x, a.stp s2, ⟨x, p, [], by rw [e1, show v = _ from e2]; rfl, hp, k G2 (e.trans s2.gg), fun v G' e b => b⟩, fun v G' H' s b => q v G' H' (s2.trans s) b⟩
theorem evp_q1 {A : τ → List V → Hp → Prop} {B : τ → Prd} {x : τ} {P1 : Prd} [Mono P1] (hp : HasPot mu p) (h : EvP mu ta σ G (TIs (.ref p))) (h1 : EvP mu tb σ G P1) (k : ∀ u G1, Ex G G1 → P1 u G1 → A x [u] G1) : EvP mu (tCall (spP (rP A B)) [] E0 (tCons ta (tCons tb tNil))) σ G (B x) := fun G1 H e a Q q =>
  callE <| eva_2 h h1 G1 H e a _ fun vs G2 H2 s2 ⟨v, u, e1, e2, p1⟩ => ⟨mu, G2, B x, a.stp s2, ⟨x, p, [u], by rw [e1, show v = _ from e2]; rfl, hp, k u G2 (e.trans s2.gg) p1, fun v G' e b => b⟩, fun v G' H' s b => q v G' H' (s2.trans s) b⟩
theorem evp_q2 {A : τ → List V → Hp → Prop} {B : τ → Prd} {x : τ} {P1 P2 : Prd} [Mono P1] [Mono P2] (hp : HasPot mu p) (h : EvP mu ta σ G (TIs (.ref p))) (h1 : EvP mu tb σ G P1) (h2 : EvP mu tc σ G P2) (k : ∀ u w G1, Ex G G1 → P1 u G1 → P2 w G1 → A x [u, w] G1) : EvP mu (tCall (spP (rP A B)) [] E0 (tCons ta (tCons tb (tCons tc tNil)))) σ G (B x) := fun G1 H e a Q q =>
  callE <| eva_3 h h1 h2 G1 H e a _ fun vs G2 H2 s2 ⟨v, u, w, e1, e2, p1, p2⟩ => ⟨mu, G2, B x, a.stp s2, ⟨x, p, [u, w], by rw [e1, show v = _ from e2]; rfl, hp, k u w G2 (e.trans s2.gg) p1 p2, fun v G' e b => b⟩, fun v G' H' s b => q v G' H' (s2.trans s) b⟩
/-! draws -/
theorem evp_pot0 {i : Nat} (hp : HasPot mu p) (hs : σ[i]? = some (some (.ref p))) : EvP mu (tOp (rIxL K) (tVar i) (tC (.int 0))) σ G (TIn fun _ => True) := fun G1 H e a Q q => by
  obtain ⟨x, y, h, _⟩ := hp.get H a.iv
  exact ⟨_, hs, p, _, 0, .int x, rfl, rfl, SqL.of h, rfl, q _ G1 H (Stp.refl a) ⟨x, rfl, trivial⟩⟩
theorem evp_pot1 {i : Nat} (hp : HasPot mu p) (hs : σ[i]? = some (some (.ref p))) : EvP mu (tOp (rIxL K) (tVar i) (tC (.int 1))) σ G (TIn fun y => 0 ≤ y ∧ y < 2 ^ 40) := fun G1 H e a Q q => by
  obtain ⟨x, y, h, h2⟩ := hp.get H a.iv
  exact ⟨_, hs, p, _, 1, .int y, rfl, rfl, SqL.of h, rfl, q _ G1 H (Stp.refl a) ⟨y, rfl, h2⟩⟩
theorem small_div {i j : Int} (h0 : 0 < j) (h : j < 2 ^ 60) : CDivP i j := by
  refine ⟨h0, ?_⟩
  have hl : j.natAbs.log2 < 60 := (Nat.log2_lt (by omega)).mpr (by omega)
  have h1 : (if j == 0 then 0 else j.natAbs.log2 / 30 + 1) ≤ 300 := by
    split <;> omega
  show (decide ((if j == 0 then 0 else j.natAbs.log2 / 30 + 1) > 300) && decide ((if i == 0 then 0 else i.natAbs.log2 / 30 + 1) > (if j == 0 then 0 else j.natAbs.log2 / 30 + 1) + 150)) = false
  rw [decide_eq_false (by omega)]; rfl
end N640

set_option Elab.async false
set_option linter.all false
set_option maxRecDepth 100000
set_option maxHeartbeats 4000000
/-! Draws. -/
namespace N640
open PySem PySem.Spec PyProof.Rows L2 Gn
variable {K : PySem.W.Frag} {mu : Mu} {G H G0 H0 G' H' : Hp} {σ : L2.St} {ta tb tc te : TE} {D : Ends} {p : Addr} {τ : Type} {P Q R : Int → Prop}
theorem EvP.tin {i : Int} (h : EvP mu te σ G (TZ i)) (p : P i) : EvP mu te σ G (TIn P) := h.imp fun v _ _ e => ⟨i, e, p⟩
theorem EvP.weak (h : EvP mu te σ G (TIn P)) (i : ∀ x, P x → Q x) : EvP mu te σ G (TIn Q) := h.imp fun v _ _ ⟨x, e, p⟩ => ⟨x, e, i x p⟩
theorem evn_I0 {g : Int → Int → Int} (ha : EvP mu ta σ G (TIn P)) (hb : EvP mu tb σ G (TIn Q)) (hr : ∀ i j, P i → Q j → R (g i j)) : EvP mu (tOp (rI0 fun i j => .int (g i j)) ta tb) σ G (TIn R) :=
  evp_op ha hb fun x y G1 _ ⟨i, e1, p1⟩ ⟨j, e2, p2⟩ => RvP.pure (v := .int (g i j)) (fun Q H _ q => ⟨i, j, e1, e2, q⟩) ⟨_, rfl, hr i j p1 p2⟩
theorem evn_I {g : Int → Int → Int} {C : Int → Int → Prop} (ha : EvP mu ta σ G (TIn P)) (hb : EvP mu tb σ G (TIn Q)) (hc : ∀ i j, P i → Q j → C i j) (hr : ∀ i j, P i → Q j → R (g i j)) : EvP mu (tOp (rI C fun i j => .int (g i j)) ta tb) σ G (TIn R) :=
  evp_op ha hb fun x y G1 _ ⟨i, e1, p1⟩ ⟨j, e2, p2⟩ => RvP.pure (v := .int (g i j)) (fun Q H _ q => ⟨i, j, e1, e2, hc i j p1 p2, q⟩) ⟨_, rfl, hr i j p1 p2⟩
theorem evn_cmp {f : Int → Int → Bool} (ha : EvP mu ta σ G (TIn P)) (hb : EvP mu tb σ G (TIn Q)) : EvP mu (tOp (rI0 fun i j => .bl (f i j)) ta tb) σ G (TBn fun _ => True) :=
  evp_op ha hb fun x y G1 _ ⟨i, e1, p1⟩ ⟨j, e2, p2⟩ => RvP.pure (v := .bl (f i j)) (fun Q H _ q => ⟨i, j, e1, e2, q⟩) ⟨_, rfl, trivial⟩
theorem evn_int (ha : EvP mu ta σ G (TIn P)) : EvP mu (tCB rInt1 (tCons ta tNil)) σ G (TIn P) :=
  evp_tcb (eva_1 ha) fun vs G1 _ ⟨v, e, i, e1, p⟩ => RvP.pure (v := .int i) (fun Q H hA q => .inl ⟨i, by rw [e, e1], q⟩) ⟨i, rfl, p⟩
theorem evn_c {i : Int} (p : P i) : EvP mu (tC (.int i)) σ G (TIn P) := evp_c.tin p
theorem bits_small {i j : Int} {a b : Nat} (h1 : i.natAbs < 2 ^ a) (h2 : j.natAbs < 2 ^ b) (h0 : 0 < a := by decide) (h00 : 0 < b := by decide) (h3 : a + b ≤ 1000000 := by decide) : CMulW i j := wide_mul h1 h2 h0 h00 h3
def A_draw (m : Int) (us : List V) (_ : Hp) : Prop := us = [.int m] ∧ 0 < m ∧ m < 2 ^ 60
abbrev B_draw (m : Int) : Prd := TIn fun d => 0 ≤ d ∧ d < m
theorem sput {i : Nat} {c : Int} (hc : c = 0 ∨ c = 1) {X : Int → Prop} (hp : HasPot mu p) (a : At mu G H) (hs : σ[i]? = some (some (.ref p))) (h : EvP mu te σ G (TIn X)) (hx : c = 1 → ∀ y, X y → 0 ≤ y ∧ y < 2 ^ 40) (kk : ∀ G' H', Stp mu G H G' H' → D.nx σ H') : tAsg te (gSub (tVar i) (tC (.int c)) rSetL) D σ H :=
  h G H Ex.rfl' a _ fun v G1 H1 s1 ⟨y, e, py⟩ => by
    subst e
    obtain ⟨x0, y0, h0, h1, h2⟩ := hp.get H1 s1.iv
    have a1 := a.stp s1
    rcases hc with rfl | rfl
    · exact ⟨.ref p, hs, p, _, 0, 0, rfl, rfl, h0, rfl, kk G1 _ (s1.trans (hp.stp a1 (x := y) (y := y0) h1 h2))⟩
    · obtain ⟨b1, b2⟩ := hx rfl y py
      exact ⟨.ref p, hs, p, _, 1, 1, rfl, rfl, h0, rfl, kk G1 _ (s1.trans (hp.stp a1 (x := x0) (y := y) b1 b2))⟩
theorem m_Ldraw : SemPot (t_L_draw K) n_L_draw A_draw B_draw := by
  intro mu p m us G H hp hA ⟨e, m0, m1⟩ D k
  subst e
  have tail : ∀ {G1 H1 : Hp}, Stp mu G H G1 H1 → tSeq (tAsg (tOp rModI (tCB (rInt1) (tCons (tOp rAddI (tOp rMulW (tOp (rIxL K) (tVar 0) (tC (.int 1))) (tC (.int 40014))) (tC (.int 1109))) tNil)) (tC (.int 2147483563))) (gSub (tVar 0) (tC (.int 1)) rSetL)) (tRet (tOp rModI (tCB (rInt1) (tCons (tOp rFdivW (tOp rModI (tCB (rInt1) (tCons (tOp rMulW (tOp (rIxL K) (tVar 0) (tC (.int 1))) (tOp (rIxL K) (tVar 0) (tC (.int 1)))) tNil)) (tC (.int 2147483587))) (tC (.int 21))) tNil)) (tVar 1))) D (start n_L_draw [.ref p, .int m]) H1 := by
    intro G1 H1 s1
    have a1 := hA.stp s1
    dsimp only [tSeq]
    refine sput (X := fun y => 0 ≤ y ∧ y < 2147483563) (.inr rfl) hp a1 rfl (evn_I (Q := fun j => j = 2147483563) (P := fun i => 0 ≤ i) (evn_int (evn_I0 (P := fun i => 0 ≤ i) (Q := fun j => j = 1109) (evn_I (P := fun y => 0 ≤ y ∧ y < 2 ^ 40) (Q := fun j => j = 40014) (evp_pot1 hp rfl) (evn_c rfl) (fun i j h1 h2 => by subst h2; exact bits_small (a := 41) (b := 41) (by omega) (by decide)) fun i j h1 h2 => by subst h2; omega) (evn_c rfl) fun i j h1 h2 => by subst h2; omega)) (evn_c rfl) (fun i j h1 h2 => by subst h2; decide) fun i j h1 h2 => by subst h2; omega) (fun _ y h => by omega) fun G2 H2 s2 => ?_
    dsimp only
    refine sret (D := D) (P := B_draw m) (a1.stp s2) ?_ fun v G3 H3 s3 q => k v G3 H3 ((s1.trans s2).trans s3) q
    refine evn_I (P := fun _ => True) (Q := fun j => j = m) (evn_int (evn_I (P := fun _ => True) (Q := fun j => j = 21) (evn_I (P := fun _ => True) (Q := fun j => j = 2147483587) (evn_int (evn_I (P := fun y => 0 ≤ y ∧ y < 2 ^ 40) (Q := fun y => 0 ≤ y ∧ y < 2 ^ 40) (evp_pot1 hp rfl) (evp_pot1 hp rfl) (fun i j h1 h2 => bits_small (a := 41) (b := 41) (by omega) (by omega)) fun _ _ _ _ => trivial)) (evn_c rfl) (fun i j _ h => by subst h; decide) fun _ _ _ _ => trivial) (evn_c rfl) (fun i j _ h => by subst h; exact wide_div (b := 6) (by decide) (by decide) (by decide) (by decide)) fun _ _ _ _ => trivial)) ((evp_is (v := .int m) rfl).tin rfl) (fun i j _ h => by subst h; exact m0) fun i j _ h => by
      subst h
      exact ⟨Int.emod_nonneg _ (by omega), Int.emod_lt_of_pos _ m0⟩
  refine sif (D := _) hA (A := fun _ => True) (evt_testn (evn_cmp (evp_pot0 hp rfl) (evn_c (P := fun _ => True) trivial))) (fun G1 H1 s1 _ => ?_) fun G1 H1 s1 _ => tail s1
  have a1 := hA.stp s1
  dsimp only [tSeq]
  have dm : EvP mu (tCB (rDivmod) (tCons (tOp (rIxL K) (tVar 0) (tC (.int 0))) (tCons (tVar 1) tNil))) (start n_L_draw [.ref p, .int m]) G1 (TPr (TIn fun _ => True) (B_draw m)) :=
    evp_tcb (eva_2 (evp_pot0 hp rfl) (evp_is (v := .int m) rfl)) fun vs G2 _ ⟨v, u, e, ⟨x, e1, _⟩, e2⟩ H2 a2 Q q => by
      cases e2; cases e1
      exact ⟨x, m, e, small_div m0 m1, fun l hl => q _ _ _ (a2.new (.tup [.int (x / m), .int (x % m)]) hl) ⟨l, _, _, rfl, upd_same, ⟨_, rfl, trivial⟩, _, rfl, Int.emod_nonneg _ (by omega), Int.emod_lt_of_pos _ m0⟩⟩
  refine dm G1 H1 Ex.rfl' a1 _ fun v G2 H2 s2 ⟨l, x, d, e, g, ⟨xi, ex, _⟩, hd⟩ => ?_
  subst ex
  have a2 := a1.stp s2
  obtain ⟨x0, y0, h0, h1, h2⟩ := hp.get H2 s2.iv
  have s3 := hp.stp a2 (x := xi) (y := y0) h1 h2
  refine ⟨l, _, e, sqt_at a2 g, rfl, .int xi, _, rfl, ⟨.ref p, rfl, p, _, 0, 0, rfl, rfl, h0, rfl, d, _, rfl, rfl, ?_⟩⟩
  refine sret (D := D) (P := B_draw m) (a2.stp s3) (evp_var rfl hd) fun v G4 H4 s4 q => k v G4 H4 ((s1.trans s2).trans (s3.trans s4)) q
end N640

set_option Elab.async false
set_option linter.all false
set_option maxRecDepth 100000
set_option maxHeartbeats 4000000
/-! The law's numbers from draws. -/
namespace N640
open PySem PySem.Spec PyProof.Rows L2 Gn
variable {K : PySem.W.Frag} {mu : Mu} {G H G0 H0 G' H' : Hp} {σ : L2.St} {ta tb tc te : TE} {D : Ends} {p : Addr} {τ : Type} {P Q R : Int → Prop} {S : Gn → Prop}
def TNm (S : Gn → Prop) : Prd := fun v G => ∃ z, TNum z v G ∧ S z
instance : Mono (TNm S) := ⟨fun e ⟨z, h, s⟩ => ⟨z, Mono.mono e h, s⟩⟩
theorem evn_low (ha : EvP mu ta σ G (TIn P)) (hb : EvP mu tb σ G (TIn Q)) (hc : EvP mu tc σ G (TIn R)) (k : ∀ a b c, P a → Q b → R c → 0 < c ∧ c.natAbs < 2 ^ 60 ∧ S (val a b c)) : EvP mu (tCall S_low [] E0 (tCons ta (tCons tb (tCons tc tNil)))) σ G (TNm S) := fun G1 H e a q r =>
  callE <| eva_3 ha hb hc G1 H e a _ fun vs G2 H2 s2 ⟨v, u, w, e1, ⟨x, ex, px⟩, ⟨y, ey, py⟩, ⟨z, ez, pz⟩⟩ => by
    obtain ⟨c0, cz, sz⟩ := k x y z px py pz
    exact ⟨mu, G2, TNum (val x y z), a.stp s2, ⟨val x y z, ⟨x, y, z, by rw [e1, ex, ey, ez]; rfl, c0, bn cz (by decide), rfl⟩, fun v G' e b => b⟩, fun v G' H' s b => r v G' H' (s2.trans s) ⟨_, b, sz⟩⟩
theorem evn_eq (ha : EvP mu ta σ G (TIn P)) (hb : EvP mu tb σ G (TIn Q)) : EvP mu (tOp rEq ta tb) σ G (TBn fun _ => True) :=
  evp_op ha hb fun x y G1 _ ⟨i, e1, _⟩ ⟨j, e2, _⟩ => RvP.pure (v := .bl (decide (x = y))) (fun Q H _ q => ⟨by rw [e1, e2]; rfl, q⟩) ⟨_, rfl, trivial⟩
abbrev S_draw : Sp := spP (rP A_draw B_draw)
theorem evp_draw {i m : Int} {k : Nat} (hp : HasPot mu p) (hs : σ[k]? = some (some (.ref p))) (hb : EvP mu tb σ G (TZ m)) (m0 : 0 < m) (m1 : m < 2 ^ 60) : EvP mu (tCall S_draw [] E0 (tCons (tVar k) (tCons tb tNil))) σ G (B_draw m) :=
  evp_q1 (x := m) (A := A_draw) (B := B_draw) hp (evp_is hs) hb fun u G1 _ e => ⟨by rw [show u = _ from e], m0, m1⟩
theorem evp_drawc {m : Int} {k : Nat} (hp : HasPot mu p) (hs : σ[k]? = some (some (.ref p))) (m0 : 0 < m) (m1 : m < 2 ^ 60) : EvP mu (tCall S_draw [] E0 (tCons (tVar k) (tCons (tC (.int m)) tNil))) σ G (B_draw m) := evp_draw (i := 0) hp hs evp_c m0 m1
theorem evt_draw0 {m c : Int} {k : Nat} (hp : HasPot mu p) (hs : σ[k]? = some (some (.ref p))) (m0 : 0 < m) (m1 : m < 2 ^ 60) : EvT mu (tTest (tOp rEq (tCall S_draw [] E0 (tCons (tVar k) (tCons (tC (.int m)) tNil))) (tC (.int c)))) σ G (fun _ => True) := evt_testn (evn_eq (evp_drawc hp hs m0 m1) (evn_c (P := fun _ => True) trivial))
theorem evt_draw1 {m c : Int} {k : Nat} (hp : HasPot mu p) (hs : σ[k]? = some (some (.ref p))) (m0 : 0 < m) (m1 : m < 2 ^ 60) : EvT mu (tTest (tOp rGtI (tCall S_draw [] E0 (tCons (tVar k) (tCons (tC (.int m)) tNil))) (tC (.int c)))) σ G (fun _ => True) := evt_testn (evn_cmp (evp_drawc hp hs m0 m1) (evn_c (P := fun _ => True) trivial))
/-- sixths -/
def Q6 (k : Nat) (z : Gn) : Prop := ∃ a b : Int, z = val a b 6 ∧ a.natAbs ≤ k ∧ b.natAbs ≤ k
def Q6r (k : Nat) (z : Gn) : Prop := ∃ a : Int, z = val a 0 6 ∧ a.natAbs ≤ k
theorem q6_of {a b c : Int} {k : Nat} (hc : 1 ≤ c ∧ c ≤ 3) (ha : a.natAbs ≤ k) (hb : b.natAbs ≤ k) : Q6 (6 * k) (val a b c) := by
  have : c = 1 ∨ c = 2 ∨ c = 3 := by omega
  rcases this with rfl | rfl | rfl
  · exact ⟨a * 6, b * 6, (val_scale (by decide) (by decide)).symm, by omega, by omega⟩
  · exact ⟨a * 3, b * 3, (val_scale (c := 2) (k := 3) (by decide) (by decide)).symm, by omega, by omega⟩
  · exact ⟨a * 2, b * 2, (val_scale (c := 3) (k := 2) (by decide) (by decide)).symm, by omega, by omega⟩
theorem q6r_of {a c : Int} {k : Nat} (hc : 1 ≤ c ∧ c ≤ 3) (ha : a.natAbs ≤ k) : Q6r (6 * k) (val a 0 c) := by
  have : c = 1 ∨ c = 2 ∨ c = 3 := by omega
  rcases this with rfl | rfl | rfl
  · exact ⟨a * 6, (val_scale (a := a) (b := 0) (c := 1) (k := 6) (by decide) (by decide)).symm, by omega⟩
  · exact ⟨a * 3, (val_scale (a := a) (b := 0) (c := 2) (k := 3) (by decide) (by decide)).symm, by omega⟩
  · exact ⟨a * 2, (val_scale (a := a) (b := 0) (c := 3) (k := 2) (by decide) (by decide)).symm, by omega⟩
def A_unit (_ : Unit) (us : List V) (_ : Hp) : Prop := us = []
abbrev B_number (_ : Unit) : Prd := TNm (Q6 24)
abbrev B_weight (_ : Unit) : Prd := TNm (Q6r 18)
def Wh (z : Gn) : Prop := ∃ a b : Int, z = val a b 1 ∧ a.natAbs ≤ 2 ∧ b.natAbs ≤ 1
abbrev B_whole (_ : Unit) : Prd := TNm Wh
theorem m_Lnumber : SemPot (t_L_number K S_draw S_low) n_L_number A_unit B_number := by
  intro mu p _ us G H hp hA e D k
  have e : us = [] := e
  subst e
  refine sasg (P := TIn fun b => -2 ≤ b ∧ b ≤ 2) hA (evp_if (A := fun _ => True) (evt_draw0 hp rfl (by decide) (by decide)) (fun _ => evn_I0 (Q := fun j => j = 2) (evp_drawc hp rfl (by decide) (by decide)) (evn_c rfl) fun i j h1 h2 => by subst h2; omega) fun _ => evn_c (by decide)) fun sv G1 H1 s1 p1 => ?_
  have a1 := hA.stp s1
  dsimp only
  refine sret a1 (evn_low (evn_I0 (R := fun a => -4 ≤ a ∧ a ≤ 4) (Q := fun j => j = 4) (evp_drawc hp rfl (by decide) (by decide)) (evn_c rfl) fun i j h1 h2 => by subst h2; omega) (evp_var rfl p1) (evn_I0 (R := fun c => 1 ≤ c ∧ c ≤ 3) (P := fun j => j = 1) (evn_c rfl) (evp_drawc hp rfl (by decide) (by decide)) fun i j h1 h2 => by subst h1; omega) fun a b c h1 h2 h3 => ⟨by omega, by omega, q6_of (k := 4) h3 (by omega) (by omega)⟩) fun v G2 H2 s2 q => k v G2 H2 (s1.trans s2) q
theorem m_Lweight : SemPot (t_L_weight K S_low S_draw) n_L_weight A_unit B_weight := by
  intro mu p _ us G H hp hA e D k
  have e : us = [] := e
  subst e
  exact sret hA (evn_low (Q := fun b => b = 0) (evn_I0 (R := fun c => 1 ≤ c ∧ c ≤ 3) (P := fun j => j = 1) (evn_c rfl) (evp_drawc hp rfl (by decide) (by decide)) fun i j h1 h2 => by subst h1; omega) (evn_c rfl) (evn_I0 (R := fun c => 1 ≤ c ∧ c ≤ 2) (P := fun j => j = 1) (evn_c rfl) (evp_drawc hp rfl (by decide) (by decide)) fun i j h1 h2 => by subst h1; omega) fun a b c h1 h2 h3 => by subst h2; exact ⟨by omega, by omega, q6r_of (k := 3) (by omega) (by omega)⟩) k
end N640

set_option Elab.async false
set_option linter.all false
set_option maxRecDepth 100000
set_option maxHeartbeats 4000000
/-! Rows from draws; numbers handed over. -/
namespace N640
open PySem PySem.Spec PyProof.Rows L2 Gn
variable {K : PySem.W.Frag} {mu : Mu} {G H G0 H0 G' H' : Hp} {σ : L2.St} {ta tb tc te : TE} {D : Ends} {p : Addr} {τ : Type} {P Q R : Int → Prop} {S : Gn → Prop}
theorem can1 (a b : Int) : Can a b 1 := ⟨by decide, by simp⟩
theorem num1 {a b : Int} {v : V} (h : TTr (TZ a) (TZ b) (TZ 1) v G) : TNum (val a b 1) v G := by
  obtain ⟨e1, e2, e3⟩ := g_of (can1 a b) rfl
  show TTr (TZ (gp (val a b 1))) (TZ (gs (val a b 1))) (TZ (gl (val a b 1))) v G
  rw [← e1, ← e2, ← e3]; exact h
theorem m_Lwhole : SemPot (t_L_whole K S_draw) n_L_whole A_unit B_whole := by
  intro mu p _ us G H hp hA e D k
  have e : us = [] := e
  subst e
  refine sret hA ((evp_tup3 (P1 := TIn fun a => -2 ≤ a ∧ a ≤ 2) (P2 := TIn fun b => -1 ≤ b ∧ b ≤ 1) (P3 := TZ 1) (evn_I0 (Q := fun j => j = 2) (evp_drawc hp rfl (by decide) (by decide)) (evn_c rfl) fun i j h1 h2 => by subst h2; omega) (evp_if (A := fun _ => True) (evt_draw0 hp rfl (by decide) (by decide)) (fun _ => evn_I0 (Q := fun j => j = 1) (evp_drawc hp rfl (by decide) (by decide)) (evn_c rfl) fun i j h1 h2 => by subst h2; omega) fun _ => evn_c (by decide)) evp_c).imp fun v G1 _ ⟨a, x, y, z, e1, g, ⟨i, ei, hi⟩, ⟨j, ej, hj⟩, p3⟩ => ?_) k
  exact ⟨val i j 1, num1 ⟨a, x, y, z, e1, g, ei, ej, p3⟩, i, j, rfl, by omega, by omega⟩
abbrev S_whole : Sp := spP (rP A_unit B_whole)
theorem wh0 : Wh 0 := ⟨0, 0, val_00 1 (by decide), by decide, by decide⟩
def A_row (n : Nat) (us : List V) (_ : Hp) : Prop := us = [.int (n : Int)] ∧ n ≤ 8
abbrev B_row (n : Nat) : Prd := Lof (fun _ : Nat => TNm Wh) (List.range n)
theorem evi_rn {n : Nat} {k : Nat} (hs : σ[k]? = some (some (.int (n : Int)))) (hn : n ≤ 1000) : EvI mu (iRng1 (tCons (tVar k) tNil)) σ G (List.range n) (fun i => TZ (i : Int)) :=
  evi_rng (n := n) ((eva_1 (evp_is (v := .int (n : Int)) hs)).imp fun vs G1 _ ⟨v, e, p⟩ => by rw [e, show v = _ from p]) (by omega)
theorem m_Lrow : SemPot (t_L_row K S_draw S_whole) n_L_row A_row B_row := by
  intro mu p n us G H hp hA ⟨e, hn⟩ D k
  subst e
  refine sret hA (P := B_row n) (evp_lcN (evi_rn (n := n) rfl (by omega)) (by simp; omega) (fun _ => rfl) fun i hi v G1 e1 pv G2 e2 => ?_) k
  exact evp_if (A := fun _ => True) (evt_draw1 hp rfl (by decide) (by decide)) (fun _ => evp_q0 (x := ()) (A := A_unit) (B := B_whole) hp (evp_is rfl) fun _ _ => rfl) fun _ => evp_n0z.imp fun v G3 _ q => ⟨0, q, wh0⟩
theorem row_f {n : Nat} {v : V} (h : Lof (fun _ : Nat => TNm S) (List.range n) v G) : ∃ f : Nat → Gn, TNRow n f v G ∧ ∀ j, j < n → S (f j) := by
  obtain ⟨a, vs, e, g, f⟩ := h
  have hx : ∀ j, ∃ z, j < n → (∀ u, vs[j]? = some u → TNum z u G) ∧ S z := fun j => by
    by_cases hj : j < n
    · obtain ⟨u, hu, z, pz, sz⟩ := f.at (i := j) (x := j) (by simp [hj])
      exact ⟨z, fun _ => ⟨fun u' hu' => by rw [hu] at hu'; cases hu'; exact pz, sz⟩⟩
    · exact ⟨0, fun z => absurd z hj⟩
  refine ⟨fun j => Classical.choose (hx j), ⟨a, vs, e, g, f.1, fun i u x h1 h2 => ?_⟩, fun j hj => (Classical.choose_spec (hx j) hj).2⟩
  obtain ⟨rfl, hi⟩ := range_get h2
  exact (Classical.choose_spec (hx x) hi).1 u h1
end N640

set_option Elab.async false
set_option linter.all false
set_option maxRecDepth 100000
set_option maxHeartbeats 4000000
/-! Numbers and tables handed over. -/
namespace N640
open PySem PySem.Spec PyProof.Rows L2 Gn
variable {K : PySem.W.Frag} {mu : Mu} {G H G0 H0 G' H' : Hp} {σ : L2.St} {ta tb tc te : TE} {t u : TT} {D : Ends} {p : Addr} {τ : Type} {P Q R : Int → Prop} {S : Gn → Prop}
theorem evt_andP {a : Bool} (h1 : EvT mu t σ G (· = a)) (h2 : EvT mu u σ G (fun _ => True)) : EvT mu (tAnd t u) σ G (fun b => b = true → a = true) := fun G1 H e hA Q q => h1 G1 H e hA _ fun c G2 H2 s p => by
  cases p
  cases a with
  | true => exact h2 G2 H2 (e.trans s.gg) (hA.stp s) Q fun c G3 H3 s3 p => q c G3 H3 (s.trans s3) fun _ => rfl
  | false => exact q false G2 H2 s fun z => z
abbrev S_Ltwin : Sp := spP (pR A_nO fun z => TTw z)
def A_passed (z : Gn) (us : List V) (G : Hp) : Prop := ∃ v, us = [v] ∧ TNum z v G ∧ Ok z
abbrev B_passed (z : Gn) : Prd := TVal z
theorem real_im {z : Gn} (h : gs z = 0) : z = ofR z.re := real_of (by
  rw [im_g, h]
  show ((0 : Int) : Rat) / _ = 0
  rw [show ((0 : Int) : Rat) = 0 from rfl]; grind)
theorem m_Lpassed : SemPot (t_L_passed K S_draw S_ratio S_Ltwin) n_L_passed A_passed B_passed := by
  intro mu p z us G H hp hA ⟨v, e, hv, oz⟩ D k
  subst e
  have V1 : ∀ {G1 : Hp}, Ex G G1 → EvP mu (tVar 1) (start n_L_passed [.ref p, v]) G1 (TNum z) := fun e => evp_var rfl (Mono.mono e hv)
  refine sif (D := _) hA (evt_andP (evt_test (evp_eqI (evp_n1 (V1 Ex.rfl')) evp_c)) (evt_draw0 hp rfl (by decide) (by decide))) (fun G1 H1 s1 h => ?_) fun G1 H1 s1 _ => ?_
  · have g0 : gs z = 0 := of_decide_eq_true (h rfl)
    have ez := real_im g0
    refine sret (D := _) (P := TVal z) (hA.stp s1) (evp_if (evt_andP (evt_test (evp_eqI (evp_n2 (V1 s1.gg)) evp_c)) (evt_draw0 hp rfl (by decide) (by decide))) (fun h2 => ?_) fun _ => ?_) fun v G2 H2 s2 q => k v G2 H2 (s1.trans s2) q
    · have g1 : gl z = 1 := of_decide_eq_true (h2 rfl)
      have er : z.re = ((gp z : Int) : Rat) := by
        rw [re_g, g1]
        show ((gp z : Int) : Rat) / ((1 : Int) : Rat) = _
        rw [show ((1 : Int) : Rat) = 1 from rfl]; grind
      exact (evp_n0 (V1 s1.gg)).imp fun v G2 _ q => .inr ⟨z.re, .inr ⟨gp z, q, er⟩, ez⟩
    · exact (evp_mkR (evp_n0 (V1 s1.gg)) (evp_n2 (V1 s1.gg)) (gl_ne z) (bn oz.2.2 (by decide)) (re_g z)).imp fun v G2 _ q => .inr ⟨z.re, .inl q, ez⟩
  · dsimp only [tNext, tSeq]
    exact sret (D := D) (P := TVal z) (hA.stp s1) ((evp_c1 (x := z) (A := A_nO) (B := fun z => TTw z) (V1 s1.gg) fun v G2 _ q => ⟨v, rfl, q, oz⟩).imp fun v G2 _ q => .inl q) fun v G2 H2 s2 q => k v G2 H2 (s1.trans s2) q
abbrev S_passed : Sp := spP (rP A_passed B_passed)
def A_handed (x : NM) (us : List V) (G : Hp) : Prop := ∃ v, us = [v] ∧ TNx x.n x.m v G ∧ x.sm
abbrev B_handed (x : NM) : Prd := TTab x.n x.m
theorem m_Lhanded : SemPot (t_L_handed K S_passed S_draw) n_L_handed A_handed B_handed := by
  intro mu p x us G H hp hA ⟨v, e, hv, ox⟩ D k
  subst e
  have n4 := ox.n4
  refine sasg (P := Lof (fun i => Lof (fun j => TVal (x.m i j)) (List.range x.n)) (List.range x.n)) hA (evp_lcN (evi_list (evp_var (P := TNx x.n x.m) rfl hv)) (by simp; omega) (fun _ => rfl) fun i hi w G1 e1 q G2 e2 => evp_lcN (evi_list (evp_var (P := TNRow x.n (x.m i)) rfl (Mono.mono e2 q))) (by simp; omega) (fun _ => rfl) fun j hj u G3 e3 r G4 e4 => ?_) fun f G1 H1 s1 p1 => ?_
  · exact evp_q1 (x := x.m i j) (A := A_passed) (B := B_passed) hp (evp_is rfl) (evp_var rfl (Mono.mono e4 r)) fun u G5 _ t => ⟨u, rfl, t, (ox.bd.sz (by simpa using hi) (by simpa using hj)).ok⟩
  · have a1 := hA.stp s1
    dsimp only [tSeq]
    refine sasg (P := Lof (fun i => TSq x.n (x.m i)) (List.range x.n)) a1 (evp_lcN (evi_list (evp_var (P := Lof (fun i => Lof (fun j => TVal (x.m i j)) (List.range x.n)) (List.range x.n)) rfl p1)) (by simp; omega) (fun _ => rfl) fun i hi w G2 e2 q G3 e3 => ?_) fun f2 G2 H2 s2 p2 => ?_
    · exact evp_if (A := fun _ => True) (evt_draw0 hp rfl (by decide) (by decide)) (fun _ => (evp_tuple (P := fun j => TVal (x.m i j)) (evp_var rfl (Mono.mono e3 q))).imp fun v G4 _ r => .inr r) fun _ => (evp_var (P := Lof (fun j => TVal (x.m i j)) (List.range x.n)) rfl (Mono.mono e3 q)).imp fun v G4 _ r => .inl r
    · have a2 := a1.stp s2
      dsimp only
      refine sret (P := TTab x.n x.m) a2 (evp_if (A := fun _ => True) (evt_draw0 hp rfl (by decide) (by decide)) (fun _ => (evp_tuple (P := fun i => TSq x.n (x.m i)) (evp_var rfl p2)).imp fun v G4 _ r => .inr r) fun _ => (evp_var (P := Lof (fun i => TSq x.n (x.m i)) (List.range x.n)) rfl p2).imp fun v G4 _ r => .inl r) fun v G3 H3 s3 q => k v G3 H3 ((s1.trans s2).trans s3) q
end N640

set_option Elab.async false
set_option linter.all false
set_option maxRecDepth 100000
set_option maxHeartbeats 4000000
/-! A pot is made. -/
namespace N640
open PySem PySem.Spec PyProof.Rows L2 Gn
variable {K : PySem.W.Frag} {mu : Mu} {G H G0 H0 G' H' : Hp} {σ : L2.St} {ta tb tc te : TE} {t u : TT} {D : Ends} {p : Addr} {τ : Type} {P Q R : Int → Prop} {S : Gn → Prop}
theorem SqL.ex {a : Addr} {xs : List V} (h : SqL K G a xs) (e : Ex G H) : SqL K H a xs := by
  rcases h with (h | ⟨o, h⟩) | h
  · exact .inl (.inl (e _ _ h))
  · exact .inl (.inr ⟨o, e _ _ h⟩)
  · exact .inr h
/-- the script, wherever it lies -/
def TScr (K : PySem.W.Frag) (scr : List Int) : Prd := fun v G => ∃ a, v = .ref a ∧ SqL K G a (scr.map V.int)
instance {scr : List Int} : Mono (TScr K scr) := ⟨fun e ⟨a, h, s⟩ => ⟨a, h, SqL.ex s e⟩⟩
theorem evp_lenS {scr : List Int} (h : EvP mu ta σ G (TScr K scr)) : EvP mu (tCB (rLenN K) (tCons ta tNil)) σ G (TZ (scr.length : Int)) :=
  evp_tcb (eva_1 h) fun vs G1 _ ⟨v, e, a, ev, s⟩ => RvP.pure (v := .int scr.length) (fun Q H hA q => ⟨a, _, by rw [e, ev], .inl (SqL.ex s hA.ex), by simpa using q⟩) rfl
theorem evp_ixS {scr : List Int} {i : Nat} {x : Int} (h : EvP mu ta σ G (TScr K scr)) (hb : EvP mu tb σ G (TZ (i : Int))) (hx : scr[i]? = some x) : EvP mu (tOp (rIxL K) ta tb) σ G (TZ x) :=
  evp_op h hb fun v w G1 _ ⟨a, e1, s⟩ e2 => RvP.pure (v := .int x) (fun Q H hA q => ⟨a, _, i, .int x, e1, e2, SqL.ex s hA.ex, atI_nat (by rw [List.getElem?_map, hx]; rfl), q⟩) rfl
def spPot (K : PySem.W.Frag) : Sp := fun vs H Q E => ∃ (mu : Mu) (G : Hp) (scr : List Int) (s : V) (k : Nat), vs = [s, .int (k : Int)] ∧ At mu G H ∧ TScr K scr s G ∧ k ≤ 1 ∧
  ∀ (p : Addr) (x y : Int) (G' H' : Hp), Stp mu G H G' H' → H p = none → G' p = none → ¬ mu.mt p → H' p = some (.lst [.int x, .int y]) → 0 ≤ y → y < 2 ^ 40 → Q (.ref p) H'
theorem evn_abs (ha : EvP mu ta σ G (TIn fun _ => True)) : EvP mu (tCB rAbs1 (tCons ta tNil)) σ G (TIn fun i => 0 ≤ i) :=
  evp_tcb (eva_1 ha) fun vs G1 _ ⟨v, e, i, e1, _⟩ => RvP.pure (v := .int (if i < 0 then -i else i)) (fun Q H hA q => ⟨i, by rw [e, e1], q⟩) ⟨_, rfl, by split <;> omega⟩
theorem evn_max (ha : EvP mu ta σ G (TIn P)) (hb : EvP mu tb σ G (TIn Q)) : EvP mu (tCB rMax2 (tCons ta (tCons tb tNil))) σ G (TIn fun _ => True) :=
  evp_tcb (eva_2 ha hb) fun vs G1 _ ⟨v, u, e, ⟨i, e1, _⟩, ⟨j, e2, _⟩⟩ => RvP.pure (v := .int (if j > i then j else i)) (fun Q H hA q => ⟨i, j, by rw [e, e1, e2], q⟩) ⟨_, rfl, trivial⟩
theorem retE (h : te σ H D.rt) : tRet te D σ H := h
theorem m_Lpot (vs : List V) (H : Hp) (Q : VK) (E : XK) (h : spPot K vs H Q E) (D : Ends) (hD : ∀ v H', Q v H' → D.rt v H') : t_L_pot K D (start n_L_pot vs) H := by
  obtain ⟨mu, G, scr, s, k, e, hA, hs, hk, q⟩ := h
  subst e
  refine sasg (P := TIn fun i => 0 ≤ i) hA (evp_if (A := (· = decide ((k : Int) < (scr.length : Int)))) (evt_test (evp_lt (evp_is rfl) (evp_lenS (scr := scr) (evp_var rfl hs)))) (fun ht => ?_) fun _ => ?_) fun cv G1 H1 s1 p1 => ?_
  · have ht : (k : Int) < (scr.length : Int) := of_decide_eq_true ht.symm
    have hk2 : k < scr.length := by omega
    exact evn_abs ((evp_ixS (scr := scr) (x := scr[k]) (evp_var rfl hs) (evp_is rfl) (List.getElem?_eq_getElem hk2)).imp fun v G1 _ e => ⟨_, e, trivial⟩)
  · exact (evp_add (evp_mul (a := 8) (b := 8) (evp_c (v := .int 67)) (evp_is (v := .int (k : Int)) rfl) (by decide) (by omega)) (evp_c (v := .int 41))).tin (by omega)
  · have a1 := hA.stp s1
    dsimp only
    refine retE ?_
    have hx : EvP mu (tCB rMax2 (tCons (tC (.int 0)) (tCons (tOp rSubI (tVar 2) (tOp rPowI (tC (.int 10)) (tC (.int 18)))) tNil))) [some s, some (.int (k : Int)), some cv] G1 (TIn fun _ => True) :=
      evn_max (P := fun _ => True) (Q := fun _ => True) (evn_c trivial) (evn_I0 (P := fun i => 0 ≤ i) (Q := fun _ => True) (evp_var rfl p1) ((evp_I (i := 10) (j := 18) evp_c evp_c ⟨by decide, by decide, by decide⟩).tin trivial) fun _ _ _ _ => trivial)
    have hy : EvP mu (tOp rAddI (tOp rModI (tCB (rInt1) (tCons (tOp rAddI (tOp rAddI (tOp rMulW (tOp rModI (tCB (rInt1) (tCons (tVar 2) tNil)) (tC (.int 2147483549))) (tC (.int 39163))) (tOp rMulW (tC (.int 4021)) (tVar 1))) (tC (.int 47))) tNil)) (tC (.int 2147483563))) (tC (.int 1))) [some s, some (.int (k : Int)), some cv] G1 (TIn fun y => 0 ≤ y ∧ y < 2 ^ 40) :=
      evn_I0 (P := fun y => 0 ≤ y ∧ y < 2147483563) (Q := fun j => j = 1) (evn_I (P := fun _ => True) (Q := fun j => j = 2147483563) (evn_int (evn_I0 (P := fun _ => True) (Q := fun j => j = 47) (evn_I0 (P := fun _ => True) (Q := fun _ => True) (evn_I (P := fun i => 0 ≤ i ∧ i < 2147483549) (Q := fun j => j = 39163) (evn_I (P := fun i => 0 ≤ i) (Q := fun j => j = 2147483549) (evn_int (evp_var rfl p1)) (evn_c rfl) (fun i j _ h => by subst h; decide) fun i j _ h => by subst h; omega) (evn_c rfl) (fun i j h1 h2 => by subst h2; exact bits_small (a := 41) (b := 41) (by omega) (by decide)) fun _ _ _ _ => trivial) ((evp_mul (a := 20) (b := 8) (evp_c (v := .int 4021)) (evp_is (v := .int (k : Int)) rfl) (by decide) (by omega)).tin trivial) fun _ _ _ _ => trivial) (evn_c rfl) fun _ _ _ _ => trivial)) (evn_c rfl) (fun i j _ h => by subst h; decide) fun i j _ h => by subst h; omega) (evn_c rfl) fun i j h1 h2 => by subst h2; omega
    refine eva_2 hx hy G1 H1 Ex.rfl' a1 _ fun vs G2 H2 s2 ⟨v, u, e, ⟨x, e1, _⟩, ⟨y, e2, b1, b2⟩⟩ => ?_
    subst e; subst e1; subst e2
    refine ⟨Nat.le_of_lt (small1000 (by show 2 ≤ 1000; decide)), fun f hf => hD _ _ (q f x y G2 _ ((s1.trans s2).trans ((a1.stp s2).hid _ hf)) ?_ ((a1.stp s2).gnone hf) ((a1.stp s2).fresh hf) upd_same b1 b2)⟩
    cases hq : H f with
    | none => rfl
    | some o => exact absurd hf ((s1.trans s2).lv f (by rw [hq]; intro z; cases z))
end N640

set_option Elab.async false
set_option linter.all false
set_option maxRecDepth 100000
set_option maxHeartbeats 4000000
/-! Tables made of squares. -/
namespace N640
open PySem PySem.Spec PyProof.Rows L2 Gn
variable {K : PySem.W.Frag} {mu : Mu} {G H G0 H0 G' H' : Hp} {σ : L2.St} {ta tb tc te : TE} {D : Ends} {p : Addr} {τ : Type} {P Q R : Int → Prop} {S : Gn → Prop}
structure MD where
  n : Nat
  m : Nat
  w : Nat → Gn
  r : Nat → Nat → Gn
structure MD.ok (x : MD) : Prop where
  n4 : x.n ≤ 4
  m4 : x.m ≤ 4
  w : ∀ s, s < x.m → Q6r 18 (x.w s)
  r : ∀ s, s < x.m → ∀ i, i < x.n → Wh (x.r s i)
def MD.t (x : MD) (i j s : Nat) : Gn := x.w s * (x.r s i * conj (x.r s j))
def MD.M (x : MD) : Mx := fun i j => sm (List.range x.m) (x.t i j)
def A_made (x : MD) (vs : List V) (G : Hp) : Prop := ∃ v, vs = [.int (x.n : Int), v] ∧ Lof (fun s => TPr (TNum (x.w s)) (TNRow x.n (x.r s))) (List.range x.m) v G ∧ x.ok
abbrev B_made (x : MD) : Prd := TNx x.n x.M
abbrev S_lsum : Sp := spP (pR A_lsum B_lsum)
theorem sz_q6r {z : Gn} (h : Q6r 18 z) : Sz 5 z := by
  obtain ⟨a, e, ha⟩ := h
  exact Sz.of (by decide : (0 : Int) < 6) e.symm (Nat.lt_of_le_of_lt ha (by decide)) (by decide) (by decide)
theorem sz_wh {z : Gn} (h : Wh z) : Sz 2 z := by
  obtain ⟨a, b, e, ha, hb⟩ := h
  exact Sz.of (by decide : (0 : Int) < 1) e.symm (Nat.lt_of_le_of_lt ha (by decide)) (Nat.lt_of_le_of_lt hb (by decide)) (by decide)
theorem MD.ok.szt {x : MD} (o : x.ok) {i j s : Nat} (hi : i < x.n) (hj : j < x.n) (hs : s < x.m) : Sz 5 (x.r s i * conj (x.r s j)) ∧ Sz 11 (x.t i j s) := by
  have a := (sz_wh (o.r s hs i hi)).mul (sz_wh (o.r s hs j hj)).conj (k := 5) (by decide)
  exact ⟨a, (sz_q6r (o.w s hs)).mul a (by decide)⟩
theorem MD.ok.szs {x : MD} (o : x.ok) {i j : Nat} (hi : i < x.n) (hj : j < x.n) : ∀ k, k ≤ x.m → Sz (12 * k + 1) (sm (List.range k) (x.t i j)) := by
  intro k
  induction k with
  | zero => intro _; exact sz0
  | succ k ih =>
    intro hk
    rw [List.range_succ, sm_append]
    have e0 : sm [k] (x.t i j) = x.t i j k := by show x.t i j k + 0 = _; grind
    rw [e0]
    exact (ih (by omega)).add (o.szt hi hj (by omega)).2 (by omega)
theorem m_Lmade : SemP (t_L_made K S_lsum S_nmul S_nconj) n_L_made A_made B_made := by
  intro mu x vs G H hA ⟨v, e, hv, o⟩ D k
  subst e
  have n4 := o.n4
  have m4 := o.m4
  refine shid hA fun f H1 s1 hd1 a1 => ?_
  dsimp only [tSeq]
  refine sfor (xs := List.range x.n) (PI := fun i : Nat => TZ (i : Int)) a1 (by exact evi_rn (n := x.n) rfl (by omega)) fun Gs Hs s2 => ⟨fun i σ' G' H' => ∃ (acc : List V) (c3 c4 c5 c6 : Option V), σ' = [some (.int (x.n : Int)), some v, some (.ref f), c3, c4, c5, c6] ∧ Stp mu G H G' H' ∧ Hd mu H f acc G' H' ∧ Vof (fun i => TNRow x.n (x.M i)) ((List.range x.n).take i) acc G',
    ⟨[], none, none, none, none, rfl, s1.trans s2, hd1.rel s2, Vof.nil⟩, fun i y w σ1 G4 H4 G5 H5 hy e4 a4 ⟨acc, c3, c4, c5, c6, es, s4, hd4, f4⟩ s5 pw => ?_, fun σ1 G4 H4 e4 a4 ⟨acc, c3, c4, c5, c6, es, s4, hd4, f4⟩ => ?_⟩
  · subst es
    obtain ⟨rfl, hi⟩ := range_get hy
    have pw : w = .int (y : Int) := pw
    subst pw
    have s45 := s4.trans s5
    have hv5 := Mono.mono s45.gg hv
    refine sapp (P := TNRow x.n (x.M y)) hA s45 (hd4.rel s5) rfl ?_ (by rw [f4.1]; simp; omega) fun u Gb Hb sb hb pb eb => ⟨Gb, e4.trans (s5.gg.trans eb), hA.stp sb, acc ++ [u], some (.int (y : Int)), c4, c5, c6, rfl, sb, hb, ?_⟩
    · refine evp_lcN (evi_rn (n := x.n) rfl (by omega)) (by simp; omega) (fun _ => rfl) fun j hj w G6 e6 pw G7 e7 => ?_
      cases pw
      have hj : j < x.n := by simpa using hj
      refine evp_c1 (P1 := Lof (fun s => TNum (x.t y j s)) (List.range x.m)) (x := (⟨List.range x.m, x.t y j⟩ : LS)) (A := A_lsum) (B := B_lsum) (evp_lcP (A := fun s => TNum (x.w s)) (B := fun s => TNRow x.n (x.r s)) (evi_list (evp_var (P := Lof (fun s => TPr (TNum (x.w s)) (TNRow x.n (x.r s))) (List.range x.m)) rfl (Mono.mono (e6.trans e7) hv5))) (by simp; omega) (fun _ _ => rfl) fun s hs v1 v2 G8 e8 q1 q2 G9 e9 => ?_) fun u G8 _ q => ⟨u, rfl, q, fun s hs => ?_, fun k hk => ?_⟩
      · have hs : s < x.m := by simpa using hs
        have q2' : TNRow x.n (x.r s) v2 G9 := Mono.mono e9 q2
        exact evp_nmul (evp_var (P := TNum (x.w s)) rfl (Mono.mono e9 q1)) (evp_nmul (evp_nat (evp_var (P := TNRow x.n (x.r s)) rfl q2') (evp_is rfl) hi) (evp_nconj (evp_nat (evp_var (P := TNRow x.n (x.r s)) rfl q2') (evp_is rfl) hj)) (sz_wh (o.r s hs y hi)).ok (sz_wh (o.r s hs j hj)).conj.ok) (sz_q6r (o.w s hs)).ok (o.szt hi hj hs).1.ok
      · exact (o.szt hi hj (by simpa using hs)).2.ok
      · have hk : k ≤ x.m := by simpa using hk
        show Ok (sm ((List.range x.m).take k) (x.t y j))
        rw [List.take_range, Nat.min_eq_left hk]
        exact (o.szs hi hj k hk).mono (by omega)
    · rw [take_succ_get hy]
      exact Vof.snoc (f4.mono (s5.gg.trans eb)) pb
  · subst es
    rw [List.take_length] at f4
    obtain ⟨st, et⟩ := hd4.tell hA s4
    exact sret (hA.stp st) (evp_var (P := B_made x) (v := .ref f) rfl ⟨f, acc, rfl, upd_same, f4.mono et⟩) fun v G9 H9 s9 p9 => k v G9 H9 (st.trans s9) p9
end N640

set_option Elab.async false
set_option linter.all false
set_option maxRecDepth 100000
set_option maxHeartbeats 4000000
/-! Tables made of squares: plain facts. -/
namespace N640
open PySem PySem.Spec PyProof.Rows L2 Gn
theorem q6r_conj {k : Nat} {z : Gn} (h : Q6r k z) : conj z = z := by
  obtain ⟨a, e, _⟩ := h
  rw [e, val_conj]; rfl
theorem MD.ok.her {x : MD} (o : x.ok) : Her x.M (List.range x.n) := fun i _ j _ => by
  show sm (List.range x.m) (x.t j i) = conj (sm (List.range x.m) (x.t i j))
  rw [sm_conj]
  refine sm_congr fun s hs => ?_
  have hs : s < x.m := by simpa using hs
  unfold MD.t
  rw [conj_mul, conj_mul, conj_conj, q6r_conj (o.w s hs)]
  grind
theorem q6_t {x : MD} (o : x.ok) {i j s : Nat} (hi : i < x.n) (hj : j < x.n) (hs : s < x.m) : Q6 90 (x.t i j s) := by
  obtain ⟨a, ea, ha⟩ := o.w s hs
  obtain ⟨p, q, ep, hp, hq⟩ := o.r s hs i hi
  obtain ⟨p', q', ep', hp', hq'⟩ := o.r s hs j hj
  refine ⟨a * (p * p' + q * q'), a * (q * p' - p * q'), ?_, ?_, ?_⟩
  · unfold MD.t
    rw [ea, ep, ep', val_conj, val_mul (by decide) (by decide), val_mul (by decide) (by decide)]
    congr 1 <;> grind
  · rw [Int.natAbs_mul]
    have h1 : (p * p').natAbs ≤ 4 := by rw [Int.natAbs_mul]; exact Nat.mul_le_mul hp hp'
    have h2 : (q * q').natAbs ≤ 1 := by rw [Int.natAbs_mul]; exact Nat.mul_le_mul hq hq'
    exact Nat.le_trans (Nat.mul_le_mul ha (show (p * p' + q * q').natAbs ≤ 5 by omega)) (by decide)
  · rw [Int.natAbs_mul]
    have h1 : (q * p').natAbs ≤ 2 := by rw [Int.natAbs_mul]; exact Nat.mul_le_mul hq hp'
    have h2 : (p * q').natAbs ≤ 2 := by rw [Int.natAbs_mul]; exact Nat.mul_le_mul hp hq'
    exact Nat.le_trans (Nat.mul_le_mul ha (show (q * p' - p * q').natAbs ≤ 5 by omega)) (by decide)
theorem q6_sum {f : Nat → Gn} {k : Nat} : ∀ m, (∀ s, s < m → Q6 k (f s)) → Q6 (m * k) (sm (List.range m) f)
  | 0, _ => ⟨0, 0, val_00 6 (by decide), by simp, by simp⟩
  | m + 1, h => by
    obtain ⟨a, b, e, ha, hb⟩ := q6_sum m fun s hs => h s (by omega)
    obtain ⟨a', b', e', ha', hb'⟩ := h m (by omega)
    refine ⟨a + a', b + b', ?_, by rw [Nat.succ_mul]; omega, by rw [Nat.succ_mul]; omega⟩
    rw [List.range_succ, sm_append, e]
    have e0 : sm [m] f = f m := by show f m + 0 = _; grind
    rw [e0, e', val_same]
theorem bd_q6 {n k : Nat} {M : Mx} (hk : k < 512) (h : ∀ i, i < n → ∀ j, j < n → Q6 k (M i j)) : Bd 9 n M :=
  ⟨6, by decide, by decide, fun i hi j hj => by
    obtain ⟨a, b, e, ha, hb⟩ := h i hi j hj
    exact ⟨a, b, e, Nat.lt_of_le_of_lt ha (by omega), Nat.lt_of_le_of_lt hb (by omega)⟩⟩
theorem MD.ok.q6 {x : MD} (o : x.ok) : ∀ i, i < x.n → ∀ j, j < x.n → Q6 360 (x.M i j) := fun i hi j hj => by
  obtain ⟨a, b, e, ha, hb⟩ := q6_sum x.m fun s hs => q6_t o hi hj hs
  have : x.m * 90 ≤ 360 := by have := o.m4; omega
  exact ⟨a, b, e, by omega, by omega⟩
theorem MD.ok.sm {x : MD} (o : x.ok) (h : 1 ≤ x.n) : (⟨x.n, x.M⟩ : NM).sm := ⟨h, o.n4, o.her, bd_q6 (by decide) o.q6⟩
/-- a table as the law makes it -/
structure Tb (n : Nat) (M : Mx) : Prop where
  her : Her M (List.range n)
  q : ∀ i, i < n → ∀ j, j < n → Q6 360 (M i j)
theorem Tb.sm {n : Nat} {M : Mx} (h : Tb n M) (h1 : 1 ≤ n) (h4 : n ≤ 4) : (⟨n, M⟩ : NM).sm := ⟨h1, h4, h.her, bd_q6 (by decide) h.q⟩
theorem MD.ok.tb {x : MD} (o : x.ok) : Tb x.n x.M := ⟨o.her, o.q6⟩
end N640

set_option Elab.async false
set_option linter.all false
set_option maxRecDepth 100000
set_option maxHeartbeats 4000000
/-! Tables from draws. -/
namespace N640
open PySem PySem.Spec PyProof.Rows L2 Gn
variable {K : PySem.W.Frag} {mu : Mu} {G H G0 H0 G' H' : Hp} {σ : L2.St} {ta tb tc te : TE} {D : Ends} {p : Addr} {τ : Type} {P Q R : Int → Prop} {S : Gn → Prop}
theorem lcE {g : TG} {tt : TT} {vs : List Nat} {Q : VK} (h : ta σ H fun v H1 => tLc (iRng1 (tCons (tC v) tNil)) g tt te vs σ H1 Q) : tLc (iRng1 (tCons ta tNil)) g tt te vs σ H Q := h
theorem forE {g : TG} {tu : TS} (h : ta σ H fun v H1 => tFor (iRng1 (tCons (tC v) tNil)) g tu D σ H1) : tFor (iRng1 (tCons ta tNil)) g tu D σ H := h
def TTb (n : Nat) : Prd := fun v G => ∃ M, TNx n M v G ∧ Tb n M
instance {n : Nat} : Mono (TTb n) := ⟨fun e ⟨M, h, t⟩ => ⟨M, Mono.mono e h, t⟩⟩
theorem pair_f {n m : Nat} {v : V} (h : Lof (fun _ : Nat => TPr (TNm S) (B_row n)) (List.range m) v G) : ∃ (w : Nat → Gn) (r : Nat → Nat → Gn), Lof (fun s => TPr (TNum (w s)) (TNRow n (r s))) (List.range m) v G ∧ (∀ s, s < m → S (w s)) ∧ ∀ s, s < m → ∀ j, j < n → Wh (r s j) := by
  obtain ⟨a, vs, e, g, f⟩ := h
  have hx : ∀ s, ∃ y : Gn × (Nat → Gn), s < m → (∀ u, vs[s]? = some u → TPr (TNum y.1) (TNRow n y.2) u G) ∧ S y.1 ∧ ∀ j, j < n → Wh (y.2 j) := fun s => by
    by_cases hs : s < m
    · obtain ⟨u, hu, b, x1, x2, eu, gu, ⟨z, pz, sz⟩, pr⟩ := f.at (i := s) (x := s) (by simp [hs])
      obtain ⟨ff, pf, hf⟩ := row_f pr
      exact ⟨(z, ff), fun _ => ⟨fun u' hu' => by rw [hu] at hu'; cases hu'; exact ⟨b, x1, x2, eu, gu, pz, pf⟩, sz, hf⟩⟩
    · exact ⟨(0, fun _ => 0), fun z => absurd z hs⟩
  refine ⟨fun s => (Classical.choose (hx s)).1, fun s => (Classical.choose (hx s)).2, ⟨a, vs, e, g, f.1, fun i u x h1 h2 => ?_⟩, fun s hs => (Classical.choose_spec (hx s) hs).2.1, fun s hs => (Classical.choose_spec (hx s) hs).2.2⟩
  obtain ⟨rfl, hi⟩ := range_get h2
  exact (Classical.choose_spec (hx x) hi).1 u h1
abbrev S_made : Sp := spP (pR A_made B_made)
abbrev S_weight : Sp := spP (rP A_unit B_weight)
abbrev S_row : Sp := spP (rP A_row B_row)
def TSs (n : Nat) : Prd := fun v G => ∃ m, m ≤ 4 ∧ Lof (fun _ : Nat => TPr (TNm (Q6r 18)) (B_row n)) (List.range m) v G
instance {n : Nat} : Mono (TSs n) := ⟨fun e ⟨m, h, t⟩ => ⟨m, h, Mono.mono e t⟩⟩
theorem evp_made {n : Nat} (ha : EvP mu ta σ G (TZ (n : Int))) (hb : EvP mu tb σ G (TSs n)) (n4 : n ≤ 4) : EvP mu (tCall S_made [] E0 (tCons ta (tCons tb tNil))) σ G (TTb n) := fun G1 H e a q r =>
  callE <| eva_2 ha hb G1 H e a _ fun vs G2 H2 s2 ⟨v, u, e1, e2, m, m4, h2⟩ => by
    cases e2
    obtain ⟨w, rr, hl, hw, hr⟩ := pair_f h2
    have ok : (⟨n, m, w, rr⟩ : MD).ok := ⟨n4, m4, hw, hr⟩
    exact ⟨mu, G2, B_made ⟨n, m, w, rr⟩, a.stp s2, ⟨⟨n, m, w, rr⟩, ⟨u, by rw [e1]; rfl, hl, ok⟩, fun v G' e b => b⟩, fun v G' H' s b => r v G' H' (s2.trans s) ⟨_, b, ok.tb⟩⟩
def A_above (n : Nat) (us : List V) (_ : Hp) : Prop := us = [.int (n : Int), .int 3] ∧ n ≤ 4
theorem m_Labove : SemPot (t_L_above K S_made S_draw S_row S_weight) n_L_above A_above TTb := by
  intro mu p n us G H hp hA ⟨e, hn⟩ D k
  subst e
  have hd : EvP mu (tCall S_draw [] E0 (tCons (tVar 0) (tCons (tOp rAddI (tVar 2) (tC (.int 1))) tNil))) (start n_L_above [.ref p, .int (n : Int), .int 3]) G (B_draw 4) := evp_draw (i := 0) hp rfl (evp_add (evp_is (v := .int 3) rfl) evp_c) (by decide) (by decide)
  refine sret hA (evp_made (evp_is rfl) (fun G1 H1 e a Q q => lcE (hd G1 H1 e a _ fun v G2 H2 s2 ⟨d, ev, d0, d4⟩ => ?_)) hn) k
  subst ev
  obtain ⟨m, rfl⟩ := Int.eq_ofNat_of_zero_le d0
  refine (evp_lcN (P := fun _ : Nat => TPr (TNm (Q6r 18)) (B_row n)) (xs := List.range m) (evi_rng (n := m) ((eva_1 (evp_c (v := .int (m : Int)))).imp fun vs G1 _ ⟨v, e, p⟩ => by rw [e, show v = _ from p]) (by omega)) (by simp; omega) (fun _ => rfl) fun i hi w G3 e3 pw G4 e4 => evp_tup2 (evp_q0 (x := ()) (A := A_unit) (B := B_weight) hp (evp_is rfl) fun _ _ => rfl) (evp_q1 (x := n) (A := A_row) (B := B_row) hp (evp_is rfl) (evp_is (v := .int (n : Int)) rfl) fun u G5 _ e => ⟨by rw [show u = _ from e], by omega⟩)) G2 H2 Ex.rfl' (a.stp s2) Q fun v G3 H3 s3 p => q v G3 H3 (s2.trans s3) ⟨m, by omega, p⟩
end N640

set_option Elab.async false
set_option linter.all false
set_option maxRecDepth 100000
set_option maxHeartbeats 4000000
/-! A table grows by a row. -/
namespace N640
open PySem PySem.Spec PyProof.Rows L2 Gn
section
variable {α δ : Type} {K : PySem.W.Frag} {mu : Mu} {G H : Hp} {σ : L2.St} {ta tb : TE} {P : α → Prd} {P' : δ → α → Prd} {S : δ → Prop}
theorem evp_ctx [∀ x, Mono (P x)] {xs : List α} (h : EvP mu ta σ G (fun v G => ∃ d, S d ∧ Lof (P' d) xs v G)) (i : ∀ d, S d → ∀ x, x ∈ xs → ∀ v G, P' d x v G → P x v G) : EvP mu ta σ G (Lof P xs) :=
  h.imp fun v G1 _ ⟨d, s, p⟩ => p.imp fun x hx v q => i d s x hx v G1 q
theorem evp_catE [∀ d x, Mono (P' d x)] [∀ x, Mono (P x)] {xs ys : List α} (h : EvP mu ta σ G (Lof P xs)) (h2 : EvP mu tb σ G (fun v G => ∃ d, S d ∧ Lof (P' d) ys v G)) (hl : xs.length + ys.length ≤ 1000) (i : ∀ d, S d → ∀ x, x ∈ xs → ∀ v G, P x v G → P' d x v G) :
    EvP mu (tOp rCat ta tb) σ G (fun v G => ∃ d, S d ∧ Lof (P' d) (xs ++ ys) v G) := fun G1 H1 e a Q q =>
  h G1 H1 e a _ fun v G2 H2 s2 p => h2 G2 H2 (e.trans s2.gg) (a.stp s2) _ fun u G3 H3 s3 ⟨d, sd, r⟩ => by
    have p3 : Lof (P' d) xs v G3 := (Mono.mono s3.gg p).imp fun x hx v q => i d sd x hx v G3 q
    have c := evp_cat (mu := mu) (σ := []) (G := G3) (ta := tC v) (tb := tC u) (P := P' d) (xs := xs) (ys := ys) (evp_cP fun G4 e => Mono.mono e p3) (evp_cP fun G4 e => Mono.mono e r) hl
    exact c G3 H3 Ex.rfl' ((a.stp s2).stp s3) Q fun w G4 H4 s4 z => q w G4 H4 ((s2.trans s3).trans s4) ⟨d, sd, z⟩
end
end N640

set_option Elab.async false
set_option linter.all false
set_option maxRecDepth 100000
set_option maxHeartbeats 4000000
/-! A table grows by a row: the walk. -/
namespace N640
open PySem PySem.Spec PyProof.Rows L2 Gn
variable {K : PySem.W.Frag} {mu : Mu} {G H G0 H0 G' H' : Hp} {σ : L2.St} {ta tb tc te : TE} {D : Ends} {p : Addr} {δ : Type}
theorem lstE {Q : VK} (h : ta σ H fun v H1 => tLst (tCons (tC v) tNil) σ H1 Q) : tLst (tCons ta tNil) σ H Q := h
theorem evp_lstX {α : Type} {x : α} {P' : δ → α → Prd} [∀ d x, Mono (P' d x)] {S : δ → Prop} (h : EvP mu ta σ G (fun v G => ∃ d, S d ∧ P' d x v G)) : EvP mu (tLst (tCons ta tNil)) σ G (fun v G => ∃ d, S d ∧ Lof (P' d) [x] v G) := fun G1 H1 e a Q q =>
  lstE <| h G1 H1 e a _ fun v G2 H2 s2 ⟨d, sd, p⟩ => evp_lst1 (mu := mu) (σ := σ) (G := G2) (ta := tC v) (P := P' d) (x := x) (evp_cP fun G4 e => Mono.mono e p) G2 H2 Ex.rfl' (a.stp s2) Q fun w G4 H4 s4 z => q w G4 H4 (s2.trans s4) ⟨d, sd, z⟩
def gm (M : Mx) (c : Nat → Gn) (d : Gn) (n : Nat) : Mx := fun i j => if i < n then (if j < n then M i j else c i) else (if j < n then conj (c j) else d)
theorem tb_gm {M : Mx} {c : Nat → Gn} {d : Gn} {n : Nat} (h : Tb n M) (hc : ∀ j, j < n → Q6 24 (c j)) (hd : Q6r 60 d) : Tb (n + 1) (gm M c d n) := by
  refine ⟨fun i hi j hj => ?_, fun i hi j hj => ?_⟩
  · unfold gm
    by_cases h1 : i < n <;> by_cases h2 : j < n <;> simp only [h1, h2, if_true, if_false]
    · exact h.her i (by simpa using h1) j (by simpa using h2)
    · exact (conj_conj _).symm
    · exact (q6r_conj hd).symm
  · unfold gm
    have cc : ∀ {z : Gn}, Q6 24 z → Q6 360 z ∧ Q6 360 (conj z) := fun ⟨a, b, e, ha, hb⟩ => ⟨⟨a, b, e, by omega, by omega⟩, a, 0 - b, by rw [e, val_conj], by omega, by omega⟩
    by_cases h1 : i < n <;> by_cases h2 : j < n <;> simp only [h1, h2, if_true, if_false]
    · exact h.q i h1 j h2
    · exact (cc (hc i h1)).1
    · exact (cc (hc j h2)).2
    · obtain ⟨a, e, ha⟩ := hd
      exact ⟨a, 0, e, by omega, by decide⟩
abbrev S_number : Sp := spP (rP A_unit B_number)
def A_grown (n : Nat) (us : List V) (G : Hp) : Prop := ∃ v, us = [v] ∧ TTb n v G ∧ n ≤ 3
abbrev B_grown (n : Nat) : Prd := TTb (n + 1)
theorem m_Lgrown : SemPot (t_L_grown K S_draw S_number S_nconj S_low) n_L_grown A_grown B_grown := by
  intro mu p n us G H hp hA ⟨v, e, ⟨M, hv, tb⟩, hn⟩ D k
  subst e
  refine sasg (P := TZ (n : Int)) hA (evp_to (evp_len (P := fun i => TNRow n (M i)) (evp_var (P := Sof (fun i => TNRow n (M i)) (List.range n)) rfl (.inl hv))) (by simp)) fun nv G1 H1 s1 p1 => ?_
  cases p1
  have a1 := hA.stp s1
  dsimp only [tSeq]
  refine sasg (P := Lof (fun _ : Nat => TNm (Q6 24)) (List.range n)) a1 (evp_lcN (evi_rn (n := n) rfl (by omega)) (by simp; omega) (fun _ => rfl) fun i hi w G2 e2 pw G3 e3 => ?_) fun cv G2 H2 s2 p2 => ?_
  · exact evp_if (A := fun _ => True) (evt_draw1 hp rfl (by decide) (by decide)) (fun _ => evp_q0 (x := ()) (A := A_unit) (B := B_number) hp (evp_is rfl) fun _ _ => rfl) fun _ => evp_n0z.imp fun v G4 _ q => ⟨0, q, 0, 0, val_00 6 (by decide), by decide, by decide⟩
  · obtain ⟨c, pc, hc⟩ := row_f p2
    have a2 := a1.stp s2
    have hv2 := Mono.mono (s1.gg.trans s2.gg) hv
    dsimp only [tSeq]
    refine sasg (P := Lof (fun i => TNRow (n + 1) (gm M c 0 n i)) (List.range n)) a2 (evp_lcN (evi_rn (n := n) rfl (by omega)) (by simp; omega) (fun _ => rfl) fun i hi w G3 e3 pw G4 e4 => ?_) fun fv G3 H3 s3 p3 => ?_
    · cases pw
      have hi : i < n := by simpa using hi
      show EvP mu _ _ G4 (Lof (fun j => TNum (gm M c 0 n i j)) (List.range (n + 1)))
      rw [List.range_succ]
      refine evp_cat ((evp_nrow (evp_var (P := TNx n M) rfl (Mono.mono (e3.trans e4) hv2)) (evp_is rfl) hi).imp fun v G5 _ q => q.imp fun j hj u r => ?_) (evp_lst1 (P := fun j => TNum (gm M c 0 n i j)) (x := n) ?_) (by simp; omega)
      · have hj : j < n := by simpa using hj
        show TNum (gm M c 0 n i j) u G5
        unfold gm; rw [if_pos hi, if_pos hj]; exact r
      · have : gm M c 0 n i n = c i := by unfold gm; rw [if_pos hi, if_neg (Nat.lt_irrefl n)]
        show EvP mu _ _ G4 (TNum (gm M c 0 n i n))
        rw [this]
        exact evp_nat (evp_var (P := TNRow n c) rfl (Mono.mono (e3.trans e4) pc)) (evp_is rfl) hi
    · have a3 := a2.stp s3
      have pc3 := Mono.mono s3.gg pc
      dsimp only
      refine sret (P := TTb (n + 1)) a3 ((evp_catE (P := fun i => TNRow (n + 1) (gm M c 0 n i)) (P' := fun d i => TNRow (n + 1) (gm M c d n i)) (S := Q6r 60) (xs := List.range n) (ys := [n]) (evp_var rfl p3) (evp_lstX (P' := fun d i => TNRow (n + 1) (gm M c d n i)) ?_) (by simp; omega) fun d sd i hi v G q => ?_).imp fun v G4 _ ⟨d, sd, q⟩ => ⟨gm M c d n, by show Lof _ (List.range (n + 1)) v G4; rw [List.range_succ]; exact q, tb_gm tb hc sd⟩) fun v G4 H4 s4 q => k v G4 H4 (((s1.trans s2).trans s3).trans s4) q
      · refine (evp_catE (P := fun j => TNum (conj (c j))) (P' := fun d j => TNum (gm M c d n n j)) (S := Q6r 60) (xs := List.range n) (ys := [n]) (evp_lcN (evi_list (evp_var (P := TNRow n c) rfl pc3)) (by simp; omega) (fun _ => rfl) fun j hj w G5 e5 pw G6 e6 => evp_nconj (evp_var rfl (Mono.mono e6 pw))) (evp_lstX (P' := fun d j => TNum (gm M c d n n j)) ((evn_low (S := Q6r 60) (P := fun a => -1 ≤ a ∧ a ≤ 10) (Q := fun b => b = 0) (R := fun c => 1 ≤ c ∧ c ≤ 2) (evn_I0 (Q := fun j => j = 1) (evp_drawc hp rfl (by decide) (by decide)) (evn_c rfl) fun i j h1 h2 => by subst h2; omega) (evn_c rfl) (evn_I0 (P := fun j => j = 1) (evn_c rfl) (evp_drawc hp rfl (by decide) (by decide)) fun i j h1 h2 => by subst h1; omega) fun a b c h1 h2 h3 => by subst h2; exact ⟨by omega, by omega, q6r_of (k := 10) (by omega) (by omega)⟩).imp fun v G5 _ ⟨d, q, sd⟩ => ⟨d, sd, ?_⟩)) (by simp; omega) fun d sd j hj v G q => ?_).imp fun v G5 _ ⟨d, sd, q⟩ => ⟨d, sd, by show Lof _ (List.range (n + 1)) v G5; rw [List.range_succ]; exact q⟩
        · show TNum (gm M c d n n n) v G5
          unfold gm; rw [if_neg (Nat.lt_irrefl n), if_neg (Nat.lt_irrefl n)]; exact q
        · have hj : j < n := by simpa using hj
          show TNum (gm M c d n n j) v G
          unfold gm; rw [if_neg (Nat.lt_irrefl n), if_pos hj]; exact q
      · have hi : i < n := by simpa using hi
        refine q.imp fun j hj u r => ?_
        show TNum (gm M c d n i j) u G
        have : gm M c d n i j = gm M c 0 n i j := by unfold gm; rw [if_pos hi, if_pos hi]
        rw [this]; exact r
end N640

set_option Elab.async false
set_option linter.all false
set_option maxRecDepth 100000
set_option maxHeartbeats 4000000
/-! Choices and minors. -/
namespace N640
open PySem PySem.Spec PyProof.Rows L2 Gn
theorem sub_one {I : List Nat} {n : Nat} : I.Sublist [n] ↔ I = [] ∨ I = [n] := by
  constructor
  · intro h
    cases I with
    | nil => exact .inl rfl
    | cons a t =>
      have hl := h.length_le
      have : t = [] := List.length_eq_zero_iff.mp (by simp at hl; exact hl ▸ rfl)
      subst this
      have := h.subset (List.mem_cons_self)
      simp at this
      exact .inr (by rw [this])
  · rintro (rfl | rfl)
    · exact List.nil_sublist _
    · exact List.Sublist.refl _
theorem chs_sub : ∀ (n : Nat) (I : List Nat), I ∈ chs n ↔ I.Sublist (List.range n)
  | 0, I => by simp [chs]
  | n + 1, I => by
    rw [List.range_succ, List.sublist_append_iff]
    show I ∈ chs n ++ (chs n).map (· ++ [n]) ↔ _
    rw [List.mem_append, List.mem_map]
    constructor
    · rintro (h | ⟨J, h, rfl⟩)
      · exact ⟨I, [], by simp, (chs_sub n I).mp h, List.nil_sublist _⟩
      · exact ⟨J, [n], rfl, (chs_sub n J).mp h, List.Sublist.refl _⟩
    · rintro ⟨a, b, rfl, ha, hb⟩
      rcases sub_one.mp hb with rfl | rfl
      · exact .inl (by rw [List.append_nil]; exact (chs_sub n a).mpr ha)
      · exact .inr ⟨a, (chs_sub n a).mpr ha, rfl⟩
def chn (n : Nat) : List (List Nat) := (chs n).drop 1
theorem chn_mem {n : Nat} {I : List Nat} : I ∈ chn n ↔ I.Sublist (List.range n) ∧ I ≠ [] := by
  obtain ⟨t, e, h⟩ := chs_cons n
  rw [← chs_sub]
  unfold chn
  rw [e]
  show I ∈ t ↔ _
  constructor
  · intro hI; exact ⟨List.mem_cons_of_mem _ hI, h I hI⟩
  · rintro ⟨hI, hne⟩
    rcases List.mem_cons.mp hI with rfl | hI
    · exact absurd rfl hne
    · exact hI
theorem minors_chn {n : Nat} {M : Mx} (n4 : n ≤ 4) (H : Her M (List.range n)) : PSD M (List.range n) ↔ ∀ I, I ∈ chn n → 0 ≤ (detJ M I).re := by
  rw [psd_minors (by simpa using n4) List.nodup_range H]
  constructor
  · intro h I hI
    obtain ⟨a, b⟩ := chn_mem.mp hI
    exact h I a b
  · intro h I a b
    exact h I (chn_mem.mpr ⟨a, b⟩)
theorem chn_ok {n : Nat} (n4 : n ≤ 4) {I : List Nat} (h : I ∈ chn n) {M : Mx} : (⟨n, M, I⟩ : PK').ok := by
  obtain ⟨a, b⟩ := chn_mem.mp h
  exact ⟨b, a.nodup List.nodup_range, fun i hi => by simpa using a.subset hi, by have := a.length_le; simp at this; show I.length ≤ 8; omega⟩
end N640

set_option Elab.async false
set_option linter.all false
set_option maxRecDepth 100000
set_option maxHeartbeats 4000000
/-! Tables whose rows change. -/
namespace N640
open PySem PySem.Spec PyProof.Rows L2 Gn
variable {K : PySem.W.Frag} {mu : Mu} {G H G0 H0 G' H' : Hp} {σ : L2.St} {ta tb tc te : TE} {D : Ends} {p : Addr} {S : Gn → Prop} {k n : Nat} {as : Nat → Addr} {M : Mx}
structure HT (mu : Mu) (H0 : Hp) (k n : Nat) (as : Nat → Addr) (M : Mx) (G H : Hp) : Prop where
  inj : ∀ a, a < k → ∀ b, b < k → as a = as b → a = b
  hd : ∀ a, a < k → ∃ vs, Hd mu H0 (as a) vs G H ∧ Vof (fun b => TNum (M a b)) (List.range n) vs G
theorem HT.rel (h : HT mu H0 k n as M G H) (s : Stp mu G H G' H') : HT mu H0 k n as M G' H' := ⟨h.inj, fun a ha => let ⟨vs, h1, h2⟩ := h.hd a ha; ⟨vs, h1.rel s, h2.mono s.gg⟩⟩
def up (M : Mx) (i j : Nat) (z : Gn) : Mx := fun a b => if a = i ∧ b = j then z else M a b
theorem HT.set {i j : Nat} {z : Gn} {v : V} (h : HT mu H0 k n as M G H) (hi : i < k) (hj : j < n) (p : TNum z v G) :
    ∃ vs, H (as i) = some (.lst vs) ∧ vs.length = n ∧ H0 (as i) = none ∧ G (as i) = none ∧ ¬ mu.mt (as i) ∧ HT mu H0 k n as (up M i j z) G (upd H (as i) (.lst (vs.set j v))) := by
  obtain ⟨vs, h1, h2⟩ := h.hd i hi
  refine ⟨vs, h1.h, by rw [h2.1]; simp, h1.h0, h1.g, h1.nm, h.inj, fun a ha => ?_⟩
  by_cases e : a = i
  · subst e
    refine ⟨vs.set j v, ⟨h1.h0, h1.g, h1.nm, upd_same⟩, ?_⟩
    refine Vof.upd h2 ?_ fun b hb _ u q => ?_
    · show TNum (up M a j z a j) v G
      unfold up; rw [if_pos ⟨rfl, rfl⟩]; exact p
    · show TNum (up M a j z a b) u G
      unfold up; rw [if_neg fun q => hb q.2]; exact q
  · obtain ⟨us, g1, g2⟩ := h.hd a ha
    refine ⟨us, ⟨g1.h0, g1.g, g1.nm, by rw [upd_ne fun q => e (h.inj a ha i hi q)]; exact g1.h⟩, g2.imp fun b _ u q => ?_⟩
    show TNum (up M i j z a b) u G
    unfold up; rw [if_neg fun q => e q.1]; exact q
abbrev refs (k : Nat) (as : Nat → Addr) : HO := .lst ((List.range k).map fun a => V.ref (as a))
theorem refs_at {i : Nat} (hi : i < k) : ((List.range k).map fun a => V.ref (as a))[i]? = some (.ref (as i)) := by
  rw [List.getElem?_map, List.getElem?_range hi]; rfl
theorem sset {L : Addr} {i j ki kj : Nat} (a : At mu G0 H0) (s : Stp mu G0 H0 G H) (ht : HT mu H0 k n as M G H) (hL : G L = some (refs k as)) (h5 : σ[5]? = some (some (.ref L))) (h6 : σ[ki]? = some (some (.int (i : Int)))) (h7 : σ[kj]? = some (some (.int (j : Int)))) (hi : i < k) (hj : j < n) (h : EvP mu te σ G (TNm S))
    (kk : ∀ z G' H', Stp mu G0 H0 G' H' → Ex G G' → S z → HT mu H0 k n as (up M i j z) G' H' → D.nx σ H') : tAsg te (gSub (tOp (rIxL K) (tVar 5) (tVar ki)) (tVar kj) rSetL) D σ H := by
  refine h G H Ex.rfl' (a.stp s) _ fun v G1 H1 s1 ⟨z, pz, sz⟩ => ?_
  have ht1 := ht.rel s1
  obtain ⟨vs, e1, e2, e3, e4, e5, e6⟩ := ht1.set hi hj pz
  have aL := (a.stp s).stp s1
  refine ⟨.ref L, h5, .int (i : Int), h6, L, _, i, .ref (as i), rfl, rfl, sql_at aL (s1.gg _ _ hL), atI_nat (refs_at hi), .int (j : Int), h7, as i, vs, j, j, rfl, rfl, e1, ?_, ?_⟩
  · unfold ixN; rw [if_pos (by omega), if_pos (by omega)]; rfl
  · exact kk z G1 _ ((s.trans s1).put _ e3 e4 e5) s1.gg sz e6
theorem hidAt {L : Addr} {i j ki kj : Nat} (a : At mu G H) (ht : HT mu H0 k n as M G H) (hL : G L = some (refs k as)) (h5 : σ[5]? = some (some (.ref L))) (h6 : σ[ki]? = some (some (.int (i : Int)))) (h7 : σ[kj]? = some (some (.int (j : Int)))) (hi : i < k) (hj : j < n) {Q : VK} (kk : ∀ v, TNum (M i j) v G → Q v H) :
    tOp (rIxL K) (tOp (rIxL K) (tVar 5) (tVar ki)) (tVar kj) σ H Q := by
  obtain ⟨vs, hd, f⟩ := ht.hd i hi
  obtain ⟨v, hv, pv⟩ := f.at (i := j) (x := j) (List.getElem?_range hj)
  exact ⟨.ref L, h5, .int (i : Int), h6, L, _, i, .ref (as i), rfl, rfl, sql_at a hL, atI_nat (refs_at hi), .int (j : Int), h7, as i, vs, j, v, rfl, rfl, SqL.of hd.h, atI_nat hv, kk v pv⟩
theorem asgE {Sp' : Sp} {g : TG} (h : ta σ H fun v H1 => tAsg (tCall Sp' [] E0 (tCons (tC v) tNil)) g D σ H1) : tAsg (tCall Sp' [] E0 (tCons ta tNil)) g D σ H := h
/-- all rows are told -/
theorem HT.tell (a : At mu G0 H0) (s : Stp mu G0 H0 G H) (h : HT mu H0 k n as M G H) : ∀ m, m ≤ k → ∃ G', Stp mu G0 H0 G' H ∧ Ex G G' ∧ (∀ a, a < m → ∃ vs, G' (as a) = some (.lst vs) ∧ Vof (fun b => TNum (M a b)) (List.range n) vs G') ∧ ∀ a, m ≤ a → a < k → G' (as a) = none
  | 0, _ => ⟨G, s, Ex.rfl', fun a z => by omega, fun a _ ha => let ⟨_, h1, _⟩ := h.hd a ha; h1.g⟩
  | m + 1, hm => by
    obtain ⟨G1, s1, e1, t1, n1⟩ := HT.tell a s h m (by omega)
    obtain ⟨vs, h1, h2⟩ := h.hd m (by omega)
    have gn := n1 m (Nat.le_refl _) (by omega)
    have ex := Ex.new (o := .lst vs) gn
    refine ⟨upd G1 (as m) (.lst vs), s1.show_ a.ex h1.h0 h1.h, e1.trans ex, fun b hb => ?_, fun b hb hk => ?_⟩
    · by_cases e : b = m
      · subst e
        exact ⟨vs, upd_same, h2.mono (e1.trans ex)⟩
      · obtain ⟨us, g1, g2⟩ := t1 b (by omega)
        exact ⟨us, ex _ _ g1, g2.mono ex⟩
    · rw [upd_ne fun q => by have := h.inj b hk m (by omega) q; omega]
      exact n1 b (by omega) hk
theorem HT.tx {L : Addr} (a : At mu G0 H0) (s : Stp mu G0 H0 G H) (h : HT mu H0 n n as M G H) (hL : G L = some (refs n as)) : ∃ G', Stp mu G0 H0 G' H ∧ Ex G G' ∧ TNx n M (.ref L) G' := by
  obtain ⟨G1, s1, e1, t1, _⟩ := h.tell a s n (Nat.le_refl _)
  refine ⟨G1, s1, e1, L, _, rfl, e1 _ _ hL, by simp, fun i v x h1 h2 => ?_⟩
  obtain ⟨rfl, hi⟩ := range_get h2
  rw [refs_at hi] at h1
  cases h1
  obtain ⟨us, g1, g2⟩ := t1 x hi
  exact ⟨as x, us, rfl, g1, g2⟩
theorem vof_rep {z : Gn} {v : V} (h : TNum z v G) : Vof (fun _ : Nat => TNum z) (List.range n) (List.replicate n v) G :=
  ⟨by simp, fun i w x a b => by
    obtain ⟨rfl, hi⟩ := range_get b
    rw [List.getElem?_replicate, if_pos hi] at a
    cases a; exact h⟩
theorem repE {tz : TE} {Q : VK} (h : tz σ H fun v H1 => tOp rRep (tLst (tCons (tC v) tNil)) tb σ H1 Q) : tOp rRep (tLst (tCons tz tNil)) tb σ H Q := h
/-- rows of noughts, not told yet -/
theorem lcH (hs : σ[1]? = some (some (.int (n : Int)))) (hn : n ≤ 8) (hw : ∀ v, wipe ((wipe σ [6]).set 6 (some v)) [6] = wipe σ [6]) (h1 : ∀ v, ((wipe σ [6]).set 6 (some v))[1]? = some (some (.int (n : Int)))) (a : At mu G H) {Q : VK}
    (kk : ∀ (L : Addr) (as : Nat → Addr) (G' H' : Hp), Stp mu G H G' H' → HT mu H n n as (fun _ _ => 0) G' H' → G' L = some (refs n as) → Q (.ref L) H') :
    tLc (iRng1 (tCons (tVar 1) tNil)) (gName 6) tYes (tOp rRep (tLst (tCons (tTup (tCons (tC (.int 0)) (tCons (tC (.int 0)) (tCons (tC (.int 1)) tNil)))) tNil)) (tVar 1)) [6] σ H Q := by
  refine evi_rn (n := n) hs (by omega) G H Ex.rfl' a _ fun J G2 H2 s2 J2 => ?_
  intro Dl hD
  have a2 := a.stp s2
  have sD := a2.hid (.lst []) hD
  refine ⟨fun i mm Hc => mm = n - i ∧ i ≤ n ∧ ∃ Gc as, Stp mu G2 H2 Gc Hc ∧ Gc Dl = none ∧ Hc Dl = some (refs i as) ∧ HT mu H2 i n as (fun _ _ => 0) Gc Hc ∧ ∀ a, a < i → as a ≠ Dl, ⟨n, by simp, Nat.zero_le _, G2, fun _ => Dl, sD, a2.gnone hD, upd_same, ⟨fun a z => by omega, fun a z => by omega⟩, fun a z => by omega⟩, ?_⟩
  rintro i mm Hc ⟨rfl, hile, Gc, as, sc, gD, hDc, ht, hne⟩
  have ac := a2.stp sc
  by_cases hlt : i < n
  · refine .inr ⟨J2.go i Gc Hc sc.gg ac (by simpa using hlt), fun H' => i + 1 ≤ n ∧ ∃ Gc as, Stp mu G2 H2 Gc H' ∧ Gc Dl = none ∧ H' Dl = some (refs (i + 1) as) ∧ HT mu H2 (i + 1) n as (fun _ _ => 0) Gc H' ∧ ∀ a, a < i + 1 → as a ≠ Dl, fun H' ⟨h1, h2⟩ => ⟨n - (i + 1), by omega, rfl, h1, h2⟩, fun v H' y => ?_⟩
    have hx : (List.range n)[i]? = some i := List.getElem?_range hlt
    obtain ⟨G3, s3, p3⟩ := J2.yld i _ Gc Hc v H' hx sc.gg ac y
    have a3 := ac.stp s3
    refine ⟨hw v, ?_⟩
    simp only [tYes, if_true]
    refine repE ((evp_n0z (mu := mu) (G := G3)) G3 H' Ex.rfl' a3 _ fun w G4 H4 s4 pw => ?_)
    have a4 := a3.stp s4
    refine ⟨by show 1 ≤ sizeLine; decide, fun l hl => ?_⟩
    have s5 := a4.hid (.lst [w]) hl
    have a5 := a4.stp s5
    refine ⟨.int (n : Int), h1 v, l, n, [w], rfl, rfl, upd_same, by omega, by omega, ?_, fun q hq => ?_⟩
    · have : sizeLine ≥ 8 := by decide
      simp; omega
    · have s6 := a5.hid (.lst (List.replicate ((n : Int)).toNat [w]).flatten) hq
      have sall := s3.trans (s4.trans (s5.trans s6))
      have hDq : q ≠ Dl := fun e => by
        have := (s3.trans (s4.trans s5)).lv Dl (by rw [hDc]; intro z; cases z)
        rw [← e, hq] at this; exact this rfl
      have htq := ht.rel sall
      have gx : G4 Dl = none := (sall.fr Dl (by rw [hDc]; intro z; cases z)).trans gD
      have hx' := sall.hh Dl _ (fun z => a2.fresh hD z) hDc
      have h0q : H2 q = none := by
        cases e : H2 q with
        | none => rfl
        | some o => exact absurd hq ((sc.trans (s3.trans (s4.trans s5))).lv q (by rw [e]; intro z; cases z))
      have gq : G4 q = none := a5.gnone hq
      have mq : ¬ mu.mt q := a5.fresh hq
      refine ⟨_, hx', ?_, hlt, G4, fun a => if a < i then as a else q, ((sc.trans sall).put _ hD gx (a2.fresh hD)), gx, ?_, ⟨fun a ha b hb e => ?_, fun a ha => ?_⟩, fun a ha => ?_⟩
      · exact small1000 (by simp; omega)
      · rw [upd_same]
        congr 1
        show HO.lst _ = HO.lst _
        congr 1
        rw [List.range_succ, List.map_append]
        congr 1
        · refine List.map_congr_left fun a ha => ?_
          have ha : a < i := by simpa using ha
          simp only [ha, if_true]
        · simp
      · have live : ∀ c, c < i → as c ≠ q := fun c hc e => by
          obtain ⟨us, g1, _⟩ := (ht.rel (s3.trans (s4.trans s5))).hd c hc
          rw [← e, g1.h] at hq; cases hq
        by_cases h1 : a < i <;> by_cases h2 : b < i <;> simp only [h1, h2, if_true, if_false] at e
        · exact ht.inj a h1 b h2 e
        · exact absurd e (live a h1)
        · exact absurd e.symm (live b h2)
        · omega
      · by_cases h1 : a < i
        · simp only [h1, if_true]
          obtain ⟨us, g1, g2⟩ := htq.hd a h1
          exact ⟨us, ⟨g1.h0, g1.g, g1.nm, by rw [upd_ne (hne a h1)]; exact g1.h⟩, g2⟩
        · simp only [h1, if_false]
          refine ⟨_, ⟨h0q, gq, mq, by rw [upd_ne hDq]; exact upd_same⟩, ?_⟩
          rw [List.flatten_replicate_singleton, Int.toNat_natCast]
          exact vof_rep pw
      · by_cases h1 : a < i
        · simp only [h1, if_true]; exact hne a h1
        · simp only [h1, if_false]; exact hDq
  · have ei : i = n := by omega
    subst ei
    refine .inl ⟨?_, ?_⟩
    · have := J2.stop Gc Hc sc.gg ac
      simpa using this
    · refine kk Dl as _ Hc (s2.trans (sc.show_ a2.ex hD hDc)) ⟨ht.inj, fun a ha => ?_⟩ upd_same
      obtain ⟨us, g1, g2⟩ := ht.hd a ha
      refine ⟨us, ⟨?_, by rw [upd_ne (hne a ha)]; exact g1.g, g1.nm, g1.h⟩, g2.mono (Ex.new gD)⟩
      cases e : H (as a) with
      | none => rfl
      | some o => exact absurd g1.h0 (s2.lv _ (by rw [e]; intro z; cases z))
/-! plain facts -/
theorem q6_360 {z : Gn} (h : Q6 24 z) : Q6 360 z := let ⟨a, b, e, ha, hb⟩ := h; ⟨a, b, e, by omega, by omega⟩
theorem q6_cj {z : Gn} {k : Nat} (h : Q6 k z) : Q6 k (conj z) := let ⟨a, b, e, ha, hb⟩ := h; ⟨a, 0 - b, by rw [e, val_conj], by omega, by omega⟩
theorem q6_zero {k : Nat} : Q6 k 0 := ⟨0, 0, val_00 6 (by decide), by simp, by simp⟩
theorem q6r_zero {k : Nat} : Q6r k 0 := ⟨0, val_00 6 (by decide), by simp⟩
theorem tb_zero : Tb n (fun _ _ => 0) := ⟨fun i _ j _ => by
  have := q6r_conj (q6r_zero (k := 0)); exact this.symm, fun i _ j _ => q6_zero⟩
theorem tb_diag {z : Gn} {y : Nat} (h : Tb n M) (hz : Q6r 24 z) : Tb n (up M y y z) := by
  refine ⟨fun i hi j hj => ?_, fun i hi j hj => ?_⟩
  · unfold up
    by_cases h1 : i = y <;> by_cases h2 : j = y <;> simp only [h1, h2, and_self, and_true, true_and, if_true, if_false]
    · exact (q6r_conj hz).symm
    · exact h.her y (h1 ▸ hi) j hj
    · exact h.her i hi y (h2 ▸ hj)
    · exact h.her i hi j hj
  · unfold up
    split
    · obtain ⟨a, e, ha⟩ := hz
      exact ⟨a, 0, e, by omega, by decide⟩
    · exact h.q i hi j hj
theorem tb_two {z : Gn} {y c : Nat} (h : Tb n M) (hz : Q6 24 z) (hc : c < y) : Tb n (up (up M y c z) c y (conj z)) := by
  refine ⟨fun i hi j hj => ?_, fun i hi j hj => ?_⟩
  · unfold up
    by_cases e1 : i = y ∧ j = c
    · obtain ⟨rfl, rfl⟩ := e1
      rw [if_pos ⟨rfl, rfl⟩, if_neg (by omega), if_pos ⟨rfl, rfl⟩]
    · by_cases e2 : i = c ∧ j = y
      · obtain ⟨rfl, rfl⟩ := e2
        rw [if_neg (by omega), if_pos ⟨rfl, rfl⟩, if_pos ⟨rfl, rfl⟩, conj_conj]
      · rw [if_neg (by omega), if_neg (by omega), if_neg e2, if_neg e1]
        exact h.her i hi j hj
  · unfold up
    split
    · exact q6_cj (q6_360 hz)
    · split
      · exact q6_360 hz
      · exact h.q i hi j hj
end N640

set_option Elab.async false
set_option linter.all false
set_option maxRecDepth 100000
set_option maxHeartbeats 4000000
/-! Any table. -/
namespace N640
open PySem PySem.Spec PyProof.Rows L2 Gn
variable {K : PySem.W.Frag} {mu : Mu} {G H G0 H0 G' H' : Hp} {σ : L2.St} {ta tb tc te : TE} {D : Ends} {p : Addr} {S : Gn → Prop}
theorem q6r_gs {k : Nat} {z : Gn} (h : Q6r k z) : gs z = 0 := by
  have e := (g_conj z).2.1
  rw [q6r_conj h] at e
  omega
theorem q6r_neg {k : Nat} {z : Gn} (h : Q6r k z) : Q6r k (-z) := let ⟨a, e, ha⟩ := h; ⟨0 - a, by rw [e, val_neg]; rfl, by omega⟩
theorem evn_row {n : Nat} {i : Nat} {k : Nat} (hp : HasPot mu p) (hs : σ[i]? = some (some (.ref p))) (h1 : σ[k]? = some (some (.int (n : Int)))) (hn : n ≤ 8) : EvP mu (tCall S_row [] E0 (tCons (tVar i) (tCons (tVar k) tNil))) σ G (B_row n) :=
  evp_q1 (x := n) (A := A_row) (B := B_row) hp (evp_is hs) (evp_is h1) fun u G1 _ e => ⟨by rw [show u = _ from e], hn⟩
def A_any (n : Nat) (us : List V) (_ : Hp) : Prop := us = [.int (n : Int)] ∧ 1 ≤ n ∧ n ≤ 4
theorem m_Lany : SemPot (t_L_any K S_draw S_weight S_row S_made S_low S_number S_nconj) n_L_any A_any TTb := by
  intro mu p n us G H hp hA ⟨e, n1, n4⟩ D k
  subst e
  refine sif (D := _) hA (A := fun _ => True) (evt_draw0 hp rfl (by decide) (by decide)) (fun G1 H1 s1 _ => ?_) fun G1 H1 s1 _ => ?_
  · have a1 := hA.stp s1
    dsimp only [tSeq]
    refine shid (σ := start n_L_any [.ref p, .int (n : Int)]) (i := 2) a1 fun f H2 s2 hd2 a2 => ?_
    dsimp only [tSeq]
    refine forE ?_
    refine (evn_I0 (R := fun m => 1 ≤ m ∧ m ≤ n) (P := fun j => j = 1) (evn_c rfl) (evp_draw (i := 0) hp rfl (evp_is (v := .int (n : Int)) rfl) (by omega) (by omega)) fun i j h1 h2 => by subst h1; omega) G1 H2 Ex.rfl' a2 _ fun v G3 H3 s3 ⟨d, ev, d1, dn⟩ => ?_
    subst ev
    obtain ⟨m, rfl⟩ := Int.eq_ofNat_of_zero_le (show 0 ≤ d by omega)
    have s23 := s2.trans s3
    have hd3 := hd2.rel s3
    refine sfor (xs := List.range m) (PI := fun i : Nat => TZ (i : Int)) (a1.stp s23) (by exact evi_rng (n := m) ((eva_1 (evp_c (v := .int (m : Int)))).imp fun vs G1 _ ⟨v, e, p⟩ => by rw [e, show v = _ from p]) (by omega)) fun Gs Hs s4 => ⟨fun i σ' G' H' => ∃ (acc : List V) (c3 c4 c5 c6 c7 : Option V), σ' = [some (.ref p), some (.int (n : Int)), some (.ref f), c3, c4, c5, c6, c7] ∧ Stp mu G1 H1 G' H' ∧ Hd mu H1 f acc G' H' ∧ Vof (fun _ : Nat => TPr (TNm (Q6r 18)) (B_row n)) ((List.range m).take i) acc G',
      ⟨[], none, none, none, none, none, rfl, s23.trans s4, hd3.rel s4, Vof.nil⟩, fun i y w σ1 G5 H5 G6 H6 hy e5 a5 ⟨acc, c3, c4, c5, c6, c7, es, s5, hd5, f5⟩ s6 pw => ?_, fun σ1 G5 H5 e5 a5 ⟨acc, c3, c4, c5, c6, c7, es, s5, hd5, f5⟩ => ?_⟩
    · subst es
      obtain ⟨rfl, hi⟩ := range_get hy
      have pw : w = .int (y : Int) := pw
      subst pw
      have a6 := a5.stp s6
      have s56 := s5.trans s6
      dsimp only [tSeq]
      refine sasg (D := _) (σ := [some (.ref p), some (.int (n : Int)), some (.ref f), some (.int (y : Int)), c4, c5, c6, c7]) (i := 4) (P := TNm (Q6r 18)) a6 (evp_q0 (x := ()) (A := A_unit) (B := B_weight) hp (evp_is rfl) fun _ _ => rfl) fun wv G7 H7 s7 ⟨z, pz, qz⟩ => ?_
      dsimp only
      have s57 := s56.trans s7
      have V4 : ∀ {G8 : Hp}, Ex G7 G8 → EvP mu (tVar 4) [some (.ref p), some (.int (n : Int)), some (.ref f), some (.int (y : Int)), some wv, c5, c6, c7] G8 (TNum z) := fun e => evp_var rfl (Mono.mono e pz)
      refine sapp (P := TPr (TNm (Q6r 18)) (B_row n)) a1 s57 ((hd5.rel s6).rel s7) rfl ?_ (by rw [f5.1]; simp; omega) fun u Gb Hb sb hb pb eb => ⟨Gb, e5.trans (s6.gg.trans (s7.gg.trans eb)), a1.stp sb, acc ++ [u], some (.int (y : Int)), some wv, c5, c6, c7, rfl, sb, hb, ?_⟩
      · refine evp_tup2 ((evp_tup3 (P1 := TIn fun x => x = gp z ∨ x = - gp z) (P2 := TZ 0) (P3 := TZ (gl z)) (evp_if (A := fun _ => True) (evt_draw1 hp rfl (by decide) (by decide)) (fun _ => (evp_n0 (V4 Ex.rfl')).tin (.inl rfl)) fun _ => (evp_sub evp_c (evp_n0 (V4 Ex.rfl'))).tin (.inr (by omega))) evp_c (evp_n2 (V4 Ex.rfl'))).imp fun v G8 _ ⟨b, x1, x2, x3, e1, g, ⟨x, ex, hx⟩, p2, p3⟩ => ?_) (evn_row hp rfl rfl (by omega))
        have g0 := q6r_gs qz
        rcases hx with hx | hx
        · exact ⟨z, ⟨b, x1, x2, x3, e1, g, by rw [ex, hx]; rfl, by rw [g0]; exact p2, p3⟩, qz⟩
        · obtain ⟨f1, f2, f3⟩ := g_neg z
          exact ⟨-z, ⟨b, x1, x2, x3, e1, g, by rw [ex, hx, f1]; rfl, by rw [f2, g0]; exact p2, by rw [f3]; exact p3⟩, q6r_neg qz⟩
      · rw [take_succ_get hy]
        exact Vof.snoc (f5.mono (s6.gg.trans (s7.gg.trans eb))) pb
    · subst es
      rw [List.take_length] at f5
      obtain ⟨st, et⟩ := hd5.tell a1 s5
      refine sret (D := D) (P := TTb n) (a1.stp st) (evp_made (evp_is rfl) (evp_var (P := TSs n) (v := .ref f) rfl ⟨m, by omega, f, acc, rfl, upd_same, f5.mono et⟩) n4) fun v G9 H9 s9 p9 => k v G9 H9 ((s1.trans st).trans s9) p9
  · have a1 := hA.stp s1
    dsimp only [tNext, tSeq]
    show tLc _ _ _ _ _ _ _ _
    refine lcH (n := n) rfl (by omega) (fun _ => rfl) (fun _ => rfl) a1 fun L as G2 H2 s2 ht hL => ?_
    dsimp only [gName]
    have a2 := a1.stp s2
    refine sfor (xs := List.range n) (PI := fun i : Nat => TZ (i : Int)) a2 (by exact evi_rn (n := n) rfl (by omega)) fun Gs Hs s3 => ⟨fun i σ' G' H' => ∃ (M : Mx) (c2 c3 c4 c6 c7 : Option V), σ' = [some (.ref p), some (.int (n : Int)), c2, c3, c4, some (.ref L), c6, c7] ∧ Stp mu G1 H1 G' H' ∧ HT mu H1 n n as M G' H' ∧ G' L = some (refs n as) ∧ Tb n M,
      ⟨fun _ _ => 0, none, none, none, none, none, rfl, s2.trans s3, ht.rel s3, s3.gg _ _ hL, tb_zero⟩, fun i y w σ1 G5 H5 G6 H6 hy e5 a5 ⟨M, c2, c3, c4, c6, c7, es, s5, ht5, hL5, tb5⟩ s6 pw => ?_, fun σ1 G5 H5 e5 a5 ⟨M, c2, c3, c4, c6, c7, es, s5, ht5, hL5, tb5⟩ => ?_⟩
    · subst es
      obtain ⟨rfl, hi⟩ := range_get hy
      have pw : w = .int (y : Int) := pw
      subst pw
      have s56 := s5.trans s6
      dsimp only [tSeq]
      refine sset (D := _) (S := Q6r 24) (σ := [some (.ref p), some (.int (n : Int)), c2, c3, c4, some (.ref L), some (.int (y : Int)), c7]) a1 s56 (ht5.rel s6) (s6.gg _ _ hL5) rfl rfl rfl hi hi ?_ fun z G7 H7 s7 e7 qz ht7 => ?_
      · refine evp_if (A := fun _ => True) (evt_draw1 hp rfl (by decide) (by decide)) (fun _ => evn_low (P := fun a => -2 ≤ a ∧ a ≤ 4) (Q := fun b => b = 0) (R := fun c => 1 ≤ c ∧ c ≤ 2) (evn_I0 (Q := fun j => j = 2) (evp_drawc hp rfl (by decide) (by decide)) (evn_c rfl) fun i j h1 h2 => by subst h2; omega) (evn_c rfl) (evn_I0 (P := fun j => j = 1) (evn_c rfl) (evp_drawc hp rfl (by decide) (by decide)) fun i j h1 h2 => by subst h1; omega) fun a b c h1 h2 h3 => by subst h2; exact ⟨by omega, by omega, q6r_of (k := 4) (by omega) (by omega)⟩) fun _ => evp_n0z.imp fun v G8 _ q => ⟨0, q, q6r_zero⟩
      · have tb7 := tb_diag (y := y) tb5 qz
        have hL7 := e7 _ _ (s6.gg _ _ hL5)
        have a7 := a1.stp s7
        dsimp only
        refine sfor (D := _) (xs := List.range y) (PI := fun i : Nat => TZ (i : Int)) a7 (by exact evi_rn (n := y) rfl (by omega)) fun Gt Ht s8 => ⟨fun i σ' G' H' => ∃ (M : Mx) (c7 : Option V), σ' = [some (.ref p), some (.int (n : Int)), c2, c3, c4, some (.ref L), some (.int (y : Int)), c7] ∧ Stp mu G1 H1 G' H' ∧ HT mu H1 n n as M G' H' ∧ G' L = some (refs n as) ∧ Tb n M,
          ⟨_, c7, rfl, s7.trans s8, ht7.rel s8, s8.gg _ _ hL7, tb7⟩, fun i c w σ1 G9 H9 G10 H10 hc e9 a9 ⟨M, c7, es, s9, ht9, hL9, tb9⟩ s10 pw => ?_, fun σ1 G9 H9 e9 a9 ⟨M, c7, es, s9, ht9, hL9, tb9⟩ => ?_⟩
        · subst es
          obtain ⟨rfl, hcy⟩ := range_get hc
          have pw : w = .int (c : Int) := pw
          subst pw
          have s910 := s9.trans s10
          dsimp only [tSeq]
          refine sset (D := _) (S := Q6 24) (σ := [some (.ref p), some (.int (n : Int)), c2, c3, c4, some (.ref L), some (.int (y : Int)), some (.int (c : Int))]) a1 s910 (ht9.rel s10) (s10.gg _ _ hL9) rfl rfl rfl hi (by omega) ?_ fun z G11 H11 s11 e11 qz ht11 => ?_
          · exact evp_if (A := fun _ => True) (evt_draw1 hp rfl (by decide) (by decide)) (fun _ => evp_q0 (x := ()) (A := A_unit) (B := B_number) hp (evp_is rfl) fun _ _ => rfl) fun _ => evp_n0z.imp fun v G8 _ q => ⟨0, q, q6_zero⟩
          · have hL11 := e11 _ _ (s10.gg _ _ hL9)
            have a11 := a1.stp s11
            dsimp only
            refine asgE ?_
            refine hidAt (i := y) (j := c) a11 ht11 hL11 rfl rfl rfl hi (by omega) fun v pv => ?_
            have ez : up M y c z y c = z := by unfold up; rw [if_pos ⟨rfl, rfl⟩]
            rw [ez] at pv
            refine sset (D := _) (S := fun w => w = conj z) (σ := [some (.ref p), some (.int (n : Int)), c2, c3, c4, some (.ref L), some (.int (y : Int)), some (.int (c : Int))]) (i := c) (j := y) a1 s11 ht11 hL11 rfl rfl rfl (by omega) hi ((evp_nconj (evp_cP fun G12 e => Mono.mono e pv)).imp fun v G8 _ q => ⟨_, q, rfl⟩) fun z2 G13 H13 s13 e13 qz2 ht13 => ?_
            subst qz2
            exact ⟨G13, e9.trans (s10.gg.trans (e11.trans e13)), a1.stp s13, _, _, rfl, s13, ht13, e13 _ _ hL11, tb_two tb9 qz hcy⟩
        · subst es
          exact ⟨G9, e5.trans (s6.gg.trans (e7.trans (s8.gg.trans e9))), a1.stp s9, M, c2, c3, c4, some (.int (y : Int)), c7, rfl, s9, ht9, hL9, tb9⟩
    · subst es
      obtain ⟨G6, s6, e6, tx⟩ := ht5.tx a1 s5 hL5
      exact sret (D := D) (P := TTb n) (a1.stp s6) (evp_var (v := .ref L) rfl ⟨M, tx, tb5⟩) fun v G9 H9 s9 p9 => k v G9 H9 ((s1.trans s6).trans s9) p9
end N640

set_option Elab.async false
set_option linter.all false
set_option maxRecDepth 100000
set_option maxHeartbeats 4000000
/-! What the law's main def leans on: plain facts. -/
namespace N640
open PySem PySem.Spec PyProof.Rows L2 Gn
theorem pb_iff {m : Mx} {n : Nat} : pb m n = true ↔ PSD m (List.range n) :=
  ⟨fun h => Classical.byContradiction fun z => (by rw [pb_false z] at h; cases h), pb_true⟩
theorem lead_psd {M : Mx} {n k : Nat} (h : PSD M (List.range n)) (hk : k ≤ n) : PSD M (List.range k) := h.sub List.nodup_range (List.range_sublist.mpr hk)
theorem lp_none {M : Mx} {n : Nat} (n1 : 1 ≤ n) : lp ⟨n, M⟩ = none ↔ PSD M (List.range n) := by
  unfold lp
  rw [List.find?_eq_none]
  constructor
  · intro h
    have := h (n - 1) (by simp; omega)
    rw [show n - 1 + 1 = n by omega] at this
    refine pb_iff.mp ?_
    simpa using this
  · intro h k hk
    have hk : k < n := by simpa using hk
    have e : pb (NM.mk n M).m (k + 1) = true := pb_true (lead_psd h (by omega))
    rw [e]; simp
theorem lp_some {M : Mx} {n d : Nat} (h : lp ⟨n, M⟩ = some d) : d < n ∧ ¬ PSD M (List.range (d + 1)) ∧ ∀ k, k < d → PSD M (List.range (k + 1)) := by
  unfold lp at h
  rw [List.find?_eq_some_iff_getElem] at h
  obtain ⟨h1, i, hi, e, hj⟩ := h
  have hi' : i < n := by simpa using hi
  rw [List.getElem_range] at e
  subst e
  refine ⟨hi', fun z => ?_, fun k hk => ?_⟩
  · have e : pb (NM.mk n M).m (i + 1) = true := pb_true z
    rw [e] at h1; cases h1
  · have := hj k hk
    rw [List.getElem_range] at this
    exact pb_iff.mp (by simpa using this)
theorem sm_ext {k m : Nat} {f : Nat → Gn} (h : ∀ i, k ≤ i → f i = 0) : sm (List.range (k + m)) f = sm (List.range k) f := by
  rw [List.range_add, sm_append, sm_zero (l := (List.range m).map _) fun i hi => ?_]
  · grind
  · obtain ⟨j, _, rfl⟩ := List.mem_map.mp hi
    exact h _ (by omega)
def ext0 (u : Nat → Gn) (k : Nat) : Nat → Gn := fun j => if j < k then u j else 0
theorem fm_ext {k n : Nat} {M : Mx} {u : Nat → Gn} (h : k ≤ n) : fm M (List.range n) (ext0 u k) = fm (pk M (List.range k)) (List.range k) u := by
  obtain ⟨m, rfl⟩ := Nat.le.dest h
  have z : ∀ {i}, k ≤ i → ext0 u k i = 0 := fun {i} hi => by unfold ext0; rw [if_neg (by omega)]
  unfold fm pf
  rw [sm_ext fun i hi => sm_zero fun j _ => by rw [z hi]; grind]
  refine sm_congr fun i hi => ?_
  have hi : i < k := by simpa using hi
  rw [sm_ext fun j hj => by rw [z hj, conj_zero]; grind]
  refine sm_congr fun j hj => ?_
  have hj : j < k := by simpa using hj
  rw [pk_range hi hj]
  unfold ext0
  rw [if_pos hi, if_pos hj]
theorem qd_ext {b k n : Nat} {u : Nat → Gn} (h : Qd b k u) : Qd b n (ext0 u k) := by
  obtain ⟨c, c0, cb, h⟩ := h
  refine ⟨c, c0, cb, fun i _ => ?_⟩
  unfold ext0
  by_cases hi : i < k
  · rw [if_pos hi]; exact h i hi
  · rw [if_neg hi]
    exact ⟨0, 0, val_00 c (by omega), by have := Nat.two_pow_pos b; simpa using this, by have := Nat.two_pow_pos b; simpa using this⟩
theorem det_congr : ∀ (k : Nat) {m m' : Mx}, (∀ i, i < k → ∀ j, j < k → m i j = m' i j) → det k m = det k m'
  | 0, _, _, _ => rfl
  | k + 1, m, m', h => by
    rw [det_succ, det_succ]
    refine sm_congr fun j hj => ?_
    have hj : j < k + 1 := by simpa using hj
    unfold dtm
    rw [h 0 (by omega) j hj, det_congr k (m := mnr m j) (m' := mnr m' j) fun a ha b hb => ?_]
    unfold mnr
    exact h _ (by omega) _ (by split <;> omega)
theorem detJ_pk {M : Mx} {I : List Nat} : detJ (pk M I) (List.range I.length) = det I.length (pk M I) := by
  show det (List.range I.length).length (pk (pk M I) (List.range I.length)) = _
  rw [List.length_range]
  exact det_congr _ fun i hi j hj => pk_range hi hj
theorem chn_len (n : Nat) : (chn n).length = 2 ^ n - 1 := by unfold chn; rw [List.length_drop, chs_len]
theorem NM.sm.pickI {n : Nat} {M : Mx} {I : List Nat} (h : (⟨n, M⟩ : NM).sm) (hI : I ∈ chn n) : (⟨I.length, pk M I⟩ : NM).sm := by
  have o := chn_ok h.n4 hI (M := M)
  have n4 : n ≤ 4 := h.n4
  refine h.pick o.ne ?_ o.lt
  have := (chn_mem.mp hI).1.length_le
  simp at this
  omega
/-- the rows shown -/
def dO : Option Nat → PyData
  | none => .none
  | some i => .int (i : Int)
def rO (o : Option Nat) : Str := (PyData.list [dO o, dO o]).shown
theorem rO_ok {o : Option Nat} (h : ∀ i, o = some i → i ≤ 3) : (PyData.list [dO o, dO o]).showable = true ∧ (PyData.list [dO o, dO o]).hasDict = false ∧ (PyData.list [dO o, dO o]).depth ≤ 40 ∧ (PyData.list [dO o, dO o]).shown.length ≤ sizeLine := by
  have : o = none ∨ o = some 0 ∨ o = some 1 ∨ o = some 2 ∨ o = some 3 := by
    cases o with
    | none => exact .inl rfl
    | some i =>
      have := h i rfl
      have : i = 0 ∨ i = 1 ∨ i = 2 ∨ i = 3 := by omega
      rcases this with rfl | rfl | rfl | rfl <;> simp
  rcases this with rfl | rfl | rfl | rfl | rfl <;> decide +kernel
end N640

set_option Elab.async false
set_option linter.all false
set_option maxRecDepth 100000
set_option maxHeartbeats 4000000
/-! What the law's main def leans on: readings. -/
namespace N640
open PySem PySem.Spec PyProof.Rows L2 Gn
variable {K : PySem.W.Frag} {mu : Mu} {G H G0 H0 G' H' : Hp} {σ : L2.St} {ta tb tc te : TE} {D : Ends} {p : Addr} {α : Type}
abbrev S_steps : Sp := spP (pR A_steps B_steps)
theorem evp_st {x : NM} (h : EvP mu ta σ G (TNx x.n x.m)) (o : x.sm) : EvP mu (tOp (rIxT K) (tOp (rIxT K) (tCall S_steps [] E0 (tCons ta tNil)) (tC (.int 0))) (tC (.int 2))) σ G (TIn fun be => 0 ≤ be ∧ (be = 0 ↔ PSD x.m (List.range x.n))) :=
  evp_jx2 (A := TA) (B := TA) (evp_ix0 (B := TA) (evp_c1 (x := x) (A := A_steps) (B := B_steps) h fun v G1 _ p => ⟨v, rfl, p, o⟩) evp_c) evp_c
theorem evp_st0 {x : NM} (h : EvP mu ta σ G (TNx x.n x.m)) (o : x.sm) : EvP mu (tOp rEq (tOp (rIxT K) (tOp (rIxT K) (tCall S_steps [] E0 (tCons ta tNil)) (tC (.int 0))) (tC (.int 2))) (tC (.int 0))) σ G (TB (pb x.m x.n)) :=
  evp_op (evp_st h o) evp_c fun v w G1 _ ⟨be, e, h0, h1⟩ e2 => by
    cases e2; subst e
    refine RvP.pure (v := .bl (pb x.m x.n)) (fun Q H _ q => ⟨rfl, ?_⟩) rfl
    have : decide (V.int be = V.int 0) = pb x.m x.n := by
      rw [Bool.eq_iff_iff, pb_iff, ← h1]; simp
    rw [this]; exact q
theorem evp_st1 {x : NM} (h : EvP mu ta σ G (TNx x.n x.m)) (o : x.sm) : EvP mu (tOp rGtI (tOp (rIxT K) (tOp (rIxT K) (tCall S_steps [] E0 (tCons ta tNil)) (tC (.int 0))) (tC (.int 2))) (tC (.int 0))) σ G (TB (!(pb x.m x.n))) :=
  evp_op (evp_st h o) evp_c fun v w G1 _ ⟨be, e, h0, h1⟩ e2 => by
    cases e2; subst e
    refine RvP.pure (v := .bl (!(pb x.m x.n))) (fun Q H _ q => ⟨be, 0, rfl, rfl, ?_⟩) rfl
    have : decide (0 < be) = !(pb x.m x.n) := by
      by_cases z : PSD x.m (List.range x.n)
      · rw [pb_true z]; have := h1.mpr z; simp; omega
      · rw [pb_false z]
        have : be ≠ 0 := fun e => z (h1.mp e)
        simp; omega
    show Q (.bl (decide (0 < be))) H
    rw [this]; exact q
def A_ldetU (x : NM) (vs : List V) (G : Hp) : Prop := ∃ v, vs = [v] ∧ TNx x.n x.m v G ∧ x.n ≤ 4 ∧ ∀ i, i < x.n → ∀ j, j < x.n → Sz 9 (x.m i j)
abbrev S_detU : Sp := spP (pR A_ldetU B_ldet)
theorem evp_detU {x : NM} (h : EvP mu ta σ G (TNx x.n x.m)) (o : x.sm) : EvP mu (tCall S_detU [] E0 (tCons ta tNil)) σ G (TNum (det x.n x.m)) :=
  evp_c1 (x := x) (A := A_ldetU) (B := B_ldet) h fun v G1 _ p => ⟨v, rfl, p, o.n4, fun i hi j hj => o.bd.sz hi hj⟩
abbrev S_npart : Sp := spP (pR A_npart B_npart)
theorem evp_npart {x : PK'} (h : EvP mu ta σ G (TNx x.n x.m)) (hb : EvP mu tb σ G (TPos x.I)) (o : x.ok) : EvP mu (tCall S_npart [] E0 (tCons ta (tCons tb tNil))) σ G (TNx x.I.length (pk x.m x.I)) :=
  evp_c2 (x := x) (A := A_npart) (B := B_npart) h hb fun v u G1 _ p q => ⟨v, u, rfl, p, q, o⟩
abbrev S_ch : Sp := spP (pR A_ch B_ch)
theorem evp_ch {n : Nat} (h : EvP mu ta σ G (TZ (n : Int))) (n4 : n ≤ 4) : EvP mu (tCall S_ch [] E0 (tCons ta tNil)) σ G (Lof TPos (chn n)) :=
  evp_c1 (x := n) (A := A_ch) (B := B_ch) h fun v G1 _ p => ⟨by rw [show v = _ from p], n4⟩
abbrev S_picked : Sp := spP (pR A_picked B_pick)
theorem evp_picked {x : PK'} (h : EvP mu ta σ G (TTab x.n x.m)) (hb : EvP mu tb σ G (TPos x.I)) (o : x.ok) (o2 : (⟨x.n, x.m⟩ : NM).ok) : EvP mu (tCall S_picked [] E0 (tCons ta (tCons tb tNil))) σ G (TMx x.I.length (pk x.m x.I)) :=
  evp_c2 (x := x) (A := A_picked) (B := B_pick) h hb fun v u G1 _ p q => ⟨v, u, rfl, p, q, o, o2⟩
theorem tab_mx {n : Nat} {M : Mx} {v : V} (h : TMx n M v G) : TTab n M v G := .inl (h.imp fun i _ u r => .inl (r.imp fun j _ w t => .inl t))
abbrev S_nb : Sp := spP (pR A_tabS fun x => TB (pb x.m x.n))
theorem evp_nb {x : NM} (h : EvP mu ta σ G (TTab x.n x.m)) (o : x.sm) : EvP mu (tCall S_nb [] E0 (tCons ta tNil)) σ G (TB (pb x.m x.n)) :=
  evp_c1 (x := x) (A := A_tabS) (B := fun x => TB (pb x.m x.n)) h fun v G1 _ p => ⟨v, rfl, p, o⟩
abbrev S_det : Sp := spP (pR A_tabS B_det)
theorem evp_det {x : NM} (h : EvP mu ta σ G (TTab x.n x.m)) (o : x.sm) : EvP mu (tCall S_det [] E0 (tCons ta tNil)) σ G (B_det x) :=
  evp_c1 (x := x) (A := A_tabS) (B := B_det) h fun v G1 _ p => ⟨v, rfl, p, o⟩
abbrev S_lp : Sp := spP (pR A_tabS B_lp)
theorem evp_lp {x : NM} (h : EvP mu ta σ G (TTab x.n x.m)) (o : x.sm) : EvP mu (tCall S_lp [] E0 (tCons ta tNil)) σ G (TO (lp x)) :=
  evp_c1 (x := x) (A := A_tabS) (B := B_lp) h fun v G1 _ p => ⟨v, rfl, p, o⟩
abbrev S_bar : Sp := spP (pR A_tabS B_bar)
theorem evp_bar {x : NM} (h : EvP mu ta σ G (TTab x.n x.m)) (o : x.sm) : EvP mu (tCall S_bar [] E0 (tCons ta tNil)) σ G (B_bar x) :=
  evp_c1 (x := x) (A := A_tabS) (B := B_bar) h fun v G1 _ p => ⟨v, rfl, p, o⟩
abbrev S_isbar : Sp := spP (pR A_isbar B_isbar)
theorem evp_isbar {x : IB} (h : EvP mu ta σ G (TTab x.n x.m)) (hb : EvP mu tb σ G (Lof (fun j => TVal (x.u j)) (List.range x.n))) (o : (⟨x.n, x.m⟩ : NM).sm) (q : Qd 495 x.n x.u) : EvP mu (tCall S_isbar [] E0 (tCons ta (tCons tb tNil))) σ G (B_isbar x) :=
  evp_c2 (x := x) (A := A_isbar) (B := B_isbar) h hb fun v u G1 _ p r => ⟨v, u, rfl, p, r, o, q⟩
abbrev S_req : Sp := spP (pR A_req B_req)
theorem evp_neR {q r : Rat} (ha : EvP mu ta σ G (TRt q)) (hb : EvP mu tb σ G (TRt r)) (e : q = r) : EvP mu (tOp (rOwnNe N640.CR S_req) ta tb) σ G (TB false) :=
  evp_to (evp_ownNe (R := pR A_req B_req) (b := true) ha hb TI0.isI TI0.isI fun v u G1 _ p s => ⟨⟨q, r⟩, ⟨v, u, rfl, p, s⟩, fun v G' _ b => b.trans (by rw [show decide ((⟨q, r⟩ : RP).q = (⟨q, r⟩ : RP).r) = true from decide_eq_true e])⟩) rfl
theorem evp_isB {a b : Bool} (ha : EvP mu ta σ G (TB a)) (hb : EvP mu tb σ G (TB b)) : EvP mu (tOp rIsB ta tb) σ G (TB (decide (a = b))) :=
  evp_op ha hb fun v w G1 _ e1 e2 => RvP.pure (v := .bl (decide (a = b))) (fun Q H _ q => ⟨a, b, e1, e2, q⟩) rfl
theorem evp_lst2 {P : α → Prd} [∀ x, Mono (P x)] {x y : α} (h : EvP mu ta σ G (P x)) (h2 : EvP mu tb σ G (P y)) : EvP mu (tLst (tCons ta (tCons tb tNil))) σ G (Lof P [x, y]) := by
  refine (evp_lst (eva_2 h h2) ?_ ?_).imp ?_
  · rintro vs G1 ⟨v, w, rfl, _⟩; simp
  · rintro vs G1 G2 e ⟨v, w, rfl, p, q⟩; exact ⟨v, w, rfl, Mono.mono e p, Mono.mono e q⟩
  · rintro v G1 _ ⟨a, vs, rfl, g, y1, y2, rfl, p, q⟩; exact ⟨a, [y1, y2], rfl, g, Vof.snoc (Vof.snoc Vof.nil p) q⟩
theorem evp_rep {P : α → Prd} [∀ x, Mono (P x)] {x : α} {k : Nat} (h : EvP mu ta σ G (P x)) (hb : EvP mu tb σ G (TZ (k : Int))) (hk : k ≤ 1000) : EvP mu (tOp rRep (tLst (tCons ta tNil)) tb) σ G (Lof P (List.replicate k x)) :=
  evp_op (evp_lst1 (P := P) (x := x) h) hb fun v w G1 _ ⟨a, vs, e1, g, f⟩ e2 H hA Q q => by
    cases e2
    obtain ⟨u, ev⟩ : ∃ u, vs = [u] := by
      have := f.1
      match vs, this with
      | [u], _ => exact ⟨u, rfl⟩
    subst ev
    have pu : P x u G1 := f.2 0 u x rfl rfl
    refine ⟨a, k, [u], e1, rfl, hA.ex _ _ g, by omega, by omega, ?_, fun l hl => ?_⟩
    · have := small1000 (n := k) hk
      simp; omega
    · have e : (List.replicate ((k : Int)).toNat [u]).flatten = List.replicate k u := by
        rw [List.flatten_replicate_singleton, Int.toNat_natCast]
      rw [e]
      refine q _ _ _ (hA.new (.lst (List.replicate k u)) hl) ⟨l, _, rfl, upd_same, by simp, fun i v y h1 h2 => ?_⟩
      rw [List.getElem?_replicate] at h1 h2
      split at h1
      · rename_i hi
        rw [if_pos hi] at h2
        cases h1; cases h2
        exact Mono.mono (hA.new (.lst (List.replicate k u)) hl).gg pu
      · cases h1
theorem evp_reprO {o : Option Nat} (ho : ∀ i, o = some i → i ≤ 3) (h : EvP mu ta σ G (Lof (fun _ : Unit => TO o) [(), ()])) : EvP mu (tCB (rReprL K) (tCons ta tNil)) σ G (TIs (.str (rO o))) :=
  evp_tcb (eva_1 h) fun vs G1 _ ⟨v, e, a, us, ev, g, f⟩ => by
    obtain ⟨u, w, eu⟩ : ∃ u w, us = [u, w] := by
      have := f.1
      match us, this with
      | [u, w], _ => exact ⟨u, w, rfl⟩
    subst eu
    have p1 : TO o u G1 := f.2 0 u () rfl rfl
    have p2 : TO o w G1 := f.2 1 w () rfl rfl
    have dp : ∀ {H : Hp} {z : V}, TO o z G1 → Dp K H z (dO o) := fun {H z} p => by
      cases o with
      | none => rw [show z = _ from p]; exact .non
      | some i => rw [show z = _ from p]; exact .int _
    obtain ⟨h1, h2, h3, h4⟩ := rO_ok ho
    exact RvP.pure (v := .str (rO o)) (fun Q H hA q => ⟨a, _, by rw [e, ev], .lst (sql_at hA g) (.cons (dp p1) (.cons (dp p2) .nil)), h1, h2, h3, h4, q⟩) rfl
end N640

set_option Elab.async false
set_option linter.all false
set_option maxRecDepth 100000
set_option maxHeartbeats 4000000
/-! The law's main def. -/
namespace N640
open PySem PySem.Spec PyProof.Rows L2 Gn
section
variable {K : PySem.W.Frag} {mu : Mu} {G H G0 H0 G' H' : Hp} {σ : L2.St} {ta tb tc te : TE} {D : Ends} {p : Addr} {α : Type}
theorem lof_ix {P : α → Prd} {xs : List α} {f : Nat → α} {n : Nat} {v : V} (h : Lof P xs v G) (hn : xs.length = n) (e : ∀ i x, xs[i]? = some x → x = f i) : Lof (fun i => P (f i)) (List.range n) v G := by
  obtain ⟨a, vs, ev, g, hl, hf⟩ := h
  refine ⟨a, vs, ev, g, by rw [hl, hn]; simp, fun i u x h1 h2 => ?_⟩
  obtain ⟨rfl, hi⟩ := range_get h2
  have hx : xs[x]? = some xs[x] := List.getElem?_eq_getElem (by omega)
  have := hf x u _ h1 hx
  rw [e x _ hx] at this
  exact this
theorem chn_few {n : Nat} (n1 : 1 ≤ n) (n4 : n ≤ 4) : 1 ≤ (chn n).length ∧ (chn n).length ≤ 15 := by
  rw [chn_len]
  have : n = 1 ∨ n = 2 ∨ n = 3 ∨ n = 4 := by omega
  rcases this with rfl | rfl | rfl | rfl <;> decide
theorem dsz4 {k : Nat} (h : k ≤ 4) : dsz k ≤ 900 := by
  have : k = 0 ∨ k = 1 ∨ k = 2 ∨ k = 3 ∨ k = 4 := by omega
  rcases this with rfl | rfl | rfl | rfl | rfl <;> decide
theorem below_head {M : Mx} {n : Nat} : ((List.range n).filter fun k => !(pb M (k + 1))).head? = lp ⟨n, M⟩ := by
  rw [List.head?_filter]; rfl
theorem let_all {n : Nat} {M : Mx} (o : (⟨n, M⟩ : NM).sm) : pb M n = (chn n).all fun I => decide (0 ≤ gp (det I.length (pk M I))) := by
  rw [Bool.eq_iff_iff, pb_iff, minors_chn o.n4 o.her, List.all_eq_true]
  constructor
  · intro h I hI
    exact decide_eq_true ((re_nonneg _).mp (h I hI))
  · intro h I hI
    exact (re_nonneg _).mpr (of_decide_eq_true (h I hI))
end
variable {K : PySem.W.Frag} {mu : Mu} {G H G0 H0 G' H' : Hp} {σ : L2.St} {ta tb tc te : TE} {D : Ends} {p : Addr}
abbrev S_grown : Sp := spP (rP A_grown B_grown)
abbrev S_above : Sp := spP (rP A_above TTb)
abbrev S_any : Sp := spP (rP A_any TTb)
abbrev S_handed : Sp := spP (rP A_handed B_handed)
abbrev B_right (_ : Unit) : Prd := TB true
theorem evp_pick_range {n d : Nat} {M : Mx} (h : EvP mu ta σ G (TTab n M)) (hb : EvP mu tb σ G (TZ (d : Int))) (o : (⟨n, M⟩ : NM).sm) (d1 : 1 ≤ d) (dn : d ≤ n) : EvP mu (tCall S_picked [] E0 (tCons ta (tCons (tLstRg (tRg1 tb)) tNil))) σ G (TTab (NM.mk (List.range d).length (pk M (List.range d))).n (NM.mk (List.range d).length (pk M (List.range d))).m) := by
  have n4 : n ≤ 4 := o.n4
  have op := pos_range (n := n) (k := d - 1) (by omega) n4 M
  rw [show d - 1 + 1 = d by omega] at op
  exact (evp_picked (x := ⟨n, M, List.range d⟩) h (evp_rg hb (by omega)) op o.ok).imp fun v G1 _ q => tab_mx q
theorem sm_range {n d : Nat} {M : Mx} (o : (⟨n, M⟩ : NM).sm) (d1 : 1 ≤ d) (dn : d ≤ n) : (⟨(List.range d).length, pk M (List.range d)⟩ : NM).sm := by
  have n4 : n ≤ 4 := o.n4
  refine o.pick (I := List.range d) (fun z => ?_) (by simp; omega) fun i hi => Nat.lt_of_lt_of_le (by simpa using hi) dn
  have := congrArg List.length z
  simp at this; omega
/-- the end: the bar of the least part with noughts behind -/
theorem evp_endbar {n d : Nat} {M : Mx} {u : Nat → Gn} {i1 i3 i9 i10 : Nat} {tv sv : V} (o : (⟨n, M⟩ : NM).sm) (dn : d + 1 ≤ n) (h1 : σ[i1]? = some (some (.int (n : Int)))) (h3 : σ[i3]? = some (some tv)) (h9 : σ[i9]? = some (some (.int (d : Int)))) (h10 : σ[i10]? = some (some sv)) (hT : TTab n M tv G) (hS : TRow (d + 1) u sv G)
    (neg : (fm (pk M (List.range (d + 1))) (List.range (d + 1)) u).re < 0) (q : Qd 495 (d + 1) u) :
    EvP mu (tOp rIsB (tCall S_isbar [] E0 (tCons (tVar i3) (tCons (tOp rCat (tVar i10) (tOp rRep (tLst (tCons (tC (.int 0)) tNil)) (tOp rSubI (tOp rSubI (tVar i1) (tVar i9)) (tC (.int 1))))) tNil))) (tC (.bl true))) σ G (TB true) := by
  have n4 : n ≤ 4 := o.n4
  have e0 : decide ((fm M (List.range n) (ext0 u (d + 1))).re < 0) = true := decide_eq_true (by rw [fm_ext dn]; exact neg)
  obtain ⟨r, hr⟩ := Nat.le.dest dn
  refine evp_to (evp_isB (a := true) (b := true) (evp_to (evp_isbar (x := ⟨n, M, ext0 u (d + 1)⟩) (evp_var (P := TTab n M) h3 hT) ?_ o (qd_ext q)) (by show V.bl (decide ((fm M (List.range n) (ext0 u (d + 1))).re < 0)) = _; rw [e0])) evp_c) rfl
  have hc : EvP mu (tOp rCat (tVar i10) (tOp rRep (tLst (tCons (tC (.int 0)) tNil)) (tOp rSubI (tOp rSubI (tVar i1) (tVar i9)) (tC (.int 1))))) σ G (Lof TVal ((List.range (d + 1)).map u ++ List.replicate r 0)) := by
    refine evp_cat ((evp_var h10 hS).imp fun v G1 _ ⟨a, vs, e, g, f⟩ => ⟨a, vs, e, g, Vof.mapped (P := TVal) (f := u) (f.imp fun j _ w t => .inl t)⟩) (evp_rep (evp_cP fun G1 _ => .inr ⟨((0 : Int) : Rat), .inr ⟨0, rfl, rfl⟩, rfl⟩) (evp_to (evp_sub (evp_sub (evp_is h1) (evp_is h9)) (evp_c (v := .int 1))) (by congr 1; omega)) (by omega)) (by simp; omega)
  refine hc.imp fun v G1 _ q => lof_ix (f := ext0 u (d + 1)) q (by simp; omega) fun i x hx => ?_
  unfold ext0
  by_cases hi : i < d + 1
  · rw [List.getElem?_append_left (by simpa using hi), List.getElem?_map, List.getElem?_range hi] at hx
    cases hx
    rw [if_pos hi]
  · rw [List.getElem?_append_right (by simp; omega), List.getElem?_replicate] at hx
    rw [if_neg hi]
    split at hx
    · cases hx; rfl
    · cases hx
theorem m_Lright : SemPot (t_L_right K S_draw S_grown S_above S_any S_handed S_steps S_ch S_detU S_npart S_nb S_picked S_req S_det S_ratio S_lp S_bar S_isbar) n_L_right A_unit B_right := by
  intro mu p _ us G H hp hA e k0 k
  have e : us = [] := e
  subst e
  refine sasg (P := TIn fun m => 1 ≤ m ∧ m ≤ 3) hA (evn_I0 (P := fun j => j = 1) (evn_c rfl) (evp_drawc hp rfl (by decide) (by decide)) fun i j h1 h2 => by subst h1; omega) fun mv G1 H1 s1 ⟨mi, em, m1, m3⟩ => ?_
  subst em
  obtain ⟨m, rfl⟩ := Int.eq_ofNat_of_zero_le (show 0 ≤ mi by omega)
  have a1 := hA.stp s1
  dsimp only [tSeq]
  refine sasg (P := TTb (m + 1)) a1 (evp_if (A := fun _ => True) (evt_draw0 hp rfl (by decide) (by decide))
    (fun _ => evp_q1 (x := m) (A := A_grown) (B := B_grown) hp (evp_is rfl) (P1 := TTb m) (evp_q2 (x := m) (A := A_above) (B := TTb) hp (evp_is rfl) (evp_is (v := .int (m : Int)) rfl) (evp_c (v := .int 3)) fun u w G1 _ e1 e2 => ⟨by rw [show u = _ from e1, show w = _ from e2], by omega⟩) fun u G1 _ q => ⟨u, rfl, q, by omega⟩)
    fun _ => evp_q1 (x := m + 1) (A := A_any) (B := TTb) hp (evp_is rfl) (P1 := TZ ((m + 1 : Nat) : Int)) (evp_to (evp_add (evp_is (v := .int (m : Int)) rfl) evp_c) rfl) fun u G1 _ e => ⟨by rw [show u = _ from e], by omega, by omega⟩) fun rv G2 H2 s2 ⟨M, hM, tb⟩ => ?_
  have a2 := a1.stp s2
  have t2 := s1.trans s2
  have n1' : 1 ≤ m + 1 := by omega
  have n4' : m + 1 ≤ 4 := by omega
  have sm := tb.sm n1' n4'
  obtain ⟨n, hn⟩ : ∃ n, n = m + 1 := ⟨_, rfl⟩
  rw [← hn] at hM tb sm n1' n4'
  dsimp only [tSeq]
  refine spar (i := 1) (j := 3) a2 (P1 := TZ (n : Int)) (P2 := TTab n M) (evp_to (evp_len (P := fun i => TNRow n (M i)) (evp_var (P := Sof (fun i => TNRow n (M i)) (List.range n)) rfl (.inl hM))) (by simp)) (evp_q1 (x := (⟨n, M⟩ : NM)) (A := A_handed) (B := B_handed) hp (evp_is rfl) (P1 := TNx n M) (evp_var rfl hM) fun u G1 _ q => ⟨u, rfl, q, sm⟩) fun nv tv G3 H3 s3 e3 hT => ?_
  cases e3
  have a3 := a2.stp s3
  have t3 := t2.trans s3
  have hM3 := Mono.mono s3.gg hM
  dsimp only [tSeq]
  refine sasg (P := TB (pb M n)) a3 (evp_st0 (x := ⟨n, M⟩) (evp_var (P := TNx n M) rfl hM3) sm) fun lv G4 H4 s4 e4 => ?_
  cases e4
  have a4 := a3.stp s4
  have t4 := t3.trans s4
  have hM4 := Mono.mono s4.gg hM3
  have hT4 := Mono.mono s4.gg hT
  dsimp only [tSeq]
  obtain ⟨cl1, cl2⟩ := chn_few n1' n4'
  refine sasg (P := Lof (fun I : List Nat => TNum (det I.length (pk M I))) (chn n)) a4 (evp_lcN (PI := TPos) (evi_list (evp_ch (n := n) (evp_is rfl) n4')) (by omega) (fun _ => rfl) fun I hI v G5 e5 pv G6 e6 => evp_detU (x := (⟨I.length, pk M I⟩ : NM)) (evp_npart (x := (⟨n, M, I⟩ : PK')) (evp_var (P := TNx n M) rfl (Mono.mono (e5.trans e6) hM4)) (evp_var (P := TPos I) rfl (Mono.mono e6 pv)) (chn_ok n4' hI)) (sm.pickI hI)) fun prv G5 H5 s5 hP => ?_
  have a5 := a4.stp s5
  have t5 := t4.trans s5
  have hM5 := Mono.mono s5.gg hM4
  have hT5 := Mono.mono s5.gg hT4
  dsimp only [tSeq]
  refine siff a5 (evt_to (evt_or (a := false) (b := false) (evt_to (evt_test (evp_neB (evp_is rfl) (evp_all (f := fun I : List Nat => decide (0 ≤ gp (det I.length (pk M I)))) (evp_lcN (PI := fun I : List Nat => TNum (det I.length (pk M I))) (evi_list (evp_var (P := Lof (fun I : List Nat => TNum (det I.length (pk M I))) (chn n)) rfl hP)) (by omega) (fun _ => rfl) fun I hI v G6 e6 pv G7 e7 => evp_ge (evp_n0 (evp_var (P := TNum (det I.length (pk M I))) rfl (Mono.mono e7 pv))) evp_c)))) (by rw [decide_eq_true (let_all sm)]; rfl))
    fun _ => evt_to (evt_test (evp_neB (evp_nb (x := (⟨n, M⟩ : NM)) (evp_var (P := TTab n M) rfl hT5) sm) (evp_is rfl))) (by simp)) rfl) fun G6 H6 s6 => ?_
  have a6 := a5.stp s6
  have t6 := t5.trans s6
  have hP6 := Mono.mono s6.gg hP
  have hM6 := Mono.mono s6.gg hM5
  have hT6 := Mono.mono s6.gg hT5
  dsimp only [tNext, tSeq]
  refine sasg (P := B_draw ((chn n).length : Int)) a6 (evp_draw (i := 0) hp rfl (evp_len (P := fun I : List Nat => TNum (det I.length (pk M I))) (evp_var (P := Sof (fun I : List Nat => TNum (det I.length (pk M I))) (chn n)) rfl (.inl hP6))) (by omega) (by omega)) fun dv G7 H7 s7 ⟨di, ed, d0, d1⟩ => ?_
  subst ed
  obtain ⟨t, rfl⟩ := Int.eq_ofNat_of_zero_le d0
  have ht : t < (chn n).length := by omega
  have hI := List.getElem?_eq_getElem ht
  have hIm : (chn n)[t] ∈ chn n := List.getElem_mem ht
  generalize (chn n)[t] = I at hI hIm
  have a7 := a6.stp s7
  have t7 := t6.trans s7
  have hP7 := Mono.mono s7.gg hP6
  have hM7 := Mono.mono s7.gg hM6
  have hT7 := Mono.mono s7.gg hT6
  have oI := chn_ok n4' hIm (M := M)
  have smI := sm.pickI hIm
  have lI : I.length ≤ 4 := smI.n4
  dsimp only [tSeq]
  refine sasg (P := TMx I.length (pk M I)) a7 (evp_picked (x := (⟨n, M, I⟩ : PK')) (evp_var (P := TTab n M) rfl hT7) (evp_ixL (P := TPos) (evp_ch (n := n) (evp_is rfl) n4') (evp_is (v := .int (t : Int)) rfl) hI) oI sm.ok) fun fv G8 H8 s8 hF => ?_
  have a8 := a7.stp s8
  have t8 := t7.trans s8
  have hP8 := Mono.mono s8.gg hP7
  have hM8 := Mono.mono s8.gg hM7
  have hT8 := Mono.mono s8.gg hT7
  have hF8 := tab_mx hF
  dsimp only [tSeq]
  have szd : Sz (dsz I.length) (det I.length (pk M I)) := det_sz _ fun i hi j hj => smI.bd.sz hi hj
  refine siff a8 (evt_to (evt_test (evp_neR (q := (detJ (pk M I) (List.range I.length)).re) (r := (det I.length (pk M I)).re) (evp_det (x := (⟨I.length, pk M I⟩ : NM)) (evp_var (P := TTab I.length (pk M I)) rfl hF8) smI)
    (evp_mkR (evp_n0 (z := det I.length (pk M I)) (evp_ixL (P := fun I : List Nat => TNum (det I.length (pk M I))) (evp_var (P := Lof (fun I : List Nat => TNum (det I.length (pk M I))) (chn n)) rfl hP8) (evp_is (v := .int (t : Int)) rfl) hI)) (evp_n2 (z := det I.length (pk M I)) (evp_ixL (P := fun I : List Nat => TNum (det I.length (pk M I))) (evp_var (P := Lof (fun I : List Nat => TNum (det I.length (pk M I))) (chn n)) rfl hP8) (evp_is (v := .int (t : Int)) rfl) hI)) (gl_ne _) (bn szd.2.2 (Nat.le_trans (dsz4 lI) (by decide))) (re_g _)) (by rw [detJ_pk]))) rfl) fun G9 H9 s9 => ?_
  have a9 := a8.stp s9
  have t9 := t8.trans s9
  have hM9 := Mono.mono s9.gg hM8
  have hT9 := Mono.mono s9.gg hT8
  have hF9 := Mono.mono s9.gg hF8
  dsimp only [tNext, tSeq]
  refine siff a9 (evt_to (evt_test (evp_neB (evp_nb (x := (⟨I.length, pk M I⟩ : NM)) (evp_var (P := TTab I.length (pk M I)) rfl hF9) smI) (evp_st0 (x := (⟨I.length, pk M I⟩ : NM)) (evp_npart (x := (⟨n, M, I⟩ : PK')) (evp_var (P := TNx n M) rfl hM9) (evp_ixL (P := TPos) (evp_ch (n := n) (evp_is rfl) n4') (evp_is (v := .int (t : Int)) rfl) hI) oI) smI))) (by simp)) fun G10 H10 s10 => ?_
  have a10 := a9.stp s10
  have t10 := t9.trans s10
  have hM10 := Mono.mono s10.gg hM9
  have hT10 := Mono.mono s10.gg hT9
  dsimp only [tNext, tSeq]
  refine sasg (P := TPos ((List.range n).filter fun k => !(pb M (k + 1)))) a10 (evp_lcF (PI := fun i : Nat => TZ (i : Int)) (fun k => !(pb M (k + 1))) (evi_rn (n := n) rfl (by omega)) (by simp; omega) (fun _ => rfl) (fun i hi v G11 e11 pv => ?_) fun i hi v G11 e11 pv G12 e12 => by cases pv; exact evp_is rfl) fun bv G11 H11 s11 hB => ?_
  · cases pv
    have hi : i < n := by simpa using hi
    refine evt_to (evt_test (evp_st1 (x := (⟨(List.range (i + 1)).length, pk M (List.range (i + 1))⟩ : NM)) (evp_npart (x := (⟨n, M, List.range (i + 1)⟩ : PK')) (evp_var (P := TNx n M) rfl (Mono.mono e11 hM10)) (evp_rg (evp_to (evp_add (evp_is (v := .int (i : Int)) rfl) evp_c) rfl) (by omega)) (pos_range hi n4' M)) (sm_range sm (by omega) (by omega)))) ?_
    show (!(pb (pk M (List.range (i + 1))) (List.range (i + 1)).length)) = _
    rw [pb_pick]
  have a11 := a10.stp s11
  have t11 := t10.trans s11
  have hT11 := Mono.mono s11.gg hT10
  dsimp only [tSeq]
  have hd := below_head (M := M) (n := n)
  refine sasg (P := TO (lp ⟨n, M⟩)) a11 (evp_if (A := (· = !((List.range n).filter fun k => !(pb M (k + 1))).isEmpty)) (evt_test (evp_neNil (evp_var rfl hB))) (fun hb => ?_) fun hb => ?_) fun uv G12 H12 s12 hU => ?_
  · rw [← hd]
    cases hl : ((List.range n).filter fun k => !(pb M (k + 1))) with
    | nil => rw [hl] at hb; cases hb
    | cons x xs =>
      rw [hl] at hB
      exact evp_ixL (P := fun i : Nat => TZ (i : Int)) (i := 0) (evp_var (P := TPos (x :: xs)) rfl hB) evp_c rfl
  · rw [← hd]
    cases hl : ((List.range n).filter fun k => !(pb M (k + 1))) with
    | nil => exact evp_c
    | cons x xs => rw [hl] at hb; cases hb
  have a12 := a11.stp s12
  have t12 := t11.trans s12
  have hT12 := Mono.mono s12.gg hT11
  dsimp only [tSeq]
  have ho : ∀ i, lp ⟨n, M⟩ = some i → i ≤ 3 := fun i e => by have := (lp_some e).1; omega
  have hnone : decide (uv = V.non) = pb M n := by
    have := lp_none (M := M) n1'
    cases hl : lp ⟨n, M⟩ with
    | none =>
      rw [hl] at hU
      rw [show uv = _ from hU, pb_true (this.mp hl)]; rfl
    | some i =>
      rw [hl] at hU
      rw [show uv = _ from hU, pb_false fun z => by have := this.mpr z; rw [hl] at this; cases this]; rfl
  refine siff a12 (evt_to (evt_or (a := false) (b := false) (evt_to (evt_test (evp_ne (x := .str (rO (lp ⟨n, M⟩))) (y := .str (rO (lp ⟨n, M⟩))) (evp_reprO ho (evp_lst2 (P := fun _ : Unit => TO (lp ⟨n, M⟩)) (x := ()) (y := ()) (evp_lp (x := (⟨n, M⟩ : NM)) (evp_var (P := TTab n M) rfl hT12) sm) (evp_lp (x := (⟨n, M⟩ : NM)) (evp_var (P := TTab n M) rfl hT12) sm))) (evp_reprO ho (evp_rep (P := fun _ : Unit => TO (lp ⟨n, M⟩)) (x := ()) (k := 2) (evp_var (P := TO (lp ⟨n, M⟩)) rfl hU) evp_c (by decide))) rfl)) (by simp))
    fun _ => evt_to (evt_test (evp_neB (evp_isN0 (P := TIs uv) (b := pb M n) (evp_is rfl) fun v G1 _ q => by rw [show v = _ from q]; exact hnone) (evp_is rfl))) (by simp)) rfl) fun G13 H13 s13 => ?_
  have a13 := a12.stp s13
  have t13 := t12.trans s13
  have hT13 := Mono.mono s13.gg hT12
  dsimp only [tNext, tSeq]
  refine sifb (b := pb M n) a13 (evt_test (evp_isN0 (P := TIs uv) (b := pb M n) (evp_is rfl) fun v G1 _ q => by rw [show v = _ from q]; exact hnone)) (fun hb G14 H14 s14 => ?_) fun hb G14 H14 s14 => ?_
  · exact sret (a13.stp s14) evp_c fun v G15 H15 s15 q => k v G15 H15 ((t13.trans s14).trans s15) q
  have a14 := a13.stp s14
  have t14 := t13.trans s14
  have hT14 := Mono.mono s14.gg hT13
  have npsd : ¬ PSD M (List.range n) := fun z => by rw [pb_true z] at hb; cases hb
  cases hl : lp ⟨n, M⟩ with
  | none => exact absurd ((lp_none n1').mp hl) npsd
  | some d =>
    obtain ⟨dn, nb, lead⟩ := lp_some hl
    rw [hl] at hU
    have hU : uv = .int (d : Int) := hU
    subst hU
    dsimp only [tNext, tSeq]
    refine sasg a14 (evp_bar (x := (⟨(List.range (d + 1)).length, pk M (List.range (d + 1))⟩ : NM)) (evp_pick_range (n := n) (d := d + 1) (evp_var (P := TTab n M) rfl hT14) (evp_to (evp_add (evp_is (v := .int (d : Int)) rfl) evp_c) rfl) sm (by omega) (by omega)) (sm_range sm (by omega) (by omega))) fun sv G15 H15 s15 hS => ?_
    have a15 := a14.stp s15
    have t15 := t14.trans s15
    have hT15 := Mono.mono s15.gg hT14
    have pf1 : pb (pk M (List.range (d + 1))) (List.range (d + 1)).length = false := by rw [pb_pick]; exact pb_false nb
    unfold B_bar at hS
    rw [if_neg (by rw [pf1]; decide)] at hS
    obtain ⟨u, hS, ⟨neg, q⟩⟩ := hS
    simp only [List.length_range] at hS neg q
    dsimp only [tSeq]
    refine siff a15 (evt_to (evt_and (a := decide (0 < (d : Int))) (b := false) (evt_test (evp_gt (evp_is (v := .int (d : Int)) rfl) (evp_c (v := .int 0)))) fun hd0 => ?_) (by simp)) fun G16 H16 s16 => ?_
    · have hd0 : 0 < d := by have := of_decide_eq_true hd0; omega
      have pt : pb (pk M (List.range d)) (List.range d).length = true := by
        rw [pb_pick]
        have := lead (d - 1) (by omega)
        rw [show d - 1 + 1 = d by omega] at this
        exact pb_true this
      refine evt_to (evt_test (evp_notN0 (b := true) (evp_bar (x := (⟨(List.range d).length, pk M (List.range d)⟩ : NM)) (evp_pick_range (n := n) (d := d) (evp_var (P := TTab n M) rfl hT15) (evp_is (v := .int (d : Int)) rfl) sm (by omega) (by omega)) (sm_range sm (by omega) (by omega))) fun v G1 _ q => ?_)) rfl
      unfold B_bar at q
      rw [if_pos pt] at q
      rw [q]; rfl
    · have a16 := a15.stp s16
      have t16 := t15.trans s16
      dsimp only [tNext]
      exact sret a16 (evp_endbar (i1 := 1) (i3 := 3) (i9 := 9) (i10 := 10) sm (by omega) rfl rfl rfl rfl (Mono.mono s16.gg hT15) (Mono.mono s16.gg hS) neg q) fun v G17 H17 s17 q => k v G17 H17 (t16.trans s17) q
end N640

set_option Elab.async false
set_option linter.all false
set_option maxRecDepth 100000
set_option maxHeartbeats 4000000
/-! The law. -/
namespace N640
open PySem PySem.Spec PyProof.Rows L2 Gn
variable {K : PySem.W.Frag} {mu : Mu} {G H G0 H0 G' H' : Hp} {σ : L2.St} {ta tb tc te : TE} {D : Ends} {p : Addr}
abbrev S_right : Sp := spP (rP A_unit B_right)
def spLaw (K : PySem.W.Frag) : Sp := fun vs H Q _ => ∃ (a : Addr) (ns : List Int), vs = [.ref a] ∧ SqL K H a (ns.map V.int) ∧ ns.length ≤ 63 ∧ ∀ H', Q (.bl true) H'
def TAl : Prd := fun v G => ∃ m : Nat, Lof (fun _ : Nat => TB true) (List.range m) v G
instance : Mono TAl := ⟨fun e ⟨m, h⟩ => ⟨m, Mono.mono e h⟩⟩
/-- nothing that changes -/
def mu0 : Mu := ⟨fun _ => False, fun _ => True, fun _ _ _ _ => trivial, fun _ _ _ z => z.elim⟩
theorem at0 (H : Hp) : At mu0 H H := ⟨Ex.rfl', fun _ z => z.elim, trivial⟩
theorem at_pot (a : At mu G H) (g : G p = none) (nm : ¬ mu.mt p) {x y : Int} (h : H p = some (.lst [.int x, .int y])) (h1 : 0 ≤ y) (h2 : y < 2 ^ 40) : At (addP mu p) G H :=
  ⟨a.ex, fun b hb => hb.elim (a.nm b) fun e => e ▸ g, a.iv, x, y, h, h1, h2⟩
theorem evp_right {k : Nat} {scr : List Int} (hs : EvP mu ta σ G (TScr K scr)) (hk : EvP mu tb σ G (TZ (k : Int))) (k1 : k ≤ 1) : EvP mu (tCall S_right [] E0 (tCons (tCall (spPot K) [] E0 (tCons ta (tCons tb tNil))) tNil)) σ G (TB true) := fun G1 H e a Q q =>
  callE <| show tCall (spPot K) [] E0 (tCons ta (tCons tb tNil)) σ H fun v H1 => S_right ([v] ++ []) H1 Q E0 from
  callE <| eva_2 hs hk G1 H e a _ fun vs G2 H2 s2 ⟨v, u, e1, p1, e2⟩ => by
    cases e2
    refine ⟨mu, G2, scr, v, k, by rw [e1]; rfl, a.stp s2, p1, k1, fun p x y G3 H3 s3 h0 g nm hp y0 y1 => ?_⟩
    have a3 := (a.stp s2).stp s3
    have ap := at_pot a3 g nm hp y0 y1
    refine ⟨addP mu p, G3, TB true, ap, ⟨(), p, [], rfl, hasPot nm, rfl, fun v G' _ b => b⟩, fun w G4 H4 s4 b => ?_⟩
    refine q w G4 H4 (s2.trans ⟨?_, s4.iv.1⟩) b
    refine ⟨fun b o n e => ?_, fun b e => s4.lv b (s3.lv b e), s3.gg.trans s4.gg, s4.gh, fun b e => (s4.fr b (s3.lv b e)).trans (s3.fr b e)⟩
    refine s4.hh b o (fun z => z.elim n fun z => ?_) (s3.hh b o n e)
    rw [z, h0] at e; cases e
theorem m_law (vs : List V) (H : Hp) (Q : VK) (E : XK) (h : spLaw K vs H Q E) : t_law K S_right (spPot K) { nx := fun _ H' => Q .non H', rt := Q } (start n_law vs) H := by
  obtain ⟨a, ns, e, hs, hl, q⟩ := h
  subst e
  have hS : TScr K ns (.ref a) H := ⟨a, rfl, hs⟩
  have hr : EvP mu0 (tCB (rMax2) (tCons (tC (.int 1)) (tCons (tCB (rMin2) (tCons (tC (.int 2)) (tCons (tCB (rLenN K) (tCons (tVar 0) tNil)) tNil))) tNil))) (start n_law [.ref a]) H (TIn fun m => 1 ≤ m ∧ m ≤ 2) := by
    have h2 : EvP mu0 (tCB (rMin2) (tCons (tC (.int 2)) (tCons (tCB (rLenN K) (tCons (tVar 0) tNil)) tNil))) (start n_law [.ref a]) H (TIn fun m => m ≤ 2) :=
      evp_tcb (eva_2 evp_c (evp_lenS (K := K) (evp_var rfl hS))) fun vs G1 _ ⟨v, u, e, e1, e2⟩ => by
        cases e1; cases e2
        exact RvP.pure (v := .int (if (ns.length : Int) < 2 then ns.length else 2)) (fun Q H hA q => ⟨2, _, e, q⟩) ⟨_, rfl, by split <;> omega⟩
    exact evp_tcb (eva_2 evp_c h2) fun vs G1 _ ⟨v, u, e, e1, j, e2, hj⟩ => by
      cases e1; subst e2
      exact RvP.pure (v := .int (if j > 1 then j else 1)) (fun Q H hA q => ⟨1, j, e, q⟩) ⟨_, rfl, by split <;> omega⟩
  have hall : EvP mu0 (tCB (rAll K) (tCons (tLc (iRng1 (tCons (tCB (rMax2) (tCons (tC (.int 1)) (tCons (tCB (rMin2) (tCons (tC (.int 2)) (tCons (tCB (rLenN K) (tCons (tVar 0) tNil)) tNil))) tNil))) tNil)) (gName 1) tYes (tCall S_right [] E0 (tCons (tCall (spPot K) [] E0 (tCons (tVar 0) (tCons (tVar 1) tNil))) tNil)) [1]) tNil)) (start n_law [.ref a]) H (TB true) := by
    have hlc : EvP mu0 (tLc (iRng1 (tCons (tCB (rMax2) (tCons (tC (.int 1)) (tCons (tCB (rMin2) (tCons (tC (.int 2)) (tCons (tCB (rLenN K) (tCons (tVar 0) tNil)) tNil))) tNil))) tNil)) (gName 1) tYes (tCall S_right [] E0 (tCons (tCall (spPot K) [] E0 (tCons (tVar 0) (tCons (tVar 1) tNil))) tNil)) [1]) (start n_law [.ref a]) H TAl := fun G1 H1 e1 a1 Q q => lcE (hr G1 H1 e1 a1 _ fun v G2 H2 s2 ⟨d, ev, d0, d1⟩ => by
      subst ev
      obtain ⟨m, rfl⟩ := Int.eq_ofNat_of_zero_le (show 0 ≤ d by omega)
      have hS2 := Mono.mono (e1.trans s2.gg) hS
      exact (evp_lcN (P := fun _ : Nat => TB true) (xs := List.range m) (evi_rng (n := m) ((eva_1 (evp_c (v := .int (m : Int)))).imp fun vs G1 _ ⟨v, e, p⟩ => by rw [e, show v = _ from p]) (by omega)) (by simp; omega) (fun _ => rfl) fun i hi w G3 e3 pw G4 e4 => by
        cases pw
        have hi : i < m := by simpa using hi
        exact evp_right (k := i) (evp_var rfl (Mono.mono (e3.trans e4) hS2)) (evp_is rfl) (by omega)) G2 H2 Ex.rfl' (a1.stp s2) Q fun w G3 H3 s3 p => q w G3 H3 (s2.trans s3) ⟨m, p⟩)
    exact evp_tcb (eva_1 hlc) fun vs G1 _ ⟨v, e, m, a, ys, ev, g, f⟩ => by
      refine RvP.pure (v := .bl true) (fun Q H hA q => ⟨a, (List.range m).map fun _ => true, by rw [e, ev], by rw [← vof_bools f]; exact sql_at hA g, ?_⟩) rfl
      have : (((List.range m).map fun _ => true)).all id = true := by simp
      rw [this]; exact q
  exact sret (D := { nx := fun _ H' => Q .non H', rt := Q }) (at0 H) hall fun v G1 H1 _ p => by
    rw [show v = _ from p]; exact q H1
end N640

set_option Elab.async false
set_option linter.all false
set_option maxRecDepth 100000
set_option maxHeartbeats 4000000
/-! Packing: levels, special promises, guards. -/
namespace N640
open PySem PySem.Spec PyProof.Rows L2 Gn
section
variable {P : Program} {w : World} {K : PySem.W.Frag} {mg : Str → Option Value} {base : Heap} {i j : Nat} {x m n : Str} {sp : Sp} {dvs : List V} {Cl : Addr} {op : Operator}
theorem upCal (h : i ≤ j) (c : C8.Cal P w K mg base i x sp dvs) : C8.Cal P w K mg base j x sp dvs := let ⟨f, fd, ps, ds, F, r⟩ := c.ex; ⟨f, fd, ps, ds, F.mono h, r⟩
theorem upMet (h : i ≤ j) (c : C8.Met P w K mg base i Cl m sp dvs) : C8.Met P w K mg base j Cl m sp dvs := let ⟨f, fd, ps, ds, c1, c2, F, r⟩ := c.ex; ⟨f, fd, ps, ds, c1, c2, F.mono h, r⟩
theorem upMak (h : i ≤ j) (c : C8.Mak P w K mg base i x Cl sp dvs) : C8.Mak P w K mg base j x Cl sp dvs := let ⟨f, fd, ps, ds, M, F, r⟩ := c.ex; ⟨f, fd, ps, ds, M, F.mono h, r⟩
theorem upPrp (h : i ≤ j) (c : Prp P w K mg base i Cl x sp) : Prp P w K mg base j Cl x sp := let ⟨q, g, fd, ps, c1, c2, F, r⟩ := c.ex; ⟨⟨q, g, fd, ps, c1, c2, F.mono h, r⟩⟩
theorem upOwn (h : i ≤ j) (c : OwnB P w K mg base i Cl op sp) : OwnB P w K mg base j Cl op sp := let ⟨f, fd, ps, c1, c2, F, r⟩ := c.ex; ⟨⟨f, fd, ps, c1, c2, F.mono h, r⟩, c.rf, c.sf⟩
theorem upNe (h : i ≤ j) (c : NeB P w K mg base i Cl sp) : NeB P w K mg base j Cl sp := let ⟨f, fd, ps, F, r⟩ := c.ex; ⟨⟨f, fd, ps, F.mono h, r⟩⟩
theorem upKw (h : i ≤ j) (c : KwB P w K mg base i x n sp) : KwB P w K mg base j x n sp := let ⟨f, fd, F, r⟩ := c.ex; ⟨⟨f, fd, F.mono h, r⟩⟩
end
section
variable {P : Program} {w : World} {K : PySem.W.Frag} {mg : Str → Option Value} {base : Heap} {j k : Nat} {N ps : List Str} {d : Df} {sp : Sp} {t : TS} {x : Str} {fd : FuncData}
/-- a reading that keeps a promise of its own form -/
def Keeps (t : TS) (N : List Str) (sp : Sp) : Prop := ∀ vs H Q E, sp vs H Q E → t { nx := fun _ H' => Q .non H', rt := Q } (start N vs) H
theorem fn_okS (F : FnD K d fd) (S : FnScope N ps (defScope d.st)) (hl : ∀ vs H Q E, sp vs H Q E → vs.length = ps.length) (der : Der P w K mg base j N d t) (m : Keeps t N sp) : FnOk P w K mg base CX0 (j + 2) d.ad fd ps sp :=
  F.ok S hl fun cdv A outer s H vs Q E hr h => ⟨t, (der cdv A outer s H E hr).nox, m vs H Q E h⟩
theorem cal_fd (C : Cxt K mg) (F : FnD K d fd) (kp : PySem.W.keepIn K (.ref d.ad) = true) (g : bGlo K x d.ad = true) (b : d.ds = [] ∧ BindA d ps) (Fn : FnOk P w K mg base CX0 k d.ad fd ps sp) : C8.Cal P w K mg base k x sp [] := by
  have F' : FunD K d.nm d.ql (defArgs d.st) (defBody d.st) (defScope d.st) [] [] d.ad fd := b.1 ▸ F
  exact ⟨d.ad, fd, ps, [], Fn, C.r g, kp, F'.bindsN b.2, .nil⟩
theorem cal_ofS (C : Cxt K mg) (F : FnF K d) (g : bGlo K x d.ad = true) (b : d.ds = [] ∧ BindA d ps) (S : FnScope N ps (defScope d.st)) (hl : ∀ vs H Q E, sp vs H Q E → vs.length = ps.length) (der : Der P w K mg base j N d t) (m : Keeps t N sp) : C8.Cal P w K mg base (j + 2) x sp [] := by
  obtain ⟨⟨fd, F1⟩, _, F3⟩ := F
  exact cal_fd C F1 F3 g b (fn_okS F1 S hl der m)
theorem met_ofS {Cl : Addr} {mm : Str} (C : Cxt K mg) (F : FnF K d) (c : bCls K Cl = true) (g : bAt K Cl mm d.ad = true) (b : d.ds = [] ∧ BindA d ps) (S : FnScope N ps (defScope d.st)) (hl : ∀ vs H Q E, sp vs H Q E → vs.length = ps.length) (der : Der P w K mg base j N d t) (m : Keeps t N sp) : C8.Met P w K mg base (j + 2) Cl mm sp [] := by
  obtain ⟨⟨fd, F1⟩, F2, F3⟩ := F
  have F' : FunD K d.nm d.ql (defArgs d.st) (defBody d.st) (defScope d.st) [] [] d.ad fd := b.1 ▸ F1
  exact ⟨d.ad, fd, ps, [], bCls_ok c, ⟨He.eqO_ok g, F2, F3⟩, fn_okS F1 S hl der m, F'.bindsN b.2, .nil⟩
theorem mak_ofS {Cl : Addr} {dvs : List V} (C : Cxt K mg) (F : FnF K d) (mk : PySem.W.makesIn K Cl = true) (kp : PySem.W.keepIn K (.ref Cl) = true) (gl : bGlo K x Cl = true) (g : bAt K Cl "__init__" d.ad = true) (S : FnScope N ps (defScope d.st))
    (b : ∀ fd, FnD K d fd → ∃ ds, Vals dvs ds ∧ Binds K fd ps ds) (hl : ∀ vs H Q E, sp vs H Q E → vs.length = ps.length) (der : Der P w K mg base j N d t) (m : Keeps t N sp) : C8.Mak P w K mg base (j + 2) x Cl sp dvs := by
  obtain ⟨⟨fd, F1⟩, F2, F3⟩ := F
  obtain ⟨ds, h1, h2⟩ := b fd F1
  exact ⟨d.ad, fd, ps, ds, ⟨mk, He.eqO_ok g, F2, kp⟩, fn_okS F1 S hl der m, C.r gl, h2, h1⟩
theorem kw_of (C : Cxt K mg) (F : FnF K d) {n : Str} (g : bGlo K x d.ad = true) (e : d.ds = []) (b : ∀ (kV doc pm : Value) (an : Option Addr) (cdv ct u : Value), bindArgs (PySem.W.fnOf d.nm d.ql (defArgs d.st) (defBody d.st) (defScope d.st) .none kV doc pm an cdv ct) ⟨[], [(n, u)]⟩ = pure [(n, u)])
    (S : FnScope N [n] (defScope d.st)) {R : Rq} (hl : ∀ mu vs G P, R mu vs G P → vs.length = [n].length) (der : Der P w K mg base j N d t) (m : Meets t N R) : KwB P w K mg base (j + 2) x n (spP R) := by
  obtain ⟨⟨fd, F1⟩, _, F3⟩ := F
  refine ⟨⟨d.ad, fd, fn_ok F1 S hl der m, C.r g, F3, fun s u => ?_⟩⟩
  have F' : FunD K d.nm d.ql (defArgs d.st) (defBody d.st) (defScope d.st) [] [] d.ad fd := e ▸ F1
  obtain ⟨q1, q2, q3, q4, q5, q6, q7, q8, q9, q10, eq, _, _, hd, _⟩ := F'.ex
  subst eq
  rcases hd with ⟨_, e3⟩ | ⟨z, _⟩
  · subst e3
    exact .of_eq (b q4 q5 q6 q7 q8 q9 u)
  · exact absurd rfl z
/-! ### with guards -/
def RunG (P : Program) (w : World) (K : PySem.W.Frag) (mg : Str → Option Value) (base : Heap) (k : Nat) (f : Addr) (fd : FuncData) (ps : List Str) (sp : Sp) : Prop :=
  ∀ (A : Around) (outer : List Env) (s : Shared) (H : Hp) (args : Args) (us : List Value) (vs : List V) (Q : VK) (E : XK), A.guards = some [] → Room k A → Env0 P w K mg base A outer s H →
    BindsTo s fd args (ps.zip us) → Vals vs us → sp vs H Q E → codeAny (model P w) A (.call (.ref f) args) (L2.CR CX0 outer P w H s Q E) s
/-- a derivation that knows the guards -/
def DerG (P : Program) (w : World) (K : PySem.W.Frag) (mg : Str → Option Value) (base : Heap) (j : Nat) (N : List Str) (d : Df) (t : TS) : Prop :=
  ∀ (cdv : Value) (A : Around) (outer : List Env) (s : Shared) (H : Hp) (E : XK), A.guards = some [] → Room (j + 1) (A.deeper (envOfC d.ql (defScope d.st) s.heap.objs.size d.ad cdv)) →
    PSs (cxOf CX0 P w K mg base N d.ql (defScope d.st) d.ad cdv A outer s H E).nox (defBody d.st) t
theorem run_g (F : FnD K d fd) (S : FnScope N ps (defScope d.st)) (hl : ∀ vs H Q E, sp vs H Q E → vs.length = ps.length) (der : DerG P w K mg base j N d t) (m : Keeps t N sp) : RunG P w K mg base (j + 2) d.ad fd ps sp := by
  intro A out s H args us vs Q E hgd room e0 bnd vl pr
  obtain ⟨q1, q2, q3, q4, q5, q6, q7, q8, q9, q10, eq, look, code, _, _⟩ := F.ex
  subst eq
  have len := hl vs H Q E pr
  have old : ∀ b o, base.get? b = some o → s.heap.get? b = some o := fun b o z => (e0.bs b o z).1
  have inH := e0.mod.kin.keeps old
  have nl := e0.mod.nolimit.keeps old
  have kinds : ∀ y ∈ ps.zip us, (defScope d.st).names.lookup y.1 = some .local ∨ ((defScope d.st).names.lookup y.1 = some .cell ∧ ((cellsFrom (s.heap.objs.size + 1) (defScope d.st).names []).lookup y.1).isSome = true) := fun y hy =>
    (S.par y.1 (List.of_mem_zip (a := y.1) (b := y.2) hy).1).imp id fun z => ⟨z, PySem.W.cellsFrom_some _ _ _ (.inl z)⟩
  apply codeAny_call_function room.depth (inH _ _ look) rfl S.co S.gen rfl (PySem.W.codeRec_of inH code) (bnd _ _ _ _ ?_)
  apply wpAny_newFunctionEnv_cells S.kind kinds
  intro env0 env_eq s1 st1
  subst env_eq
  refine ⟨nl.keeps st1.toInCall.keep, codeAny_func ?_⟩
  have rd := (der q8 A out s H E hgd (room.deeper _)).nox
  have I0 := inv_start S room.hd e0 len vl st1 (CX := CX0) (E := E)
  apply wpAny_mono (rd.run [] s1 (start N vs) H _ I0 (m vs H Q E pr)) ?_ fun _ _ z => z
  intro fl s2 hs
  match fl, hs with
  | .ret u, ⟨v, _, H2, J, rv, q⟩ => exact ⟨v, H2, J.os, J.bare, J.base, J.hok, rv, q⟩
  | .next, ⟨_, H2, J, q⟩ => exact ⟨V.non, H2, J.os, J.bare, J.base, J.hok, rfl, q⟩
  | .brk, ⟨_, _, _, q⟩ => exact q.elim
  | .cont, ⟨_, _, _, q⟩ => exact q.elim
theorem calG_of (C : Cxt K mg) (F : FnF K d) (g : bGlo K x d.ad = true) (b : d.ds = [] ∧ BindA d ps) (S : FnScope N ps (defScope d.st)) (hl : ∀ vs H Q E, sp vs H Q E → vs.length = ps.length) (der : DerG P w K mg base j N d t) (m : Keeps t N sp) : CalG P w K mg base (j + 2) x sp := by
  obtain ⟨⟨fd, F1⟩, _, F3⟩ := F
  have F' : FunD K d.nm d.ql (defArgs d.st) (defBody d.st) (defScope d.st) [] [] d.ad fd := b.1 ▸ F1
  exact ⟨⟨d.ad, fd, ps, hl, run_g F1 S hl der m, C.r g, F3, F'.bindsN b.2⟩⟩
theorem meets_keeps {R : Rq} (m : Meets t N R) : Keeps t N (spP R) := fun vs H Q E ⟨mu, G, P, hA, r, q⟩ => m mu vs G H P hA r Q q
end
end N640

set_option Elab.async false
set_option linter.all false
set_option maxRecDepth 100000
set_option maxHeartbeats 4000000
/-! Packing. -/
namespace N640
open PySem PySem.Spec PyProof.Rows L2 Gn
variable {P : Program} {w : World} {K : PySem.W.Frag} {mg : Str → Option Value} {base : Heap}
theorem b_L_draw : d_L_draw.ds = [] ∧ BindA d_L_draw p_L_draw := ⟨rfl, fun kV doc pm an cdv ct us hl => by match us, hl with | [a0, a1], _ => rfl⟩
theorem k_L_draw (C : Cxt K mg) : C8.Cal P w K mg base 2 "_law_draw" S_draw [] :=
  cal_of C C.T.F_L_draw C.T.g_L_draw b_L_draw sc_L_draw (fun mu vs G P h => by obtain ⟨x, p, us, e0, _, a, _⟩ := h; rw [e0]; first | (rw [show us = _ from a]; rfl) | (obtain ⟨e, _⟩ := a; rw [e]; rfl) | (obtain ⟨_, e, _⟩ := a; rw [e]; rfl) | (obtain ⟨_, _, e, _⟩ := a; rw [e]; rfl) | (obtain ⟨_, _, _, e, _⟩ := a; rw [e]; rfl) | (obtain ⟨_, _, _, _, e, _⟩ := a; rw [e]; rfl) | (obtain ⟨⟨_, _, e, _⟩, _⟩ := a; rw [e]; rfl)) (fun cdv A outer s H E hr => der_L_draw C cdv A outer s H E hr) m_Ldraw.meets
theorem b_L_gcd : d_L_gcd.ds = [] ∧ BindA d_L_gcd p_L_gcd := ⟨rfl, fun kV doc pm an cdv ct us hl => by match us, hl with | [a0, a1], _ => rfl⟩
theorem k_L_gcd (C : Cxt K mg) : C8.Cal P w K mg base 2 "_law_gcd" S_gcd [] :=
  cal_of C C.T.F_L_gcd C.T.g_L_gcd b_L_gcd sc_L_gcd (fun mu vs G P h => by obtain ⟨x, a, _⟩ := h; first | (rw [show vs = _ from a]; rfl) | (obtain ⟨e, _⟩ := a; rw [e]; rfl) | (obtain ⟨_, e, _⟩ := a; rw [e]; rfl) | (obtain ⟨_, _, e, _⟩ := a; rw [e]; rfl) | (obtain ⟨_, _, _, e, _⟩ := a; rw [e]; rfl) | (obtain ⟨_, _, _, _, e, _⟩ := a; rw [e]; rfl) | (obtain ⟨⟨_, _, e, _⟩, _⟩ := a; rw [e]; rfl)) (fun cdv A outer s H E hr => der_L_gcd C cdv A outer s H E hr) m_Lgcd.meets
theorem b_L_low : d_L_low.ds = [] ∧ BindA d_L_low p_L_low := ⟨rfl, fun kV doc pm an cdv ct us hl => by match us, hl with | [a0, a1, a2], _ => rfl⟩
theorem k_L_low (C : Cxt K mg) : C8.Cal P w K mg base 4 "_law_low" S_low [] :=
  cal_of C C.T.F_L_low C.T.g_L_low b_L_low sc_L_low (fun mu vs G P h => by obtain ⟨x, a, _⟩ := h; first | (rw [show vs = _ from a]; rfl) | (obtain ⟨e, _⟩ := a; rw [e]; rfl) | (obtain ⟨_, e, _⟩ := a; rw [e]; rfl) | (obtain ⟨_, _, e, _⟩ := a; rw [e]; rfl) | (obtain ⟨_, _, _, e, _⟩ := a; rw [e]; rfl) | (obtain ⟨_, _, _, _, e, _⟩ := a; rw [e]; rfl) | (obtain ⟨⟨_, _, e, _⟩, _⟩ := a; rw [e]; rfl)) (fun cdv A outer s H E hr => der_L_low C (upCal (by decide) (k_L_gcd C)) cdv A outer s H E hr) m_Llow.meets
theorem b_L_number : d_L_number.ds = [] ∧ BindA d_L_number p_L_number := ⟨rfl, fun kV doc pm an cdv ct us hl => by match us, hl with | [a0], _ => rfl⟩
theorem k_L_number (C : Cxt K mg) : C8.Cal P w K mg base 6 "_law_number" S_number [] :=
  cal_of C C.T.F_L_number C.T.g_L_number b_L_number sc_L_number (fun mu vs G P h => by obtain ⟨x, p, us, e0, _, a, _⟩ := h; rw [e0]; first | (rw [show us = _ from a]; rfl) | (obtain ⟨e, _⟩ := a; rw [e]; rfl) | (obtain ⟨_, e, _⟩ := a; rw [e]; rfl) | (obtain ⟨_, _, e, _⟩ := a; rw [e]; rfl) | (obtain ⟨_, _, _, e, _⟩ := a; rw [e]; rfl) | (obtain ⟨_, _, _, _, e, _⟩ := a; rw [e]; rfl) | (obtain ⟨⟨_, _, e, _⟩, _⟩ := a; rw [e]; rfl)) (fun cdv A outer s H E hr => der_L_number C (upCal (by decide) (k_L_draw C)) (upCal (by decide) (k_L_low C)) cdv A outer s H E hr) m_Lnumber.meets
theorem b_L_mirror : d_L_mirror.ds = [] ∧ BindA d_L_mirror p_L_mirror := ⟨rfl, fun kV doc pm an cdv ct us hl => by match us, hl with | [a0], _ => rfl⟩
theorem k_L_mirror (C : Cxt K mg) : C8.Cal P w K mg base 2 "_law_mirror" S_nconj [] :=
  cal_of C C.T.F_L_mirror C.T.g_L_mirror b_L_mirror sc_L_mirror (fun mu vs G P h => by obtain ⟨x, a, _⟩ := h; first | (rw [show vs = _ from a]; rfl) | (obtain ⟨e, _⟩ := a; rw [e]; rfl) | (obtain ⟨_, e, _⟩ := a; rw [e]; rfl) | (obtain ⟨_, _, e, _⟩ := a; rw [e]; rfl) | (obtain ⟨_, _, _, e, _⟩ := a; rw [e]; rfl) | (obtain ⟨_, _, _, _, e, _⟩ := a; rw [e]; rfl) | (obtain ⟨⟨_, _, e, _⟩, _⟩ := a; rw [e]; rfl)) (fun cdv A outer s H E hr => der_L_mirror C cdv A outer s H E hr) m_Lmirror.meets
theorem b_L_grown : d_L_grown.ds = [] ∧ BindA d_L_grown p_L_grown := ⟨rfl, fun kV doc pm an cdv ct us hl => by match us, hl with | [a0, a1], _ => rfl⟩
theorem k_L_grown (C : Cxt K mg) : C8.Cal P w K mg base 8 "_law_grown" S_grown [] :=
  cal_of C C.T.F_L_grown C.T.g_L_grown b_L_grown sc_L_grown (fun mu vs G P h => by obtain ⟨x, p, us, e0, _, a, _⟩ := h; rw [e0]; first | (rw [show us = _ from a]; rfl) | (obtain ⟨e, _⟩ := a; rw [e]; rfl) | (obtain ⟨_, e, _⟩ := a; rw [e]; rfl) | (obtain ⟨_, _, e, _⟩ := a; rw [e]; rfl) | (obtain ⟨_, _, _, e, _⟩ := a; rw [e]; rfl) | (obtain ⟨_, _, _, _, e, _⟩ := a; rw [e]; rfl) | (obtain ⟨⟨_, _, e, _⟩, _⟩ := a; rw [e]; rfl)) (fun cdv A outer s H E hr => der_L_grown C (upCal (by decide) (k_L_draw C)) (upCal (by decide) (k_L_number C)) (upCal (by decide) (k_L_mirror C)) (upCal (by decide) (k_L_low C)) cdv A outer s H E hr) m_Lgrown.meets
theorem b_L_plus : d_L_plus.ds = [] ∧ BindA d_L_plus p_L_plus := ⟨rfl, fun kV doc pm an cdv ct us hl => by match us, hl with | [a0, a1], _ => rfl⟩
theorem k_L_plus (C : Cxt K mg) : C8.Cal P w K mg base 6 "_law_plus" S_nadd [] :=
  cal_of C C.T.F_L_plus C.T.g_L_plus b_L_plus sc_L_plus (fun mu vs G P h => by obtain ⟨x, a, _⟩ := h; first | (rw [show vs = _ from a]; rfl) | (obtain ⟨e, _⟩ := a; rw [e]; rfl) | (obtain ⟨_, e, _⟩ := a; rw [e]; rfl) | (obtain ⟨_, _, e, _⟩ := a; rw [e]; rfl) | (obtain ⟨_, _, _, e, _⟩ := a; rw [e]; rfl) | (obtain ⟨_, _, _, _, e, _⟩ := a; rw [e]; rfl) | (obtain ⟨⟨_, _, e, _⟩, _⟩ := a; rw [e]; rfl)) (fun cdv A outer s H E hr => der_L_plus C (upCal (by decide) (k_L_low C)) cdv A outer s H E hr) m_Lplus.meets
theorem b_L_sum : d_L_sum.ds = [] ∧ BindA d_L_sum p_L_sum := ⟨rfl, fun kV doc pm an cdv ct us hl => by match us, hl with | [a0], _ => rfl⟩
theorem k_L_sum (C : Cxt K mg) : C8.Cal P w K mg base 8 "_law_sum" S_lsum [] :=
  cal_of C C.T.F_L_sum C.T.g_L_sum b_L_sum sc_L_sum (fun mu vs G P h => by obtain ⟨x, a, _⟩ := h; first | (rw [show vs = _ from a]; rfl) | (obtain ⟨e, _⟩ := a; rw [e]; rfl) | (obtain ⟨_, e, _⟩ := a; rw [e]; rfl) | (obtain ⟨_, _, e, _⟩ := a; rw [e]; rfl) | (obtain ⟨_, _, _, e, _⟩ := a; rw [e]; rfl) | (obtain ⟨_, _, _, _, e, _⟩ := a; rw [e]; rfl) | (obtain ⟨⟨_, _, e, _⟩, _⟩ := a; rw [e]; rfl)) (fun cdv A outer s H E hr => der_L_sum C (upCal (by decide) (k_L_plus C)) cdv A outer s H E hr) m_Lsum.meets
theorem b_L_by : d_L_by.ds = [] ∧ BindA d_L_by p_L_by := ⟨rfl, fun kV doc pm an cdv ct us hl => by match us, hl with | [a0, a1], _ => rfl⟩
theorem k_L_by (C : Cxt K mg) : C8.Cal P w K mg base 6 "_law_by" S_nmul [] :=
  cal_of C C.T.F_L_by C.T.g_L_by b_L_by sc_L_by (fun mu vs G P h => by obtain ⟨x, a, _⟩ := h; first | (rw [show vs = _ from a]; rfl) | (obtain ⟨e, _⟩ := a; rw [e]; rfl) | (obtain ⟨_, e, _⟩ := a; rw [e]; rfl) | (obtain ⟨_, _, e, _⟩ := a; rw [e]; rfl) | (obtain ⟨_, _, _, e, _⟩ := a; rw [e]; rfl) | (obtain ⟨_, _, _, _, e, _⟩ := a; rw [e]; rfl) | (obtain ⟨⟨_, _, e, _⟩, _⟩ := a; rw [e]; rfl)) (fun cdv A outer s H E hr => der_L_by C (upCal (by decide) (k_L_low C)) cdv A outer s H E hr) m_Lby.meets
theorem b_L_made : d_L_made.ds = [] ∧ BindA d_L_made p_L_made := ⟨rfl, fun kV doc pm an cdv ct us hl => by match us, hl with | [a0, a1], _ => rfl⟩
theorem k_L_made (C : Cxt K mg) : C8.Cal P w K mg base 10 "_law_made" S_made [] :=
  cal_of C C.T.F_L_made C.T.g_L_made b_L_made sc_L_made (fun mu vs G P h => by obtain ⟨x, a, _⟩ := h; first | (rw [show vs = _ from a]; rfl) | (obtain ⟨e, _⟩ := a; rw [e]; rfl) | (obtain ⟨_, e, _⟩ := a; rw [e]; rfl) | (obtain ⟨_, _, e, _⟩ := a; rw [e]; rfl) | (obtain ⟨_, _, _, e, _⟩ := a; rw [e]; rfl) | (obtain ⟨_, _, _, _, e, _⟩ := a; rw [e]; rfl) | (obtain ⟨⟨_, _, e, _⟩, _⟩ := a; rw [e]; rfl)) (fun cdv A outer s H E hr => der_L_made C (upCal (by decide) (k_L_sum C)) (upCal (by decide) (k_L_by C)) (upCal (by decide) (k_L_mirror C)) cdv A outer s H E hr) m_Lmade.meets
theorem b_L_whole : d_L_whole.ds = [] ∧ BindA d_L_whole p_L_whole := ⟨rfl, fun kV doc pm an cdv ct us hl => by match us, hl with | [a0], _ => rfl⟩
theorem k_L_whole (C : Cxt K mg) : C8.Cal P w K mg base 4 "_law_whole" S_whole [] :=
  cal_of C C.T.F_L_whole C.T.g_L_whole b_L_whole sc_L_whole (fun mu vs G P h => by obtain ⟨x, p, us, e0, _, a, _⟩ := h; rw [e0]; first | (rw [show us = _ from a]; rfl) | (obtain ⟨e, _⟩ := a; rw [e]; rfl) | (obtain ⟨_, e, _⟩ := a; rw [e]; rfl) | (obtain ⟨_, _, e, _⟩ := a; rw [e]; rfl) | (obtain ⟨_, _, _, e, _⟩ := a; rw [e]; rfl) | (obtain ⟨_, _, _, _, e, _⟩ := a; rw [e]; rfl) | (obtain ⟨⟨_, _, e, _⟩, _⟩ := a; rw [e]; rfl)) (fun cdv A outer s H E hr => der_L_whole C (upCal (by decide) (k_L_draw C)) cdv A outer s H E hr) m_Lwhole.meets
theorem b_L_row : d_L_row.ds = [] ∧ BindA d_L_row p_L_row := ⟨rfl, fun kV doc pm an cdv ct us hl => by match us, hl with | [a0, a1], _ => rfl⟩
theorem k_L_row (C : Cxt K mg) : C8.Cal P w K mg base 6 "_law_row" S_row [] :=
  cal_of C C.T.F_L_row C.T.g_L_row b_L_row sc_L_row (fun mu vs G P h => by obtain ⟨x, p, us, e0, _, a, _⟩ := h; rw [e0]; first | (rw [show us = _ from a]; rfl) | (obtain ⟨e, _⟩ := a; rw [e]; rfl) | (obtain ⟨_, e, _⟩ := a; rw [e]; rfl) | (obtain ⟨_, _, e, _⟩ := a; rw [e]; rfl) | (obtain ⟨_, _, _, e, _⟩ := a; rw [e]; rfl) | (obtain ⟨_, _, _, _, e, _⟩ := a; rw [e]; rfl) | (obtain ⟨⟨_, _, e, _⟩, _⟩ := a; rw [e]; rfl)) (fun cdv A outer s H E hr => der_L_row C (upCal (by decide) (k_L_draw C)) (upCal (by decide) (k_L_whole C)) cdv A outer s H E hr) m_Lrow.meets
theorem b_L_weight : d_L_weight.ds = [] ∧ BindA d_L_weight p_L_weight := ⟨rfl, fun kV doc pm an cdv ct us hl => by match us, hl with | [a0], _ => rfl⟩
theorem k_L_weight (C : Cxt K mg) : C8.Cal P w K mg base 6 "_law_weight" S_weight [] :=
  cal_of C C.T.F_L_weight C.T.g_L_weight b_L_weight sc_L_weight (fun mu vs G P h => by obtain ⟨x, p, us, e0, _, a, _⟩ := h; rw [e0]; first | (rw [show us = _ from a]; rfl) | (obtain ⟨e, _⟩ := a; rw [e]; rfl) | (obtain ⟨_, e, _⟩ := a; rw [e]; rfl) | (obtain ⟨_, _, e, _⟩ := a; rw [e]; rfl) | (obtain ⟨_, _, _, e, _⟩ := a; rw [e]; rfl) | (obtain ⟨_, _, _, _, e, _⟩ := a; rw [e]; rfl) | (obtain ⟨⟨_, _, e, _⟩, _⟩ := a; rw [e]; rfl)) (fun cdv A outer s H E hr => der_L_weight C (upCal (by decide) (k_L_low C)) (upCal (by decide) (k_L_draw C)) cdv A outer s H E hr) m_Lweight.meets
theorem b_L_above : d_L_above.ds = [] ∧ BindA d_L_above p_L_above := ⟨rfl, fun kV doc pm an cdv ct us hl => by match us, hl with | [a0, a1, a2], _ => rfl⟩
theorem k_L_above (C : Cxt K mg) : C8.Cal P w K mg base 12 "_law_above" S_above [] :=
  cal_of C C.T.F_L_above C.T.g_L_above b_L_above sc_L_above (fun mu vs G P h => by obtain ⟨x, p, us, e0, _, a, _⟩ := h; rw [e0]; first | (rw [show us = _ from a]; rfl) | (obtain ⟨e, _⟩ := a; rw [e]; rfl) | (obtain ⟨_, e, _⟩ := a; rw [e]; rfl) | (obtain ⟨_, _, e, _⟩ := a; rw [e]; rfl) | (obtain ⟨_, _, _, e, _⟩ := a; rw [e]; rfl) | (obtain ⟨_, _, _, _, e, _⟩ := a; rw [e]; rfl) | (obtain ⟨⟨_, _, e, _⟩, _⟩ := a; rw [e]; rfl)) (fun cdv A outer s H E hr => der_L_above C (upCal (by decide) (k_L_made C)) (upCal (by decide) (k_L_draw C)) (upCal (by decide) (k_L_row C)) (upCal (by decide) (k_L_weight C)) cdv A outer s H E hr) m_Labove.meets
theorem b_L_any : d_L_any.ds = [] ∧ BindA d_L_any p_L_any := ⟨rfl, fun kV doc pm an cdv ct us hl => by match us, hl with | [a0, a1], _ => rfl⟩
theorem k_L_any (C : Cxt K mg) : C8.Cal P w K mg base 12 "_law_any" S_any [] :=
  cal_of C C.T.F_L_any C.T.g_L_any b_L_any sc_L_any (fun mu vs G P h => by obtain ⟨x, p, us, e0, _, a, _⟩ := h; rw [e0]; first | (rw [show us = _ from a]; rfl) | (obtain ⟨e, _⟩ := a; rw [e]; rfl) | (obtain ⟨_, e, _⟩ := a; rw [e]; rfl) | (obtain ⟨_, _, e, _⟩ := a; rw [e]; rfl) | (obtain ⟨_, _, _, e, _⟩ := a; rw [e]; rfl) | (obtain ⟨_, _, _, _, e, _⟩ := a; rw [e]; rfl) | (obtain ⟨⟨_, _, e, _⟩, _⟩ := a; rw [e]; rfl)) (fun cdv A outer s H E hr => der_L_any C (upCal (by decide) (k_L_draw C)) (upCal (by decide) (k_L_weight C)) (upCal (by decide) (k_L_row C)) (upCal (by decide) (k_L_made C)) (upCal (by decide) (k_L_low C)) (upCal (by decide) (k_L_number C)) (upCal (by decide) (k_L_mirror C)) cdv A outer s H E hr) m_Lany.meets
theorem b_is_integer : d_is_integer.ds = [] ∧ BindA d_is_integer p_is_integer := ⟨rfl, fun kV doc pm an cdv ct us hl => by match us, hl with | [a0], _ => rfl⟩
theorem k_is_integer (C : Cxt K mg) : C8.Cal P w K mg base 2 "is_integer" S_isint [] :=
  cal_of C C.T.F_is_integer C.T.g_is_integer b_is_integer sc_is_integer (fun mu vs G P h => by obtain ⟨x, a, _⟩ := h; first | (rw [show vs = _ from a]; rfl) | (obtain ⟨e, _⟩ := a; rw [e]; rfl) | (obtain ⟨_, e, _⟩ := a; rw [e]; rfl) | (obtain ⟨_, _, e, _⟩ := a; rw [e]; rfl) | (obtain ⟨_, _, _, e, _⟩ := a; rw [e]; rfl) | (obtain ⟨_, _, _, _, e, _⟩ := a; rw [e]; rfl) | (obtain ⟨⟨_, _, e, _⟩, _⟩ := a; rw [e]; rfl)) (fun cdv A outer s H E hr => der_is_integer C cdv A outer s H E hr) (m_isint C.T).meets
theorem b_common_part : d_common_part.ds = [] ∧ BindA d_common_part p_common_part := ⟨rfl, fun kV doc pm an cdv ct us hl => by match us, hl with | [a0, a1], _ => rfl⟩
theorem k_common_part (C : Cxt K mg) : C8.Cal P w K mg base 2 "common_part" S_gcd [] :=
  cal_of C C.T.F_common_part C.T.g_common_part b_common_part sc_common_part (fun mu vs G P h => by obtain ⟨x, a, _⟩ := h; first | (rw [show vs = _ from a]; rfl) | (obtain ⟨e, _⟩ := a; rw [e]; rfl) | (obtain ⟨_, e, _⟩ := a; rw [e]; rfl) | (obtain ⟨_, _, e, _⟩ := a; rw [e]; rfl) | (obtain ⟨_, _, _, e, _⟩ := a; rw [e]; rfl) | (obtain ⟨_, _, _, _, e, _⟩ := a; rw [e]; rfl) | (obtain ⟨⟨_, _, e, _⟩, _⟩ := a; rw [e]; rfl)) (fun cdv A outer s H E hr => der_common_part C cdv A outer s H E hr) m_gcd.meets
theorem k_Ratio_init0 (C : Cxt K mg) : C8.Mak P w K mg base 4 "Ratio" CR S_ratio [] :=
  mak_of C C.T.F_Ratio_init C.T.mkR C.T.kpR C.T.gloR C.T.atR_init sc_Ratio_init (fun fd F => F.binds1 (ps := p_Ratio_init) 3 1 (by decide) rfl fun T kV doc pm an cdv ct us its h1 h2 => by match us, its, h1, h2 with | [a0, a1, a2], [z], _, _ => exact ⟨_, rfl, rfl⟩) (fun mu vs G P h => by obtain ⟨x, a, _⟩ := h; first | (rw [show vs = _ from a]; rfl) | (obtain ⟨e, _⟩ := a; rw [e]; rfl) | (obtain ⟨_, e, _⟩ := a; rw [e]; rfl) | (obtain ⟨_, _, e, _⟩ := a; rw [e]; rfl) | (obtain ⟨_, _, _, e, _⟩ := a; rw [e]; rfl) | (obtain ⟨_, _, _, _, e, _⟩ := a; rw [e]; rfl) | (obtain ⟨⟨_, _, e, _⟩, _⟩ := a; rw [e]; rfl)) (fun cdv A outer s H E hr => der_Ratio_init C (upCal (by decide) (k_is_integer C)) (upCal (by decide) (k_common_part C)) cdv A outer s H E hr) (m_ratio C.T)
theorem k_Ratio_init1 (C : Cxt K mg) : C8.Mak P w K mg base 4 "Ratio" CR S_ratio [.int 1] :=
  mak_of C C.T.F_Ratio_init C.T.mkR C.T.kpR C.T.gloR C.T.atR_init sc_Ratio_init (fun fd F => F.binds1 (ps := p_Ratio_init) 2 0 (by decide) rfl fun T kV doc pm an cdv ct us its h1 h2 => by match us, its, h1, h2 with | [a0, a1], [z], _, _ => exact ⟨_, rfl, rfl⟩) (fun mu vs G P h => by obtain ⟨x, a, _⟩ := h; first | (rw [show vs = _ from a]; rfl) | (obtain ⟨e, _⟩ := a; rw [e]; rfl) | (obtain ⟨_, e, _⟩ := a; rw [e]; rfl) | (obtain ⟨_, _, e, _⟩ := a; rw [e]; rfl) | (obtain ⟨_, _, _, e, _⟩ := a; rw [e]; rfl) | (obtain ⟨_, _, _, _, e, _⟩ := a; rw [e]; rfl) | (obtain ⟨⟨_, _, e, _⟩, _⟩ := a; rw [e]; rfl)) (fun cdv A outer s H E hr => der_Ratio_init C (upCal (by decide) (k_is_integer C)) (upCal (by decide) (k_common_part C)) cdv A outer s H E hr) (m_ratio C.T)
theorem b_told_pair : d_told_pair.ds = [] ∧ BindA d_told_pair p_told_pair := ⟨rfl, fun kV doc pm an cdv ct us hl => by match us, hl with | [a0], _ => rfl⟩
theorem k_told_pair (C : Cxt K mg) : C8.Cal P w K mg base 4 "told_pair" S_pair [] :=
  cal_of C C.T.F_told_pair C.T.g_told_pair b_told_pair sc_told_pair (fun mu vs G P h => by obtain ⟨x, a, _⟩ := h; first | (rw [show vs = _ from a]; rfl) | (obtain ⟨e, _⟩ := a; rw [e]; rfl) | (obtain ⟨_, e, _⟩ := a; rw [e]; rfl) | (obtain ⟨_, _, e, _⟩ := a; rw [e]; rfl) | (obtain ⟨_, _, _, e, _⟩ := a; rw [e]; rfl) | (obtain ⟨_, _, _, _, e, _⟩ := a; rw [e]; rfl) | (obtain ⟨⟨_, _, e, _⟩, _⟩ := a; rw [e]; rfl)) (fun cdv A outer s H E hr => der_told_pair C (upCal (by decide) (k_is_integer C)) cdv A outer s H E hr) (m_pair C.T).meets
theorem b_handed_parts : d_handed_parts.ds = [] ∧ BindA d_handed_parts p_handed_parts := ⟨rfl, fun kV doc pm an cdv ct us hl => by match us, hl with | [a0, a1], _ => rfl⟩
theorem k_handed_parts (C : Cxt K mg) : C8.Cal P w K mg base 6 "handed_parts" S_hand [] :=
  cal_of C C.T.F_handed_parts C.T.g_handed_parts b_handed_parts sc_handed_parts (fun mu vs G P h => by obtain ⟨x, a, _⟩ := h; first | (rw [show vs = _ from a]; rfl) | (obtain ⟨e, _⟩ := a; rw [e]; rfl) | (obtain ⟨_, e, _⟩ := a; rw [e]; rfl) | (obtain ⟨_, _, e, _⟩ := a; rw [e]; rfl) | (obtain ⟨_, _, _, e, _⟩ := a; rw [e]; rfl) | (obtain ⟨_, _, _, _, e, _⟩ := a; rw [e]; rfl) | (obtain ⟨⟨_, _, e, _⟩, _⟩ := a; rw [e]; rfl)) (fun cdv A outer s H E hr => der_handed_parts C (upCal (by decide) (k_told_pair C)) cdv A outer s H E hr) (m_hand C.T).meets
theorem k_Twin_init0 (C : Cxt K mg) : C8.Mak P w K mg base 8 "Twin" CT S_mkTwin [] :=
  mak_of C C.T.F_Twin_init C.T.mkT C.T.kpT C.T.gloT C.T.atT_init sc_Twin_init (fun fd F => F.binds1 (ps := p_Twin_init) 3 1 (by decide) rfl fun T kV doc pm an cdv ct us its h1 h2 => by match us, its, h1, h2 with | [a0, a1, a2], [z], _, _ => exact ⟨_, rfl, rfl⟩) (fun mu vs G P h => by obtain ⟨x, a, _⟩ := h; first | (rw [show vs = _ from a]; rfl) | (obtain ⟨e, _⟩ := a; rw [e]; rfl) | (obtain ⟨_, e, _⟩ := a; rw [e]; rfl) | (obtain ⟨_, _, e, _⟩ := a; rw [e]; rfl) | (obtain ⟨_, _, _, e, _⟩ := a; rw [e]; rfl) | (obtain ⟨_, _, _, _, e, _⟩ := a; rw [e]; rfl) | (obtain ⟨⟨_, _, e, _⟩, _⟩ := a; rw [e]; rfl)) (fun cdv A outer s H E hr => der_Twin_init C (upCal (by decide) (k_handed_parts C)) (upCal (by decide) (k_common_part C)) cdv A outer s H E hr) (m_twin C.T)
theorem k_Twin_init1 (C : Cxt K mg) : C8.Mak P w K mg base 8 "Twin" CT S_mkTwin [.int 0] :=
  mak_of C C.T.F_Twin_init C.T.mkT C.T.kpT C.T.gloT C.T.atT_init sc_Twin_init (fun fd F => F.binds1 (ps := p_Twin_init) 2 0 (by decide) rfl fun T kV doc pm an cdv ct us its h1 h2 => by match us, its, h1, h2 with | [a0, a1], [z], _, _ => exact ⟨_, rfl, rfl⟩) (fun mu vs G P h => by obtain ⟨x, a, _⟩ := h; first | (rw [show vs = _ from a]; rfl) | (obtain ⟨e, _⟩ := a; rw [e]; rfl) | (obtain ⟨_, e, _⟩ := a; rw [e]; rfl) | (obtain ⟨_, _, e, _⟩ := a; rw [e]; rfl) | (obtain ⟨_, _, _, e, _⟩ := a; rw [e]; rfl) | (obtain ⟨_, _, _, _, e, _⟩ := a; rw [e]; rfl) | (obtain ⟨⟨_, _, e, _⟩, _⟩ := a; rw [e]; rfl)) (fun cdv A outer s H E hr => der_Twin_init C (upCal (by decide) (k_handed_parts C)) (upCal (by decide) (k_common_part C)) cdv A outer s H E hr) (m_twin C.T)
theorem b_L_twin : d_L_twin.ds = [] ∧ BindA d_L_twin p_L_twin := ⟨rfl, fun kV doc pm an cdv ct us hl => by match us, hl with | [a0], _ => rfl⟩
theorem k_L_twin (C : Cxt K mg) : C8.Cal P w K mg base 10 "_law_twin" S_Ltwin [] :=
  cal_of C C.T.F_L_twin C.T.g_L_twin b_L_twin sc_L_twin (fun mu vs G P h => by obtain ⟨x, a, _⟩ := h; first | (rw [show vs = _ from a]; rfl) | (obtain ⟨e, _⟩ := a; rw [e]; rfl) | (obtain ⟨_, e, _⟩ := a; rw [e]; rfl) | (obtain ⟨_, _, e, _⟩ := a; rw [e]; rfl) | (obtain ⟨_, _, _, e, _⟩ := a; rw [e]; rfl) | (obtain ⟨_, _, _, _, e, _⟩ := a; rw [e]; rfl) | (obtain ⟨⟨_, _, e, _⟩, _⟩ := a; rw [e]; rfl)) (fun cdv A outer s H E hr => der_L_twin C (upMak (by decide) (k_Twin_init0 C)) (upMak (by decide) (k_Ratio_init0 C)) cdv A outer s H E hr) m_Ltwin.meets
theorem b_L_passed : d_L_passed.ds = [] ∧ BindA d_L_passed p_L_passed := ⟨rfl, fun kV doc pm an cdv ct us hl => by match us, hl with | [a0, a1], _ => rfl⟩
theorem k_L_passed (C : Cxt K mg) : C8.Cal P w K mg base 12 "_law_passed" S_passed [] :=
  cal_of C C.T.F_L_passed C.T.g_L_passed b_L_passed sc_L_passed (fun mu vs G P h => by obtain ⟨x, p, us, e0, _, a, _⟩ := h; rw [e0]; first | (rw [show us = _ from a]; rfl) | (obtain ⟨e, _⟩ := a; rw [e]; rfl) | (obtain ⟨_, e, _⟩ := a; rw [e]; rfl) | (obtain ⟨_, _, e, _⟩ := a; rw [e]; rfl) | (obtain ⟨_, _, _, e, _⟩ := a; rw [e]; rfl) | (obtain ⟨_, _, _, _, e, _⟩ := a; rw [e]; rfl) | (obtain ⟨⟨_, _, e, _⟩, _⟩ := a; rw [e]; rfl)) (fun cdv A outer s H E hr => der_L_passed C (upCal (by decide) (k_L_draw C)) (upMak (by decide) (k_Ratio_init0 C)) (upCal (by decide) (k_L_twin C)) cdv A outer s H E hr) m_Lpassed.meets
theorem b_L_handed : d_L_handed.ds = [] ∧ BindA d_L_handed p_L_handed := ⟨rfl, fun kV doc pm an cdv ct us hl => by match us, hl with | [a0, a1], _ => rfl⟩
theorem k_L_handed (C : Cxt K mg) : C8.Cal P w K mg base 14 "_law_handed" S_handed [] :=
  cal_of C C.T.F_L_handed C.T.g_L_handed b_L_handed sc_L_handed (fun mu vs G P h => by obtain ⟨x, p, us, e0, _, a, _⟩ := h; rw [e0]; first | (rw [show us = _ from a]; rfl) | (obtain ⟨e, _⟩ := a; rw [e]; rfl) | (obtain ⟨_, e, _⟩ := a; rw [e]; rfl) | (obtain ⟨_, _, e, _⟩ := a; rw [e]; rfl) | (obtain ⟨_, _, _, e, _⟩ := a; rw [e]; rfl) | (obtain ⟨_, _, _, _, e, _⟩ := a; rw [e]; rfl) | (obtain ⟨⟨_, _, e, _⟩, _⟩ := a; rw [e]; rfl)) (fun cdv A outer s H E hr => der_L_handed C (upCal (by decide) (k_L_passed C)) (upCal (by decide) (k_L_draw C)) cdv A outer s H E hr) m_Lhanded.meets
theorem b_L_over : d_L_over.ds = [] ∧ BindA d_L_over p_L_over := ⟨rfl, fun kV doc pm an cdv ct us hl => by match us, hl with | [a0, a1], _ => rfl⟩
theorem k_L_over (C : Cxt K mg) : C8.Cal P w K mg base 8 "_law_over" S_nover [] :=
  cal_of C C.T.F_L_over C.T.g_L_over b_L_over sc_L_over (fun mu vs G P h => by obtain ⟨x, a, _⟩ := h; first | (rw [show vs = _ from a]; rfl) | (obtain ⟨e, _⟩ := a; rw [e]; rfl) | (obtain ⟨_, e, _⟩ := a; rw [e]; rfl) | (obtain ⟨_, _, e, _⟩ := a; rw [e]; rfl) | (obtain ⟨_, _, _, e, _⟩ := a; rw [e]; rfl) | (obtain ⟨_, _, _, _, e, _⟩ := a; rw [e]; rfl) | (obtain ⟨⟨_, _, e, _⟩, _⟩ := a; rw [e]; rfl)) (fun cdv A outer s H E hr => der_L_over C (upCal (by decide) (k_L_by C)) (upCal (by decide) (k_L_low C)) cdv A outer s H E hr) m_Lover.meets
end N640

set_option Elab.async false
set_option linter.all false
set_option maxRecDepth 100000
set_option maxHeartbeats 4000000
/-! Packing. -/
namespace N640
open PySem PySem.Spec PyProof.Rows L2 Gn
variable {P : Program} {w : World} {K : PySem.W.Frag} {mg : Str → Option Value} {base : Heap}
theorem b_L_less : d_L_less.ds = [] ∧ BindA d_L_less p_L_less := ⟨rfl, fun kV doc pm an cdv ct us hl => by match us, hl with | [a0, a1], _ => rfl⟩
theorem k_L_less (C : Cxt K mg) : C8.Cal P w K mg base 8 "_law_less" S_nsub [] :=
  cal_of C C.T.F_L_less C.T.g_L_less b_L_less sc_L_less (fun mu vs G P h => by obtain ⟨x, a, _⟩ := h; first | (rw [show vs = _ from a]; rfl) | (obtain ⟨e, _⟩ := a; rw [e]; rfl) | (obtain ⟨_, e, _⟩ := a; rw [e]; rfl) | (obtain ⟨_, _, e, _⟩ := a; rw [e]; rfl) | (obtain ⟨_, _, _, e, _⟩ := a; rw [e]; rfl) | (obtain ⟨_, _, _, _, e, _⟩ := a; rw [e]; rfl) | (obtain ⟨⟨_, _, e, _⟩, _⟩ := a; rw [e]; rfl)) (fun cdv A outer s H E hr => der_L_less C (upCal (by decide) (k_L_plus C)) cdv A outer s H E hr) m_Lless.meets
theorem b_L_left : d_L_left.ds = [] ∧ BindA d_L_left p_L_left := ⟨rfl, fun kV doc pm an cdv ct us hl => by match us, hl with | [a0, a1, a2], _ => rfl⟩
theorem k_L_left (C : Cxt K mg) : C8.Cal P w K mg base 10 "_law_left" S_left [] :=
  cal_of C C.T.F_L_left C.T.g_L_left b_L_left sc_L_left (fun mu vs G P h => by obtain ⟨x, a, _⟩ := h; first | (rw [show vs = _ from a]; rfl) | (obtain ⟨e, _⟩ := a; rw [e]; rfl) | (obtain ⟨_, e, _⟩ := a; rw [e]; rfl) | (obtain ⟨_, _, e, _⟩ := a; rw [e]; rfl) | (obtain ⟨_, _, _, e, _⟩ := a; rw [e]; rfl) | (obtain ⟨_, _, _, _, e, _⟩ := a; rw [e]; rfl) | (obtain ⟨⟨_, _, e, _⟩, _⟩ := a; rw [e]; rfl)) (fun cdv A outer s H E hr => der_L_left C (upCal (by decide) (k_L_over C)) (upCal (by decide) (k_L_by C)) (upCal (by decide) (k_L_plus C)) (upCal (by decide) (k_L_less C)) cdv A outer s H E hr) m_Lleft.meets
theorem b_L_steps : d_L_steps.ds = [] ∧ BindA d_L_steps p_L_steps := ⟨rfl, fun kV doc pm an cdv ct us hl => by match us, hl with | [a0], _ => rfl⟩
theorem k_L_steps (C : Cxt K mg) : C8.Cal P w K mg base 12 "_law_steps" S_steps [] :=
  cal_of C C.T.F_L_steps C.T.g_L_steps b_L_steps sc_L_steps (fun mu vs G P h => by obtain ⟨x, a, _⟩ := h; first | (rw [show vs = _ from a]; rfl) | (obtain ⟨e, _⟩ := a; rw [e]; rfl) | (obtain ⟨_, e, _⟩ := a; rw [e]; rfl) | (obtain ⟨_, _, e, _⟩ := a; rw [e]; rfl) | (obtain ⟨_, _, _, e, _⟩ := a; rw [e]; rfl) | (obtain ⟨_, _, _, _, e, _⟩ := a; rw [e]; rfl) | (obtain ⟨⟨_, _, e, _⟩, _⟩ := a; rw [e]; rfl)) (fun cdv A outer s H E hr => der_L_steps C (upCal (by decide) (k_L_by C)) (upCal (by decide) (k_L_left C)) (upCal (by decide) (k_L_mirror C)) cdv A outer s H E hr) m_Lsteps.meets
theorem b_L_choices : d_L_choices.ds = [] ∧ BindA d_L_choices p_L_choices := ⟨rfl, fun kV doc pm an cdv ct us hl => by match us, hl with | [a0], _ => rfl⟩
theorem k_L_choices (C : Cxt K mg) : C8.Cal P w K mg base 2 "_law_choices" S_ch [] :=
  cal_of C C.T.F_L_choices C.T.g_L_choices b_L_choices sc_L_choices (fun mu vs G P h => by obtain ⟨x, a, _⟩ := h; first | (rw [show vs = _ from a]; rfl) | (obtain ⟨e, _⟩ := a; rw [e]; rfl) | (obtain ⟨_, e, _⟩ := a; rw [e]; rfl) | (obtain ⟨_, _, e, _⟩ := a; rw [e]; rfl) | (obtain ⟨_, _, _, e, _⟩ := a; rw [e]; rfl) | (obtain ⟨_, _, _, _, e, _⟩ := a; rw [e]; rfl) | (obtain ⟨⟨_, _, e, _⟩, _⟩ := a; rw [e]; rfl)) (fun cdv A outer s H E hr => der_L_choices C cdv A outer s H E hr) m_Lchoices.meets
theorem b_L_determinant : d_L_determinant.ds = [] ∧ BindA d_L_determinant p_L_determinant := ⟨rfl, fun kV doc pm an cdv ct us hl => by match us, hl with | [a0], _ => rfl⟩
abbrev spNo : Sp := fun _ _ _ _ => False
theorem no_det (C : Cxt K mg) {fd : FuncData} (F : FnD K d_L_determinant fd) (j : Nat) : C8.Cal P w K mg base j "_law_determinant" spNo [] := cal_fd C F C.T.F_L_determinant.2.2 C.T.g_L_determinant b_L_determinant ⟨fun _ _ _ _ z => z.elim, fun _ _ _ _ _ _ _ _ _ _ _ _ _ z => z.elim⟩
theorem fd_det (C : Cxt K mg) {fd : FuncData} (F : FnD K d_L_determinant fd) : ∀ k : Nat, FnOk P w K mg base CX0 (6 + 2 * k + 2) d_L_determinant.ad fd p_L_determinant (S_ldet k)
  | 0 => fn_ok F sc_L_determinant (fun mu vs G P h => by obtain ⟨x, ⟨_, e, _⟩, _⟩ := h; rw [e]; rfl) (fun cdv A outer s H E hr => der_L_determinant C (no_det C F 6) (upCal (by decide) (k_L_by C)) (upCal (by decide) (k_L_plus C)) cdv A outer s H E hr) m_Ldet0.meets
  | k + 1 => fn_ok (j := 6 + 2 * k + 2) F sc_L_determinant (fun mu vs G P h => by obtain ⟨x, ⟨_, e, _⟩, _⟩ := h; rw [e]; rfl) (fun cdv A outer s H E hr => der_L_determinant C (cal_fd C F C.T.F_L_determinant.2.2 C.T.g_L_determinant b_L_determinant (fd_det C F k)) (upCal (j := 6 + 2 * k + 2) (by omega) (k_L_by C)) (upCal (j := 6 + 2 * k + 2) (by omega) (k_L_plus C)) cdv A outer s H E hr) m_LdetS.meets
theorem det_k {vs : List V} {H : Hp} {Q : VK} {E : XK} (h : S_detU vs H Q E) : ∃ k, k ≤ 4 ∧ S_ldet k vs H Q E := by
  obtain ⟨mu, G, P, hA, ⟨x, ⟨v, e, hv, h4, hs⟩, b⟩, q⟩ := h
  exact ⟨x.n, h4, mu, G, P, hA, ⟨x, ⟨v, e, hv, rfl, h4, hs⟩, b⟩, q⟩
theorem k_L_determinant (C : Cxt K mg) : C8.Cal P w K mg base 16 "_law_determinant" S_detU [] := by
  obtain ⟨⟨fd, F⟩, _, F3⟩ := C.T.F_L_determinant
  refine cal_fd C F F3 C.T.g_L_determinant b_L_determinant ⟨fun vs H Q E h => ?_, fun A outer s H args us vs Q E hr he hb hv hs => ?_⟩
  · obtain ⟨k, _, h'⟩ := det_k h
    exact (fd_det (P := P) (w := w) (base := base) C F k).len vs H Q E h'
  · obtain ⟨k, hk, h'⟩ := det_k hs
    exact (fd_det C F k).run A outer s H args us vs Q E (hr.mono (by omega)) he hb hv h'
theorem b_L_part : d_L_part.ds = [] ∧ BindA d_L_part p_L_part := ⟨rfl, fun kV doc pm an cdv ct us hl => by match us, hl with | [a0, a1], _ => rfl⟩
theorem k_L_part (C : Cxt K mg) : C8.Cal P w K mg base 2 "_law_part" S_npart [] :=
  cal_of C C.T.F_L_part C.T.g_L_part b_L_part sc_L_part (fun mu vs G P h => by obtain ⟨x, a, _⟩ := h; first | (rw [show vs = _ from a]; rfl) | (obtain ⟨e, _⟩ := a; rw [e]; rfl) | (obtain ⟨_, e, _⟩ := a; rw [e]; rfl) | (obtain ⟨_, _, e, _⟩ := a; rw [e]; rfl) | (obtain ⟨_, _, _, e, _⟩ := a; rw [e]; rfl) | (obtain ⟨_, _, _, _, e, _⟩ := a; rw [e]; rfl) | (obtain ⟨⟨_, _, e, _⟩, _⟩ := a; rw [e]; rfl)) (fun cdv A outer s H E hr => der_L_part C cdv A outer s H E hr) m_Lpart.meets
theorem b_one : d_one.ds = [] ∧ BindA d_one p_one := ⟨rfl, fun kV doc pm an cdv ct us hl => by match us, hl with | [], _ => rfl⟩
theorem k_one (C : Cxt K mg) : C8.Cal P w K mg base 10 "one" S_one [] :=
  cal_of C C.T.F_one C.T.g_one b_one sc_one (fun mu vs G P h => by obtain ⟨x, a, _⟩ := h; first | (rw [show vs = _ from a]; rfl) | (obtain ⟨e, _⟩ := a; rw [e]; rfl) | (obtain ⟨_, e, _⟩ := a; rw [e]; rfl) | (obtain ⟨_, _, e, _⟩ := a; rw [e]; rfl) | (obtain ⟨_, _, _, e, _⟩ := a; rw [e]; rfl) | (obtain ⟨_, _, _, _, e, _⟩ := a; rw [e]; rfl) | (obtain ⟨⟨_, _, e, _⟩, _⟩ := a; rw [e]; rfl)) (fun cdv A outer s H E hr => der_one C (upMak (by decide) (k_Twin_init1 C)) cdv A outer s H E hr) m_one.meets
theorem b_nought : d_nought.ds = [] ∧ BindA d_nought p_nought := ⟨rfl, fun kV doc pm an cdv ct us hl => by match us, hl with | [], _ => rfl⟩
theorem k_nought (C : Cxt K mg) : C8.Cal P w K mg base 10 "nought" S_nought [] :=
  cal_of C C.T.F_nought C.T.g_nought b_nought sc_nought (fun mu vs G P h => by obtain ⟨x, a, _⟩ := h; first | (rw [show vs = _ from a]; rfl) | (obtain ⟨e, _⟩ := a; rw [e]; rfl) | (obtain ⟨_, e, _⟩ := a; rw [e]; rfl) | (obtain ⟨_, _, e, _⟩ := a; rw [e]; rfl) | (obtain ⟨_, _, _, e, _⟩ := a; rw [e]; rfl) | (obtain ⟨_, _, _, _, e, _⟩ := a; rw [e]; rfl) | (obtain ⟨⟨_, _, e, _⟩, _⟩ := a; rw [e]; rfl)) (fun cdv A outer s H E hr => der_nought C (upMak (by decide) (k_Twin_init1 C)) cdv A outer s H E hr) m_nought.meets
theorem b_Walk_init : d_Walk_init.ds = [] ∧ BindA d_Walk_init p_Walk_init := ⟨rfl, fun kV doc pm an cdv ct us hl => by match us, hl with | [a0, a1], _ => rfl⟩
theorem k_Walk_init0 (C : Cxt K mg) : C8.Mak P w K mg base 12 "Walk" CW spW [] :=
  mak_ofS C C.T.F_Walk_init C.T.mkW C.T.kpW C.T.gloW C.T.atW_init sc_Walk_init (fun fd F => ⟨[], .nil, (FunD.bindsN (ps := p_Walk_init) (show FunD K _ _ _ _ _ [] [] _ _ from F) b_Walk_init.2)⟩) (fun vs H Q E h => by obtain ⟨_, _, _, _, _, _, _, e, _⟩ := h; rw [e]; rfl) (fun cdv A outer s H E hr => der_Walk_init C (upCal (by decide) (k_one C)) (upCal (by decide) (k_nought C)) cdv A outer s H E hr) (fun vs H Q E h => m_walk C.T vs H Q E h _ fun _ _ q => q)
theorem b_Twin_plain : d_Twin_plain.ds = [] ∧ BindA d_Twin_plain p_Twin_plain := ⟨rfl, fun kV doc pm an cdv ct us hl => by match us, hl with | [a0], _ => rfl⟩
theorem k_Twin_plain (C : Cxt K mg) : Prp P w K mg base 6 CT "plain" S_plain :=
  prp_of C C.T.F_Twin_plain C.T.clsT C.T.prT_plain b_Twin_plain sc_Twin_plain (fun mu vs G P h => by obtain ⟨x, a, _⟩ := h; first | (rw [show vs = _ from a]; rfl) | (obtain ⟨e, _⟩ := a; rw [e]; rfl) | (obtain ⟨_, e, _⟩ := a; rw [e]; rfl) | (obtain ⟨_, _, e, _⟩ := a; rw [e]; rfl) | (obtain ⟨_, _, _, e, _⟩ := a; rw [e]; rfl) | (obtain ⟨_, _, _, _, e, _⟩ := a; rw [e]; rfl) | (obtain ⟨⟨_, _, e, _⟩, _⟩ := a; rw [e]; rfl)) (fun cdv A outer s H E hr => der_Twin_plain C (upMak (by decide) (k_Ratio_init0 C)) cdv A outer s H E hr) (m_plain C.T).meets
theorem b_Walk_middle : d_Walk_middle.ds = [] ∧ BindA d_Walk_middle p_Walk_middle := ⟨rfl, fun kV doc pm an cdv ct us hl => by match us, hl with | [a0, a1], _ => rfl⟩
theorem k_Walk_middle (C : Cxt K mg) : C8.Met P w K mg base 8 CW "middle" S_mid [] :=
  met_of C C.T.F_Walk_middle C.T.clsW C.T.atW_middle b_Walk_middle sc_Walk_middle (fun mu vs G P h => by obtain ⟨_, s, x, _, _, a, _⟩ := h; first | (rw [show vs = _ from a]; rfl) | (obtain ⟨e, _⟩ := a; rw [e]; rfl) | (obtain ⟨_, e, _⟩ := a; rw [e]; rfl) | (obtain ⟨_, _, e, _⟩ := a; rw [e]; rfl) | (obtain ⟨_, _, _, e, _⟩ := a; rw [e]; rfl) | (obtain ⟨_, _, _, _, e, _⟩ := a; rw [e]; rfl) | (obtain ⟨⟨_, _, e, _⟩, _⟩ := a; rw [e]; rfl)) (fun cdv A outer s H E hr => der_Walk_middle C (upPrp (by decide) (k_Twin_plain C)) cdv A outer s H E hr) (m_mid C.T).meets
theorem b_Ratio_sign : d_Ratio_sign.ds = [] ∧ BindA d_Ratio_sign p_Ratio_sign := ⟨rfl, fun kV doc pm an cdv ct us hl => by match us, hl with | [a0], _ => rfl⟩
theorem k_Ratio_sign (C : Cxt K mg) : Prp P w K mg base 2 CR "sign" S_sign :=
  prp_of C C.T.F_Ratio_sign C.T.clsR C.T.prR_sign b_Ratio_sign sc_Ratio_sign (fun mu vs G P h => by obtain ⟨x, a, _⟩ := h; first | (rw [show vs = _ from a]; rfl) | (obtain ⟨e, _⟩ := a; rw [e]; rfl) | (obtain ⟨_, e, _⟩ := a; rw [e]; rfl) | (obtain ⟨_, _, e, _⟩ := a; rw [e]; rfl) | (obtain ⟨_, _, _, e, _⟩ := a; rw [e]; rfl) | (obtain ⟨_, _, _, _, e, _⟩ := a; rw [e]; rfl) | (obtain ⟨⟨_, _, e, _⟩, _⟩ := a; rw [e]; rfl)) (fun cdv A outer s H E hr => der_Ratio_sign C cdv A outer s H E hr) (m_sign C.T).meets
theorem b_Walk_first_with : d_Walk_first_with.ds = [] ∧ BindA d_Walk_first_with p_Walk_first_with := ⟨rfl, fun kV doc pm an cdv ct us hl => by match us, hl with | [a0, a1], _ => rfl⟩
theorem k_Walk_first_with (C : Cxt K mg) : C8.Met P w K mg base 10 CW "first_with" S_fw [] :=
  met_of C C.T.F_Walk_first_with C.T.clsW C.T.atW_first_with b_Walk_first_with sc_Walk_first_with (fun mu vs G P h => by obtain ⟨_, s, x, _, _, a, _⟩ := h; first | (rw [show vs = _ from a]; rfl) | (obtain ⟨e, _⟩ := a; rw [e]; rfl) | (obtain ⟨_, e, _⟩ := a; rw [e]; rfl) | (obtain ⟨_, _, e, _⟩ := a; rw [e]; rfl) | (obtain ⟨_, _, _, e, _⟩ := a; rw [e]; rfl) | (obtain ⟨_, _, _, _, e, _⟩ := a; rw [e]; rfl) | (obtain ⟨⟨_, _, e, _⟩, _⟩ := a; rw [e]; rfl)) (fun cdv A outer s H E hr => der_Walk_first_with C (upMet (by decide) (k_Walk_middle C)) (upPrp (by decide) (k_Ratio_sign C)) cdv A outer s H E hr) (m_fw C.T).meets
theorem b_told_parts : d_told_parts.ds = [] ∧ BindA d_told_parts p_told_parts := ⟨rfl, fun kV doc pm an cdv ct us hl => by match us, hl with | [a0], _ => rfl⟩
theorem k_told_parts (C : Cxt K mg) : C8.Cal P w K mg base 4 "told_parts" S_told [] :=
  cal_of C C.T.F_told_parts C.T.g_told_parts b_told_parts sc_told_parts (fun mu vs G P h => by obtain ⟨x, a, _⟩ := h; first | (rw [show vs = _ from a]; rfl) | (obtain ⟨e, _⟩ := a; rw [e]; rfl) | (obtain ⟨_, e, _⟩ := a; rw [e]; rfl) | (obtain ⟨_, _, e, _⟩ := a; rw [e]; rfl) | (obtain ⟨_, _, _, e, _⟩ := a; rw [e]; rfl) | (obtain ⟨_, _, _, _, e, _⟩ := a; rw [e]; rfl) | (obtain ⟨⟨_, _, e, _⟩, _⟩ := a; rw [e]; rfl)) (fun cdv A outer s H E hr => der_told_parts C (upCal (by decide) (k_is_integer C)) cdv A outer s H E hr) (m_told C.T).meets
theorem b_Parts_init : d_Parts_init.ds = [] ∧ BindA d_Parts_init p_Parts_init := ⟨rfl, fun kV doc pm an cdv ct us hl => by match us, hl with | [a0, a1, a2, a3], _ => rfl⟩
theorem k_Parts_init0 (C : Cxt K mg) : C8.Mak P w K mg base 2 "Parts" CP S_mkParts [] :=
  mak_of C C.T.F_Parts_init C.T.mkP C.T.kpP C.T.gloP C.T.atP_init sc_Parts_init (fun fd F => ⟨[], .nil, (FunD.bindsN (ps := p_Parts_init) (show FunD K _ _ _ _ _ [] [] _ _ from F) b_Parts_init.2)⟩) (fun mu vs G P h => by obtain ⟨x, a, _⟩ := h; first | (rw [show vs = _ from a]; rfl) | (obtain ⟨e, _⟩ := a; rw [e]; rfl) | (obtain ⟨_, e, _⟩ := a; rw [e]; rfl) | (obtain ⟨_, _, e, _⟩ := a; rw [e]; rfl) | (obtain ⟨_, _, _, e, _⟩ := a; rw [e]; rfl) | (obtain ⟨_, _, _, _, e, _⟩ := a; rw [e]; rfl) | (obtain ⟨⟨_, _, e, _⟩, _⟩ := a; rw [e]; rfl)) (fun cdv A outer s H E hr => der_Parts_init C cdv A outer s H E hr) (m_parts C.T)
theorem b_by_parts : d_by_parts.ds = [] ∧ BindA d_by_parts p_by_parts := ⟨rfl, fun kV doc pm an cdv ct us hl => by match us, hl with | [a0, a1, a2], _ => rfl⟩
theorem k_by_parts (C : Cxt K mg) : C8.Cal P w K mg base 10 "by_parts" S_byp [] :=
  cal_of C C.T.F_by_parts C.T.g_by_parts b_by_parts sc_by_parts (fun mu vs G P h => by obtain ⟨x, a, _⟩ := h; first | (rw [show vs = _ from a]; rfl) | (obtain ⟨e, _⟩ := a; rw [e]; rfl) | (obtain ⟨_, e, _⟩ := a; rw [e]; rfl) | (obtain ⟨_, _, e, _⟩ := a; rw [e]; rfl) | (obtain ⟨_, _, _, e, _⟩ := a; rw [e]; rfl) | (obtain ⟨_, _, _, _, e, _⟩ := a; rw [e]; rfl) | (obtain ⟨⟨_, _, e, _⟩, _⟩ := a; rw [e]; rfl)) (fun cdv A outer s H E hr => der_by_parts C (upMak (by decide) (k_Twin_init1 C)) (upMak (by decide) (k_Parts_init0 C)) cdv A outer s H E hr) m_byp.meets
theorem b_Twin_over : d_Twin_over.ds = [] ∧ BindA d_Twin_over p_Twin_over := ⟨rfl, fun kV doc pm an cdv ct us hl => by match us, hl with | [a0, a1], _ => rfl⟩
theorem k_Twin_over (C : Cxt K mg) : C8.Met P w K mg base 12 CT "over" S_tover [] :=
  met_of C C.T.F_Twin_over C.T.clsT C.T.atT_over b_Twin_over sc_Twin_over (fun mu vs G P h => by obtain ⟨x, a, _⟩ := h; first | (rw [show vs = _ from a]; rfl) | (obtain ⟨e, _⟩ := a; rw [e]; rfl) | (obtain ⟨_, e, _⟩ := a; rw [e]; rfl) | (obtain ⟨_, _, e, _⟩ := a; rw [e]; rfl) | (obtain ⟨_, _, _, e, _⟩ := a; rw [e]; rfl) | (obtain ⟨_, _, _, _, e, _⟩ := a; rw [e]; rfl) | (obtain ⟨⟨_, _, e, _⟩, _⟩ := a; rw [e]; rfl)) (fun cdv A outer s H E hr => der_Twin_over C (upCal (by decide) (k_told_parts C)) (upCal (by decide) (k_by_parts C)) cdv A outer s H E hr) (m_tover C.T).meets
theorem b_Walk_column : d_Walk_column.ds = [] ∧ BindA d_Walk_column p_Walk_column := ⟨rfl, fun kV doc pm an cdv ct us hl => by match us, hl with | [a0, a1], _ => rfl⟩
theorem k_Walk_column (C : Cxt K mg) : C8.Met P w K mg base 14 CW "column" S_col [] :=
  met_of C C.T.F_Walk_column C.T.clsW C.T.atW_column b_Walk_column sc_Walk_column (fun mu vs G P h => by obtain ⟨_, s, x, _, _, a, _⟩ := h; first | (rw [show vs = _ from a]; rfl) | (obtain ⟨e, _⟩ := a; rw [e]; rfl) | (obtain ⟨_, e, _⟩ := a; rw [e]; rfl) | (obtain ⟨_, _, e, _⟩ := a; rw [e]; rfl) | (obtain ⟨_, _, _, e, _⟩ := a; rw [e]; rfl) | (obtain ⟨_, _, _, _, e, _⟩ := a; rw [e]; rfl) | (obtain ⟨⟨_, _, e, _⟩, _⟩ := a; rw [e]; rfl)) (fun cdv A outer s H E hr => der_Walk_column C (upMet (by decide) (k_Twin_over C)) (upCal (by decide) (k_nought C)) cdv A outer s H E hr) (m_col C.T).meets
theorem b_Twin_is_nought : d_Twin_is_nought.ds = [] ∧ BindA d_Twin_is_nought p_Twin_is_nought := ⟨rfl, fun kV doc pm an cdv ct us hl => by match us, hl with | [a0], _ => rfl⟩
theorem k_Twin_is_nought (C : Cxt K mg) : Prp P w K mg base 2 CT "is_nought" S_isnought :=
  prp_of C C.T.F_Twin_is_nought C.T.clsT C.T.prT_is_nought b_Twin_is_nought sc_Twin_is_nought (fun mu vs G P h => by obtain ⟨x, a, _⟩ := h; first | (rw [show vs = _ from a]; rfl) | (obtain ⟨e, _⟩ := a; rw [e]; rfl) | (obtain ⟨_, e, _⟩ := a; rw [e]; rfl) | (obtain ⟨_, _, e, _⟩ := a; rw [e]; rfl) | (obtain ⟨_, _, _, e, _⟩ := a; rw [e]; rfl) | (obtain ⟨_, _, _, _, e, _⟩ := a; rw [e]; rfl) | (obtain ⟨⟨_, _, e, _⟩, _⟩ := a; rw [e]; rfl)) (fun cdv A outer s H E hr => der_Twin_is_nought C cdv A outer s H E hr) (m_nought0 C.T).meets
theorem b_Twin_mul : d_Twin_mul.ds = [] ∧ BindA d_Twin_mul p_Twin_mul := ⟨rfl, fun kV doc pm an cdv ct us hl => by match us, hl with | [a0, a1], _ => rfl⟩
theorem k_Twin_mul (C : Cxt K mg) : OwnB P w K mg base 12 CT .Mult S_tmul :=
  own_of C C.T.F_Twin_mul C.T.insT C.T.atT_mul C.T.rT_rmul b_Twin_mul sc_Twin_mul (fun mu vs G P h => by obtain ⟨x, a, _⟩ := h; first | (rw [show vs = _ from a]; rfl) | (obtain ⟨e, _⟩ := a; rw [e]; rfl) | (obtain ⟨_, e, _⟩ := a; rw [e]; rfl) | (obtain ⟨_, _, e, _⟩ := a; rw [e]; rfl) | (obtain ⟨_, _, _, e, _⟩ := a; rw [e]; rfl) | (obtain ⟨_, _, _, _, e, _⟩ := a; rw [e]; rfl) | (obtain ⟨⟨_, _, e, _⟩, _⟩ := a; rw [e]; rfl)) (fun cdv A outer s H E hr => der_Twin_mul C (upCal (by decide) (k_told_parts C)) (upCal (by decide) (k_by_parts C)) cdv A outer s H E hr) (m_tmul C.T).meets
end N640

set_option Elab.async false
set_option linter.all false
set_option maxRecDepth 100000
set_option maxHeartbeats 4000000
/-! Packing. -/
namespace N640
open PySem PySem.Spec PyProof.Rows L2 Gn
variable {P : Program} {w : World} {K : PySem.W.Frag} {mg : Str → Option Value} {base : Heap}
theorem b_Twin_sub : d_Twin_sub.ds = [] ∧ BindA d_Twin_sub p_Twin_sub := ⟨rfl, fun kV doc pm an cdv ct us hl => by match us, hl with | [a0, a1], _ => rfl⟩
theorem k_Twin_sub (C : Cxt K mg) : OwnB P w K mg base 12 CT .Sub S_tsub :=
  own_of C C.T.F_Twin_sub C.T.insT C.T.atT_sub C.T.rT_rsub b_Twin_sub sc_Twin_sub (fun mu vs G P h => by obtain ⟨x, a, _⟩ := h; first | (rw [show vs = _ from a]; rfl) | (obtain ⟨e, _⟩ := a; rw [e]; rfl) | (obtain ⟨_, e, _⟩ := a; rw [e]; rfl) | (obtain ⟨_, _, e, _⟩ := a; rw [e]; rfl) | (obtain ⟨_, _, _, e, _⟩ := a; rw [e]; rfl) | (obtain ⟨_, _, _, _, e, _⟩ := a; rw [e]; rfl) | (obtain ⟨⟨_, _, e, _⟩, _⟩ := a; rw [e]; rfl)) (fun cdv A outer s H E hr => der_Twin_sub C (upCal (by decide) (k_told_parts C)) (upCal (by decide) (k_by_parts C)) cdv A outer s H E hr) (m_tsub C.T).meets
theorem b_less_times : d_less_times.ds = [] ∧ BindA d_less_times p_less_times := ⟨rfl, fun kV doc pm an cdv ct us hl => by match us, hl with | [a0, a1, a2], _ => rfl⟩
theorem k_less_times (C : Cxt K mg) : C8.Cal P w K mg base 14 "less_times" S_lt [] :=
  cal_of C C.T.F_less_times C.T.g_less_times b_less_times sc_less_times (fun mu vs G P h => by obtain ⟨x, a, _⟩ := h; first | (rw [show vs = _ from a]; rfl) | (obtain ⟨e, _⟩ := a; rw [e]; rfl) | (obtain ⟨_, e, _⟩ := a; rw [e]; rfl) | (obtain ⟨_, _, e, _⟩ := a; rw [e]; rfl) | (obtain ⟨_, _, _, e, _⟩ := a; rw [e]; rfl) | (obtain ⟨_, _, _, _, e, _⟩ := a; rw [e]; rfl) | (obtain ⟨⟨_, _, e, _⟩, _⟩ := a; rw [e]; rfl)) (fun cdv A outer s H E hr => der_less_times C (upOwn (by decide) (k_Twin_mul C)) (upOwn (by decide) (k_Twin_sub C)) cdv A outer s H E hr) m_lt.meets
theorem b_Walk_take : d_Walk_take.ds = [] ∧ BindA d_Walk_take p_Walk_take := ⟨rfl, fun kV doc pm an cdv ct us hl => by match us, hl with | [a0, a1], _ => rfl⟩
theorem k_Walk_take (C : Cxt K mg) : C8.Met P w K mg base 16 CW "take" spTk [] :=
  met_ofS C C.T.F_Walk_take C.T.clsW C.T.atW_take b_Walk_take sc_Walk_take (fun vs H Q E h => by obtain ⟨_, _, _, _, e, _⟩ := h; rw [e]; rfl) (fun cdv A outer s H E hr => der_Walk_take C (upMet (by decide) (k_Walk_column C)) (upPrp (by decide) (k_Twin_is_nought C)) (upCal (by decide) (k_less_times C)) cdv A outer s H E hr) (fun vs H Q E h => m_take C.T vs H Q E h _ fun _ _ q => q)
theorem b_Walk_first_beside : d_Walk_first_beside.ds = [] ∧ BindA d_Walk_first_beside p_Walk_first_beside := ⟨rfl, fun kV doc pm an cdv ct us hl => by match us, hl with | [a0], _ => rfl⟩
theorem k_Walk_first_beside (C : Cxt K mg) : C8.Met P w K mg base 10 CW "first_beside" S_fb [] :=
  met_of C C.T.F_Walk_first_beside C.T.clsW C.T.atW_first_beside b_Walk_first_beside sc_Walk_first_beside (fun mu vs G P h => by obtain ⟨_, s, x, _, _, a, _⟩ := h; first | (rw [show vs = _ from a]; rfl) | (obtain ⟨e, _⟩ := a; rw [e]; rfl) | (obtain ⟨_, e, _⟩ := a; rw [e]; rfl) | (obtain ⟨_, _, e, _⟩ := a; rw [e]; rfl) | (obtain ⟨_, _, _, e, _⟩ := a; rw [e]; rfl) | (obtain ⟨_, _, _, _, e, _⟩ := a; rw [e]; rfl) | (obtain ⟨⟨_, _, e, _⟩, _⟩ := a; rw [e]; rfl)) (fun cdv A outer s H E hr => der_Walk_first_beside C (upMet (by decide) (k_Walk_middle C)) (upPrp (by decide) (k_Ratio_sign C)) (upPrp (by decide) (k_Twin_is_nought C)) cdv A outer s H E hr) (m_fb C.T).meets
theorem b_squares_of : d_squares_of.ds = [] ∧ BindA d_squares_of p_squares_of := ⟨rfl, fun kV doc pm an cdv ct us hl => by match us, hl with | [a0], _ => rfl⟩
theorem k_squares_of (C : Cxt K mg) : C8.Cal P w K mg base 18 "squares_of" S_sq [] :=
  cal_of C C.T.F_squares_of C.T.g_squares_of b_squares_of sc_squares_of (fun mu vs G P h => by obtain ⟨x, a, _⟩ := h; first | (rw [show vs = _ from a]; rfl) | (obtain ⟨e, _⟩ := a; rw [e]; rfl) | (obtain ⟨_, e, _⟩ := a; rw [e]; rfl) | (obtain ⟨_, _, e, _⟩ := a; rw [e]; rfl) | (obtain ⟨_, _, _, e, _⟩ := a; rw [e]; rfl) | (obtain ⟨_, _, _, _, e, _⟩ := a; rw [e]; rfl) | (obtain ⟨⟨_, _, e, _⟩, _⟩ := a; rw [e]; rfl)) (fun cdv A outer s H E hr => der_squares_of C (upMak (by decide) (k_Walk_init0 C)) (upMet (by decide) (k_Walk_first_with C)) (upMet (by decide) (k_Walk_column C)) (upMet (by decide) (k_Walk_middle C)) (upMet (by decide) (k_Walk_take C)) (upMet (by decide) (k_Walk_first_beside C)) cdv A outer s H E hr) (m_sq C.T).meets
theorem b_is_never_below_of : d_is_never_below_of.ds = [] ∧ BindA d_is_never_below_of p_is_never_below_of := ⟨rfl, fun kV doc pm an cdv ct us hl => by match us, hl with | [a0], _ => rfl⟩
theorem k_is_never_below_of (C : Cxt K mg) : C8.Cal P w K mg base 20 "is_never_below_of" S_nbo [] :=
  cal_of C C.T.F_is_never_below_of C.T.g_is_never_below_of b_is_never_below_of sc_is_never_below_of (fun mu vs G P h => by obtain ⟨x, a, _⟩ := h; first | (rw [show vs = _ from a]; rfl) | (obtain ⟨e, _⟩ := a; rw [e]; rfl) | (obtain ⟨_, e, _⟩ := a; rw [e]; rfl) | (obtain ⟨_, _, e, _⟩ := a; rw [e]; rfl) | (obtain ⟨_, _, _, e, _⟩ := a; rw [e]; rfl) | (obtain ⟨_, _, _, _, e, _⟩ := a; rw [e]; rfl) | (obtain ⟨⟨_, _, e, _⟩, _⟩ := a; rw [e]; rfl)) (fun cdv A outer s H E hr => der_is_never_below_of C (upCal (by decide) (k_squares_of C)) cdv A outer s H E hr) m_nbo.meets
theorem b_is_list : d_is_list.ds = [] ∧ BindA d_is_list p_is_list := ⟨rfl, fun kV doc pm an cdv ct us hl => by match us, hl with | [a0], _ => rfl⟩
theorem k_is_list (C : Cxt K mg) : C8.Cal P w K mg base 2 "is_list" S_islist [] :=
  cal_of C C.T.F_is_list C.T.g_is_list b_is_list sc_is_list (fun mu vs G P h => by obtain ⟨x, a, _⟩ := h; first | (rw [show vs = _ from a]; rfl) | (obtain ⟨e, _⟩ := a; rw [e]; rfl) | (obtain ⟨_, e, _⟩ := a; rw [e]; rfl) | (obtain ⟨_, _, e, _⟩ := a; rw [e]; rfl) | (obtain ⟨_, _, _, e, _⟩ := a; rw [e]; rfl) | (obtain ⟨_, _, _, _, e, _⟩ := a; rw [e]; rfl) | (obtain ⟨⟨_, _, e, _⟩, _⟩ := a; rw [e]; rfl)) (fun cdv A outer s H E hr => der_is_list C cdv A outer s H E hr) (m_islist C.T).meets
theorem b_is_value : d_is_value.ds = [] ∧ BindA d_is_value p_is_value := ⟨rfl, fun kV doc pm an cdv ct us hl => by match us, hl with | [a0], _ => rfl⟩
theorem k_is_value (C : Cxt K mg) : C8.Cal P w K mg base 4 "is_value" S_isval [] :=
  cal_of C C.T.F_is_value C.T.g_is_value b_is_value sc_is_value (fun mu vs G P h => by obtain ⟨x, a, _⟩ := h; first | (rw [show vs = _ from a]; rfl) | (obtain ⟨e, _⟩ := a; rw [e]; rfl) | (obtain ⟨_, e, _⟩ := a; rw [e]; rfl) | (obtain ⟨_, _, e, _⟩ := a; rw [e]; rfl) | (obtain ⟨_, _, _, e, _⟩ := a; rw [e]; rfl) | (obtain ⟨_, _, _, _, e, _⟩ := a; rw [e]; rfl) | (obtain ⟨⟨_, _, e, _⟩, _⟩ := a; rw [e]; rfl)) (fun cdv A outer s H E hr => der_is_value C (upCal (by decide) (k_is_integer C)) cdv A outer s H E hr) (m_isval C.T).meets
theorem b_are_values : d_are_values.ds = [] ∧ BindA d_are_values p_are_values := ⟨rfl, fun kV doc pm an cdv ct us hl => by match us, hl with | [a0, a1], _ => rfl⟩
theorem k_are_values (C : Cxt K mg) : C8.Cal P w K mg base 6 "are_values" S_vals [] :=
  cal_of C C.T.F_are_values C.T.g_are_values b_are_values sc_are_values (fun mu vs G P h => by obtain ⟨x, a, _⟩ := h; first | (rw [show vs = _ from a]; rfl) | (obtain ⟨e, _⟩ := a; rw [e]; rfl) | (obtain ⟨_, e, _⟩ := a; rw [e]; rfl) | (obtain ⟨_, _, e, _⟩ := a; rw [e]; rfl) | (obtain ⟨_, _, _, e, _⟩ := a; rw [e]; rfl) | (obtain ⟨_, _, _, _, e, _⟩ := a; rw [e]; rfl) | (obtain ⟨⟨_, _, e, _⟩, _⟩ := a; rw [e]; rfl)) (fun cdv A outer s H E hr => der_are_values C (upCal (by decide) (k_is_list C)) (upCal (by decide) (k_is_value C)) cdv A outer s H E hr) (m_vals C.T).meets
theorem b_twin_of : d_twin_of.ds = [] ∧ BindA d_twin_of p_twin_of := ⟨rfl, fun kV doc pm an cdv ct us hl => by match us, hl with | [a0], _ => rfl⟩
theorem k_twin_of (C : Cxt K mg) : C8.Cal P w K mg base 10 "twin_of" S_twinof [] :=
  cal_of C C.T.F_twin_of C.T.g_twin_of b_twin_of sc_twin_of (fun mu vs G P h => by obtain ⟨x, a, _⟩ := h; first | (rw [show vs = _ from a]; rfl) | (obtain ⟨e, _⟩ := a; rw [e]; rfl) | (obtain ⟨_, e, _⟩ := a; rw [e]; rfl) | (obtain ⟨_, _, e, _⟩ := a; rw [e]; rfl) | (obtain ⟨_, _, _, e, _⟩ := a; rw [e]; rfl) | (obtain ⟨_, _, _, _, e, _⟩ := a; rw [e]; rfl) | (obtain ⟨⟨_, _, e, _⟩, _⟩ := a; rw [e]; rfl)) (fun cdv A outer s H E hr => der_twin_of C (upMak (by decide) (k_Twin_init1 C)) cdv A outer s H E hr) (m_twinof C.T).meets
theorem b_Twin_eq : d_Twin_eq.ds = [] ∧ BindA d_Twin_eq p_Twin_eq := ⟨rfl, fun kV doc pm an cdv ct us hl => by match us, hl with | [a0, a1], _ => rfl⟩
theorem k_Twin_eq (C : Cxt K mg) : NeB P w K mg base 2 CT S_teq :=
  ne_of' C C.T.F_Twin_eq C.T.insT C.T.atT_eq C.T.neT b_Twin_eq sc_Twin_eq (fun mu vs G P h => by obtain ⟨x, a, _⟩ := h; first | (rw [show vs = _ from a]; rfl) | (obtain ⟨e, _⟩ := a; rw [e]; rfl) | (obtain ⟨_, e, _⟩ := a; rw [e]; rfl) | (obtain ⟨_, _, e, _⟩ := a; rw [e]; rfl) | (obtain ⟨_, _, _, e, _⟩ := a; rw [e]; rfl) | (obtain ⟨_, _, _, _, e, _⟩ := a; rw [e]; rfl) | (obtain ⟨⟨_, _, e, _⟩, _⟩ := a; rw [e]; rfl)) (fun cdv A outer s H E hr => der_Twin_eq C cdv A outer s H E hr) (m_teq C.T).meets
theorem b_Twin_mirror : d_Twin_mirror.ds = [] ∧ BindA d_Twin_mirror p_Twin_mirror := ⟨rfl, fun kV doc pm an cdv ct us hl => by match us, hl with | [a0], _ => rfl⟩
theorem k_Twin_mirror (C : Cxt K mg) : C8.Met P w K mg base 12 CT "mirror" S_mirror [] :=
  met_of C C.T.F_Twin_mirror C.T.clsT C.T.atT_mirror b_Twin_mirror sc_Twin_mirror (fun mu vs G P h => by obtain ⟨x, a, _⟩ := h; first | (rw [show vs = _ from a]; rfl) | (obtain ⟨e, _⟩ := a; rw [e]; rfl) | (obtain ⟨_, e, _⟩ := a; rw [e]; rfl) | (obtain ⟨_, _, e, _⟩ := a; rw [e]; rfl) | (obtain ⟨_, _, _, e, _⟩ := a; rw [e]; rfl) | (obtain ⟨_, _, _, _, e, _⟩ := a; rw [e]; rfl) | (obtain ⟨⟨_, _, e, _⟩, _⟩ := a; rw [e]; rfl)) (fun cdv A outer s H E hr => der_Twin_mirror C (upCal (by decide) (k_by_parts C)) cdv A outer s H E hr) (m_mirror C.T).meets
theorem b_is_mirrored : d_is_mirrored.ds = [] ∧ BindA d_is_mirrored p_is_mirrored := ⟨rfl, fun kV doc pm an cdv ct us hl => by match us, hl with | [a0], _ => rfl⟩
theorem k_is_mirrored (C : Cxt K mg) : C8.Cal P w K mg base 14 "is_mirrored" S_mirrored [] :=
  cal_of C C.T.F_is_mirrored C.T.g_is_mirrored b_is_mirrored sc_is_mirrored (fun mu vs G P h => by obtain ⟨x, a, _⟩ := h; first | (rw [show vs = _ from a]; rfl) | (obtain ⟨e, _⟩ := a; rw [e]; rfl) | (obtain ⟨_, e, _⟩ := a; rw [e]; rfl) | (obtain ⟨_, _, e, _⟩ := a; rw [e]; rfl) | (obtain ⟨_, _, _, e, _⟩ := a; rw [e]; rfl) | (obtain ⟨_, _, _, _, e, _⟩ := a; rw [e]; rfl) | (obtain ⟨⟨_, _, e, _⟩, _⟩ := a; rw [e]; rfl)) (fun cdv A outer s H E hr => der_is_mirrored C (upNe (by decide) (k_Twin_eq C)) (upMet (by decide) (k_Twin_mirror C)) cdv A outer s H E hr) m_mirrored.meets
theorem b_told_table : d_told_table.ds = [] ∧ BindA d_told_table p_told_table := ⟨rfl, fun kV doc pm an cdv ct us hl => by match us, hl with | [a0], _ => rfl⟩
theorem k_told_table (C : Cxt K mg) : C8.Cal P w K mg base 16 "told_table" S_toldtab [] :=
  cal_of C C.T.F_told_table C.T.g_told_table b_told_table sc_told_table (fun mu vs G P h => by obtain ⟨x, a, _⟩ := h; first | (rw [show vs = _ from a]; rfl) | (obtain ⟨e, _⟩ := a; rw [e]; rfl) | (obtain ⟨_, e, _⟩ := a; rw [e]; rfl) | (obtain ⟨_, _, e, _⟩ := a; rw [e]; rfl) | (obtain ⟨_, _, _, e, _⟩ := a; rw [e]; rfl) | (obtain ⟨_, _, _, _, e, _⟩ := a; rw [e]; rfl) | (obtain ⟨⟨_, _, e, _⟩, _⟩ := a; rw [e]; rfl)) (fun cdv A outer s H E hr => der_told_table C (upCal (by decide) (k_is_list C)) (upCal (by decide) (k_are_values C)) (upCal (by decide) (k_twin_of C)) (upCal (by decide) (k_is_mirrored C)) cdv A outer s H E hr) (m_toldtab C.T).meets
theorem b_want_table : d_want_table.ds = [] ∧ BindA d_want_table p_want_table := ⟨rfl, fun kV doc pm an cdv ct us hl => by match us, hl with | [a0], _ => rfl⟩
theorem k_want_table (C : Cxt K mg) : C8.Cal P w K mg base 18 "want_table" S_want [] :=
  cal_of C C.T.F_want_table C.T.g_want_table b_want_table sc_want_table (fun mu vs G P h => by obtain ⟨x, a, _⟩ := h; first | (rw [show vs = _ from a]; rfl) | (obtain ⟨e, _⟩ := a; rw [e]; rfl) | (obtain ⟨_, e, _⟩ := a; rw [e]; rfl) | (obtain ⟨_, _, e, _⟩ := a; rw [e]; rfl) | (obtain ⟨_, _, _, e, _⟩ := a; rw [e]; rfl) | (obtain ⟨_, _, _, _, e, _⟩ := a; rw [e]; rfl) | (obtain ⟨⟨_, _, e, _⟩, _⟩ := a; rw [e]; rfl)) (fun cdv A outer s H E hr => der_want_table C (upCal (by decide) (k_told_table C)) cdv A outer s H E hr) m_want.meets
theorem b_is_never_below : d_is_never_below.ds = [] ∧ BindA d_is_never_below p_is_never_below := ⟨rfl, fun kV doc pm an cdv ct us hl => by match us, hl with | [a0], _ => rfl⟩
theorem k_is_never_below (C : Cxt K mg) : C8.Cal P w K mg base 22 "is_never_below" S_nb [] :=
  cal_of C C.T.F_is_never_below C.T.g_is_never_below b_is_never_below sc_is_never_below (fun mu vs G P h => by obtain ⟨x, a, _⟩ := h; first | (rw [show vs = _ from a]; rfl) | (obtain ⟨e, _⟩ := a; rw [e]; rfl) | (obtain ⟨_, e, _⟩ := a; rw [e]; rfl) | (obtain ⟨_, _, e, _⟩ := a; rw [e]; rfl) | (obtain ⟨_, _, _, e, _⟩ := a; rw [e]; rfl) | (obtain ⟨_, _, _, _, e, _⟩ := a; rw [e]; rfl) | (obtain ⟨⟨_, _, e, _⟩, _⟩ := a; rw [e]; rfl)) (fun cdv A outer s H E hr => der_is_never_below C (upCal (by decide) (k_is_never_below_of C)) (upCal (by decide) (k_want_table C)) cdv A outer s H E hr) m_nb.meets
theorem b_is_count : d_is_count.ds = [] ∧ BindA d_is_count p_is_count := ⟨rfl, fun kV doc pm an cdv ct us hl => by match us, hl with | [a0], _ => rfl⟩
theorem k_is_count (C : Cxt K mg) : C8.Cal P w K mg base 4 "is_count" S_count [] :=
  cal_of C C.T.F_is_count C.T.g_is_count b_is_count sc_is_count (fun mu vs G P h => by obtain ⟨x, a, _⟩ := h; first | (rw [show vs = _ from a]; rfl) | (obtain ⟨e, _⟩ := a; rw [e]; rfl) | (obtain ⟨_, e, _⟩ := a; rw [e]; rfl) | (obtain ⟨_, _, e, _⟩ := a; rw [e]; rfl) | (obtain ⟨_, _, _, e, _⟩ := a; rw [e]; rfl) | (obtain ⟨_, _, _, _, e, _⟩ := a; rw [e]; rfl) | (obtain ⟨⟨_, _, e, _⟩, _⟩ := a; rw [e]; rfl)) (fun cdv A outer s H E hr => der_is_count C (upCal (by decide) (k_is_integer C)) cdv A outer s H E hr) m_count.meets
theorem b_are_positions : d_are_positions.ds = [] ∧ BindA d_are_positions p_are_positions := ⟨rfl, fun kV doc pm an cdv ct us hl => by match us, hl with | [a0, a1], _ => rfl⟩
theorem k_are_positions (C : Cxt K mg) : C8.Cal P w K mg base 6 "are_positions" S_apos [] :=
  cal_of C C.T.F_are_positions C.T.g_are_positions b_are_positions sc_are_positions (fun mu vs G P h => by obtain ⟨x, a, _⟩ := h; first | (rw [show vs = _ from a]; rfl) | (obtain ⟨e, _⟩ := a; rw [e]; rfl) | (obtain ⟨_, e, _⟩ := a; rw [e]; rfl) | (obtain ⟨_, _, e, _⟩ := a; rw [e]; rfl) | (obtain ⟨_, _, _, e, _⟩ := a; rw [e]; rfl) | (obtain ⟨_, _, _, _, e, _⟩ := a; rw [e]; rfl) | (obtain ⟨⟨_, _, e, _⟩, _⟩ := a; rw [e]; rfl)) (fun cdv A outer s H E hr => der_are_positions C (upCal (by decide) (k_is_list C)) (upCal (by decide) (k_is_count C)) cdv A outer s H E hr) (m_apos C.T).meets
theorem b_picked_of : d_picked_of.ds = [] ∧ BindA d_picked_of p_picked_of := ⟨rfl, fun kV doc pm an cdv ct us hl => by match us, hl with | [a0, a1], _ => rfl⟩
theorem k_picked_of (C : Cxt K mg) : C8.Cal P w K mg base 2 "picked_of" S_pickof [] :=
  cal_of C C.T.F_picked_of C.T.g_picked_of b_picked_of sc_picked_of (fun mu vs G P h => by obtain ⟨x, a, _⟩ := h; first | (rw [show vs = _ from a]; rfl) | (obtain ⟨e, _⟩ := a; rw [e]; rfl) | (obtain ⟨_, e, _⟩ := a; rw [e]; rfl) | (obtain ⟨_, _, e, _⟩ := a; rw [e]; rfl) | (obtain ⟨_, _, _, e, _⟩ := a; rw [e]; rfl) | (obtain ⟨_, _, _, _, e, _⟩ := a; rw [e]; rfl) | (obtain ⟨⟨_, _, e, _⟩, _⟩ := a; rw [e]; rfl)) (fun cdv A outer s H E hr => der_picked_of C cdv A outer s H E hr) m_pickof.meets
theorem b_picked : d_picked.ds = [] ∧ BindA d_picked p_picked := ⟨rfl, fun kV doc pm an cdv ct us hl => by match us, hl with | [a0, a1], _ => rfl⟩
theorem k_picked (C : Cxt K mg) : C8.Cal P w K mg base 20 "picked" S_picked [] :=
  cal_of C C.T.F_picked C.T.g_picked b_picked sc_picked (fun mu vs G P h => by obtain ⟨x, a, _⟩ := h; first | (rw [show vs = _ from a]; rfl) | (obtain ⟨e, _⟩ := a; rw [e]; rfl) | (obtain ⟨_, e, _⟩ := a; rw [e]; rfl) | (obtain ⟨_, _, e, _⟩ := a; rw [e]; rfl) | (obtain ⟨_, _, _, e, _⟩ := a; rw [e]; rfl) | (obtain ⟨_, _, _, _, e, _⟩ := a; rw [e]; rfl) | (obtain ⟨⟨_, _, e, _⟩, _⟩ := a; rw [e]; rfl)) (fun cdv A outer s H E hr => der_picked C (upCal (by decide) (k_want_table C)) (upCal (by decide) (k_are_positions C)) (upCal (by decide) (k_picked_of C)) cdv A outer s H E hr) m_picked.meets
theorem b_Ratio_eq : d_Ratio_eq.ds = [] ∧ BindA d_Ratio_eq p_Ratio_eq := ⟨rfl, fun kV doc pm an cdv ct us hl => by match us, hl with | [a0, a1], _ => rfl⟩
theorem k_Ratio_eq (C : Cxt K mg) : NeB P w K mg base 2 CR S_req :=
  ne_of' C C.T.F_Ratio_eq C.T.insR C.T.atR_eq C.T.neR b_Ratio_eq sc_Ratio_eq (fun mu vs G P h => by obtain ⟨x, a, _⟩ := h; first | (rw [show vs = _ from a]; rfl) | (obtain ⟨e, _⟩ := a; rw [e]; rfl) | (obtain ⟨_, e, _⟩ := a; rw [e]; rfl) | (obtain ⟨_, _, e, _⟩ := a; rw [e]; rfl) | (obtain ⟨_, _, _, e, _⟩ := a; rw [e]; rfl) | (obtain ⟨_, _, _, _, e, _⟩ := a; rw [e]; rfl) | (obtain ⟨⟨_, _, e, _⟩, _⟩ := a; rw [e]; rfl)) (fun cdv A outer s H E hr => der_Ratio_eq C cdv A outer s H E hr) (m_req C.T).meets
end N640

set_option Elab.async false
set_option linter.all false
set_option maxRecDepth 100000
set_option maxHeartbeats 4000000
/-! Packing. -/
namespace N640
open PySem PySem.Spec PyProof.Rows L2 Gn
variable {P : Program} {w : World} {K : PySem.W.Frag} {mg : Str → Option Value} {base : Heap}
theorem b_Twin_size : d_Twin_size.ds = [] ∧ BindA d_Twin_size p_Twin_size := ⟨rfl, fun kV doc pm an cdv ct us hl => by match us, hl with | [a0], _ => rfl⟩
theorem k_Twin_size (C : Cxt K mg) : C8.Met P w K mg base 6 CT "size" S_size [] :=
  met_of C C.T.F_Twin_size C.T.clsT C.T.atT_size b_Twin_size sc_Twin_size (fun mu vs G P h => by obtain ⟨x, a, _⟩ := h; first | (rw [show vs = _ from a]; rfl) | (obtain ⟨e, _⟩ := a; rw [e]; rfl) | (obtain ⟨_, e, _⟩ := a; rw [e]; rfl) | (obtain ⟨_, _, e, _⟩ := a; rw [e]; rfl) | (obtain ⟨_, _, _, e, _⟩ := a; rw [e]; rfl) | (obtain ⟨_, _, _, _, e, _⟩ := a; rw [e]; rfl) | (obtain ⟨⟨_, _, e, _⟩, _⟩ := a; rw [e]; rfl)) (fun cdv A outer s H E hr => der_Twin_size C (upMak (by decide) (k_Ratio_init0 C)) cdv A outer s H E hr) (m_size C.T).meets
theorem b_Ratio_mul : d_Ratio_mul.ds = [] ∧ BindA d_Ratio_mul p_Ratio_mul := ⟨rfl, fun kV doc pm an cdv ct us hl => by match us, hl with | [a0, a1], _ => rfl⟩
theorem k_Ratio_mul (C : Cxt K mg) : OwnB P w K mg base 6 CR .Mult S_rmul :=
  own_of C C.T.F_Ratio_mul C.T.insR C.T.atR_mul C.T.rR_rmul b_Ratio_mul sc_Ratio_mul (fun mu vs G P h => by obtain ⟨x, a, _⟩ := h; first | (rw [show vs = _ from a]; rfl) | (obtain ⟨e, _⟩ := a; rw [e]; rfl) | (obtain ⟨_, e, _⟩ := a; rw [e]; rfl) | (obtain ⟨_, _, e, _⟩ := a; rw [e]; rfl) | (obtain ⟨_, _, _, e, _⟩ := a; rw [e]; rfl) | (obtain ⟨_, _, _, _, e, _⟩ := a; rw [e]; rfl) | (obtain ⟨⟨_, _, e, _⟩, _⟩ := a; rw [e]; rfl)) (fun cdv A outer s H E hr => der_Ratio_mul C (upCal (by decide) (k_told_pair C)) (upMak (by decide) (k_Ratio_init0 C)) cdv A outer s H E hr) (m_rmul C.T).meets
theorem b_take_two : d_take_two.ds = [] ∧ BindA d_take_two p_take_two := ⟨rfl, fun kV doc pm an cdv ct us hl => by match us, hl with | [a0, a1, a2], _ => rfl⟩
theorem k_take_two (C : Cxt K mg) : C8.Cal P w K mg base 16 "take_two" spT2 [] :=
  cal_ofS C C.T.F_take_two C.T.g_take_two b_take_two sc_take_two (fun vs H Q E h => by obtain ⟨_, _, _, _, _, e, _⟩ := h; rw [e]; rfl) (fun cdv A outer s H E hr => der_take_two C (upMet (by decide) (k_Twin_over C)) (upCal (by decide) (k_less_times C)) cdv A outer s H E hr) (fun vs H Q E h => m_take2 C.T vs H Q E h _ fun _ _ q => q)
theorem b_walked : d_walked.ds = [] ∧ BindA d_walked p_walked := ⟨rfl, fun kV doc pm an cdv ct us hl => by match us, hl with | [a0], _ => rfl⟩
theorem k_walked (C : Cxt K mg) : C8.Cal P w K mg base 18 "walked" S_walked [] :=
  cal_of C C.T.F_walked C.T.g_walked b_walked sc_walked (fun mu vs G P h => by obtain ⟨x, a, _⟩ := h; first | (rw [show vs = _ from a]; rfl) | (obtain ⟨e, _⟩ := a; rw [e]; rfl) | (obtain ⟨_, e, _⟩ := a; rw [e]; rfl) | (obtain ⟨_, _, e, _⟩ := a; rw [e]; rfl) | (obtain ⟨_, _, _, e, _⟩ := a; rw [e]; rfl) | (obtain ⟨_, _, _, _, e, _⟩ := a; rw [e]; rfl) | (obtain ⟨⟨_, _, e, _⟩, _⟩ := a; rw [e]; rfl)) (fun cdv A outer s H E hr => der_walked C (upMak (by decide) (k_Ratio_init1 C)) (upMak (by decide) (k_Walk_init0 C)) (upMet (by decide) (k_Walk_first_with C)) (upMet (by decide) (k_Walk_first_beside C)) (upMet (by decide) (k_Twin_size C)) (upOwn (by decide) (k_Ratio_mul C)) (upCal (by decide) (k_take_two C)) (upMet (by decide) (k_Walk_middle C)) (upMet (by decide) (k_Walk_take C)) cdv A outer s H E hr) (m_walked C.T).meets
theorem b_determinant : d_determinant.ds = [] ∧ BindA d_determinant p_determinant := ⟨rfl, fun kV doc pm an cdv ct us hl => by match us, hl with | [a0], _ => rfl⟩
theorem k_determinant (C : Cxt K mg) : C8.Cal P w K mg base 20 "determinant" S_det [] :=
  cal_of C C.T.F_determinant C.T.g_determinant b_determinant sc_determinant (fun mu vs G P h => by obtain ⟨x, a, _⟩ := h; first | (rw [show vs = _ from a]; rfl) | (obtain ⟨e, _⟩ := a; rw [e]; rfl) | (obtain ⟨_, e, _⟩ := a; rw [e]; rfl) | (obtain ⟨_, _, e, _⟩ := a; rw [e]; rfl) | (obtain ⟨_, _, _, e, _⟩ := a; rw [e]; rfl) | (obtain ⟨_, _, _, _, e, _⟩ := a; rw [e]; rfl) | (obtain ⟨⟨_, _, e, _⟩, _⟩ := a; rw [e]; rfl)) (fun cdv A outer s H E hr => der_determinant C (upCal (by decide) (k_walked C)) (upCal (by decide) (k_want_table C)) (upMak (by decide) (k_Ratio_init1 C)) cdv A outer s H E hr) m_det.meets
theorem b_least_part_of : d_least_part_of.ds = [] ∧ BindA d_least_part_of p_least_part_of := ⟨rfl, fun kV doc pm an cdv ct us hl => by match us, hl with | [a0], _ => rfl⟩
theorem k_least_part_of (C : Cxt K mg) : C8.Cal P w K mg base 22 "least_part_of" S_lpo [] :=
  cal_of C C.T.F_least_part_of C.T.g_least_part_of b_least_part_of sc_least_part_of (fun mu vs G P h => by obtain ⟨x, a, _⟩ := h; first | (rw [show vs = _ from a]; rfl) | (obtain ⟨e, _⟩ := a; rw [e]; rfl) | (obtain ⟨_, e, _⟩ := a; rw [e]; rfl) | (obtain ⟨_, _, e, _⟩ := a; rw [e]; rfl) | (obtain ⟨_, _, _, e, _⟩ := a; rw [e]; rfl) | (obtain ⟨_, _, _, _, e, _⟩ := a; rw [e]; rfl) | (obtain ⟨⟨_, _, e, _⟩, _⟩ := a; rw [e]; rfl)) (fun cdv A outer s H E hr => der_least_part_of C (upCal (by decide) (k_is_never_below_of C)) (upCal (by decide) (k_picked_of C)) cdv A outer s H E hr) m_lpo.meets
theorem b_least_part : d_least_part.ds = [] ∧ BindA d_least_part p_least_part := ⟨rfl, fun kV doc pm an cdv ct us hl => by match us, hl with | [a0], _ => rfl⟩
theorem k_least_part (C : Cxt K mg) : C8.Cal P w K mg base 24 "least_part" S_lp [] :=
  cal_of C C.T.F_least_part C.T.g_least_part b_least_part sc_least_part (fun mu vs G P h => by obtain ⟨x, a, _⟩ := h; first | (rw [show vs = _ from a]; rfl) | (obtain ⟨e, _⟩ := a; rw [e]; rfl) | (obtain ⟨_, e, _⟩ := a; rw [e]; rfl) | (obtain ⟨_, _, e, _⟩ := a; rw [e]; rfl) | (obtain ⟨_, _, _, e, _⟩ := a; rw [e]; rfl) | (obtain ⟨_, _, _, _, e, _⟩ := a; rw [e]; rfl) | (obtain ⟨⟨_, _, e, _⟩, _⟩ := a; rw [e]; rfl)) (fun cdv A outer s H E hr => der_least_part C (upCal (by decide) (k_least_part_of C)) (upCal (by decide) (k_want_table C)) cdv A outer s H E hr) m_lp.meets
theorem kw_least_part (C : Cxt K mg) : KwB P w K mg base 24 "least_part" "table" S_lp :=
  kw_of C C.T.F_least_part C.T.g_least_part rfl (fun kV doc pm an cdv ct u => rfl) sc_least_part (fun mu vs G P h => by obtain ⟨x, a, _⟩ := h; first | (rw [show vs = _ from a]; rfl) | (obtain ⟨e, _⟩ := a; rw [e]; rfl) | (obtain ⟨_, e, _⟩ := a; rw [e]; rfl) | (obtain ⟨_, _, e, _⟩ := a; rw [e]; rfl) | (obtain ⟨_, _, _, e, _⟩ := a; rw [e]; rfl) | (obtain ⟨_, _, _, _, e, _⟩ := a; rw [e]; rfl) | (obtain ⟨⟨_, _, e, _⟩, _⟩ := a; rw [e]; rfl)) (fun cdv A outer s H E hr => der_least_part C (upCal (by decide) (k_least_part_of C)) (upCal (by decide) (k_want_table C)) cdv A outer s H E hr) m_lp.meets
theorem b_Ratio_add : d_Ratio_add.ds = [] ∧ BindA d_Ratio_add p_Ratio_add := ⟨rfl, fun kV doc pm an cdv ct us hl => by match us, hl with | [a0, a1], _ => rfl⟩
theorem k_Ratio_add (C : Cxt K mg) : OwnB P w K mg base 6 CR .Add S_radd :=
  own_of C C.T.F_Ratio_add C.T.insR C.T.atR_add C.T.rR_radd b_Ratio_add sc_Ratio_add (fun mu vs G P h => by obtain ⟨x, a, _⟩ := h; first | (rw [show vs = _ from a]; rfl) | (obtain ⟨e, _⟩ := a; rw [e]; rfl) | (obtain ⟨_, e, _⟩ := a; rw [e]; rfl) | (obtain ⟨_, _, e, _⟩ := a; rw [e]; rfl) | (obtain ⟨_, _, _, e, _⟩ := a; rw [e]; rfl) | (obtain ⟨_, _, _, _, e, _⟩ := a; rw [e]; rfl) | (obtain ⟨⟨_, _, e, _⟩, _⟩ := a; rw [e]; rfl)) (fun cdv A outer s H E hr => der_Ratio_add C (upCal (by decide) (k_told_pair C)) (upMak (by decide) (k_Ratio_init0 C)) cdv A outer s H E hr) (m_radd C.T).meets
theorem b_Ratio_over : d_Ratio_over.ds = [] ∧ BindA d_Ratio_over p_Ratio_over := ⟨rfl, fun kV doc pm an cdv ct us hl => by match us, hl with | [a0, a1], _ => rfl⟩
theorem k_Ratio_over (C : Cxt K mg) : C8.Met P w K mg base 6 CR "over" S_rover [] :=
  met_of C C.T.F_Ratio_over C.T.clsR C.T.atR_over b_Ratio_over sc_Ratio_over (fun mu vs G P h => by obtain ⟨x, a, _⟩ := h; first | (rw [show vs = _ from a]; rfl) | (obtain ⟨e, _⟩ := a; rw [e]; rfl) | (obtain ⟨_, e, _⟩ := a; rw [e]; rfl) | (obtain ⟨_, _, e, _⟩ := a; rw [e]; rfl) | (obtain ⟨_, _, _, e, _⟩ := a; rw [e]; rfl) | (obtain ⟨_, _, _, _, e, _⟩ := a; rw [e]; rfl) | (obtain ⟨⟨_, _, e, _⟩, _⟩ := a; rw [e]; rfl)) (fun cdv A outer s H E hr => der_Ratio_over C (upCal (by decide) (k_told_pair C)) (upMak (by decide) (k_Ratio_init0 C)) cdv A outer s H E hr) (m_rover C.T).meets
theorem b_Twin_add : d_Twin_add.ds = [] ∧ BindA d_Twin_add p_Twin_add := ⟨rfl, fun kV doc pm an cdv ct us hl => by match us, hl with | [a0, a1], _ => rfl⟩
theorem k_Twin_add (C : Cxt K mg) : OwnB P w K mg base 12 CT .Add S_tadd :=
  own_of C C.T.F_Twin_add C.T.insT C.T.atT_add C.T.rT_radd b_Twin_add sc_Twin_add (fun mu vs G P h => by obtain ⟨x, a, _⟩ := h; first | (rw [show vs = _ from a]; rfl) | (obtain ⟨e, _⟩ := a; rw [e]; rfl) | (obtain ⟨_, e, _⟩ := a; rw [e]; rfl) | (obtain ⟨_, _, e, _⟩ := a; rw [e]; rfl) | (obtain ⟨_, _, _, e, _⟩ := a; rw [e]; rfl) | (obtain ⟨_, _, _, _, e, _⟩ := a; rw [e]; rfl) | (obtain ⟨⟨_, _, e, _⟩, _⟩ := a; rw [e]; rfl)) (fun cdv A outer s H E hr => der_Twin_add C (upCal (by decide) (k_told_parts C)) (upCal (by decide) (k_by_parts C)) cdv A outer s H E hr) (m_tadd C.T).meets
theorem b_bent : d_bent.ds = [] ∧ BindA d_bent p_bent := ⟨rfl, fun kV doc pm an cdv ct us hl => by match us, hl with | [a0, a1, a2], _ => rfl⟩
theorem k_bent (C : Cxt K mg) : C8.Cal P w K mg base 14 "bent" S_bent [] :=
  cal_of C C.T.F_bent C.T.g_bent b_bent sc_bent (fun mu vs G P h => by obtain ⟨_, s, x, _, _, a, _⟩ := h; first | (rw [show vs = _ from a]; rfl) | (obtain ⟨e, _⟩ := a; rw [e]; rfl) | (obtain ⟨_, e, _⟩ := a; rw [e]; rfl) | (obtain ⟨_, _, e, _⟩ := a; rw [e]; rfl) | (obtain ⟨_, _, _, e, _⟩ := a; rw [e]; rfl) | (obtain ⟨_, _, _, _, e, _⟩ := a; rw [e]; rfl) | (obtain ⟨⟨_, _, e, _⟩, _⟩ := a; rw [e]; rfl)) (fun cdv A outer s H E hr => der_bent C (upMet (by decide) (k_Walk_middle C)) (upOwn (by decide) (k_Ratio_add C)) (upMet (by decide) (k_Ratio_over C)) (upMet (by decide) (k_Twin_size C)) (upMak (by decide) (k_Ratio_init1 C)) (upOwn (by decide) (k_Ratio_mul C)) (upMet (by decide) (k_Twin_mirror C)) (upOwn (by decide) (k_Twin_mul C)) (upOwn (by decide) (k_Twin_add C)) cdv A outer s H E hr) (m_bent C.T).meets
theorem b_bar_of : d_bar_of.ds = [] ∧ BindA d_bar_of p_bar_of := ⟨rfl, fun kV doc pm an cdv ct us hl => by match us, hl with | [a0], _ => rfl⟩
theorem k_bar_of (C : Cxt K mg) : C8.Cal P w K mg base 18 "bar_of" S_barof [] :=
  cal_of C C.T.F_bar_of C.T.g_bar_of b_bar_of sc_bar_of (fun mu vs G P h => by obtain ⟨x, a, _⟩ := h; first | (rw [show vs = _ from a]; rfl) | (obtain ⟨e, _⟩ := a; rw [e]; rfl) | (obtain ⟨_, e, _⟩ := a; rw [e]; rfl) | (obtain ⟨_, _, e, _⟩ := a; rw [e]; rfl) | (obtain ⟨_, _, _, e, _⟩ := a; rw [e]; rfl) | (obtain ⟨_, _, _, _, e, _⟩ := a; rw [e]; rfl) | (obtain ⟨⟨_, _, e, _⟩, _⟩ := a; rw [e]; rfl)) (fun cdv A outer s H E hr => der_bar_of C (upMak (by decide) (k_Walk_init0 C)) (upMet (by decide) (k_Walk_first_beside C)) (upMet (by decide) (k_Walk_first_with C)) (upCal (by decide) (k_bent C)) (upMet (by decide) (k_Walk_take C)) cdv A outer s H E hr) (m_bar_of C.T).meets
theorem b_bar : d_bar.ds = [] ∧ BindA d_bar p_bar := ⟨rfl, fun kV doc pm an cdv ct us hl => by match us, hl with | [a0], _ => rfl⟩
theorem k_bar (C : Cxt K mg) : C8.Cal P w K mg base 20 "bar" S_bar [] :=
  cal_of C C.T.F_bar C.T.g_bar b_bar sc_bar (fun mu vs G P h => by obtain ⟨x, a, _⟩ := h; first | (rw [show vs = _ from a]; rfl) | (obtain ⟨e, _⟩ := a; rw [e]; rfl) | (obtain ⟨_, e, _⟩ := a; rw [e]; rfl) | (obtain ⟨_, _, e, _⟩ := a; rw [e]; rfl) | (obtain ⟨_, _, _, e, _⟩ := a; rw [e]; rfl) | (obtain ⟨_, _, _, _, e, _⟩ := a; rw [e]; rfl) | (obtain ⟨⟨_, _, e, _⟩, _⟩ := a; rw [e]; rfl)) (fun cdv A outer s H E hr => der_bar C (upCal (by decide) (k_bar_of C)) (upCal (by decide) (k_want_table C)) cdv A outer s H E hr) m_bar.meets
theorem b_product_sum : d_product_sum.ds = [] ∧ BindA d_product_sum p_product_sum := ⟨rfl, fun kV doc pm an cdv ct us hl => by match us, hl with | [a0, a1], _ => rfl⟩
theorem k_product_sum (C : Cxt K mg) : C8.Cal P w K mg base 14 "product_sum" S_psum [] :=
  cal_of C C.T.F_product_sum C.T.g_product_sum b_product_sum sc_product_sum (fun mu vs G P h => by obtain ⟨x, a, _⟩ := h; first | (rw [show vs = _ from a]; rfl) | (obtain ⟨e, _⟩ := a; rw [e]; rfl) | (obtain ⟨_, e, _⟩ := a; rw [e]; rfl) | (obtain ⟨_, _, e, _⟩ := a; rw [e]; rfl) | (obtain ⟨_, _, _, e, _⟩ := a; rw [e]; rfl) | (obtain ⟨_, _, _, _, e, _⟩ := a; rw [e]; rfl) | (obtain ⟨⟨_, _, e, _⟩, _⟩ := a; rw [e]; rfl)) (fun cdv A outer s H E hr => der_product_sum C (upMak (by decide) (k_Twin_init1 C)) (upOwn (by decide) (k_Twin_mul C)) (upOwn (by decide) (k_Twin_add C)) cdv A outer s H E hr) m_psum.meets
theorem b_pair_form : d_pair_form.ds = [] ∧ BindA d_pair_form p_pair_form := ⟨rfl, fun kV doc pm an cdv ct us hl => by match us, hl with | [a0, a1, a2], _ => rfl⟩
theorem k_pair_form (C : Cxt K mg) : C8.Cal P w K mg base 16 "pair_form" S_pf [] :=
  cal_of C C.T.F_pair_form C.T.g_pair_form b_pair_form sc_pair_form (fun mu vs G P h => by obtain ⟨x, a, _⟩ := h; first | (rw [show vs = _ from a]; rfl) | (obtain ⟨e, _⟩ := a; rw [e]; rfl) | (obtain ⟨_, e, _⟩ := a; rw [e]; rfl) | (obtain ⟨_, _, e, _⟩ := a; rw [e]; rfl) | (obtain ⟨_, _, _, e, _⟩ := a; rw [e]; rfl) | (obtain ⟨_, _, _, _, e, _⟩ := a; rw [e]; rfl) | (obtain ⟨⟨_, _, e, _⟩, _⟩ := a; rw [e]; rfl)) (fun cdv A outer s H E hr => der_pair_form C (upMet (by decide) (k_Twin_mirror C)) (upCal (by decide) (k_product_sum C)) cdv A outer s H E hr) m_pf.meets
theorem b_form_of : d_form_of.ds = [] ∧ BindA d_form_of p_form_of := ⟨rfl, fun kV doc pm an cdv ct us hl => by match us, hl with | [a0, a1], _ => rfl⟩
theorem k_form_of (C : Cxt K mg) : C8.Cal P w K mg base 18 "form_of" S_form [] :=
  cal_of C C.T.F_form_of C.T.g_form_of b_form_of sc_form_of (fun mu vs G P h => by obtain ⟨x, a, _⟩ := h; first | (rw [show vs = _ from a]; rfl) | (obtain ⟨e, _⟩ := a; rw [e]; rfl) | (obtain ⟨_, e, _⟩ := a; rw [e]; rfl) | (obtain ⟨_, _, e, _⟩ := a; rw [e]; rfl) | (obtain ⟨_, _, _, e, _⟩ := a; rw [e]; rfl) | (obtain ⟨_, _, _, _, e, _⟩ := a; rw [e]; rfl) | (obtain ⟨⟨_, _, e, _⟩, _⟩ := a; rw [e]; rfl)) (fun cdv A outer s H E hr => der_form_of C (upCal (by decide) (k_pair_form C)) (upPrp (by decide) (k_Twin_plain C)) cdv A outer s H E hr) m_form.meets
theorem b_is_bar : d_is_bar.ds = [] ∧ BindA d_is_bar p_is_bar := ⟨rfl, fun kV doc pm an cdv ct us hl => by match us, hl with | [a0, a1], _ => rfl⟩
theorem k_is_bar (C : Cxt K mg) : C8.Cal P w K mg base 20 "is_bar" S_isbar [] :=
  cal_of C C.T.F_is_bar C.T.g_is_bar b_is_bar sc_is_bar (fun mu vs G P h => by obtain ⟨x, a, _⟩ := h; first | (rw [show vs = _ from a]; rfl) | (obtain ⟨e, _⟩ := a; rw [e]; rfl) | (obtain ⟨_, e, _⟩ := a; rw [e]; rfl) | (obtain ⟨_, _, e, _⟩ := a; rw [e]; rfl) | (obtain ⟨_, _, _, e, _⟩ := a; rw [e]; rfl) | (obtain ⟨_, _, _, _, e, _⟩ := a; rw [e]; rfl) | (obtain ⟨⟨_, _, e, _⟩, _⟩ := a; rw [e]; rfl)) (fun cdv A outer s H E hr => der_is_bar C (upCal (by decide) (k_want_table C)) (upCal (by decide) (k_are_values C)) (upCal (by decide) (k_form_of C)) (upCal (by decide) (k_twin_of C)) (upPrp (by decide) (k_Ratio_sign C)) cdv A outer s H E hr) (m_isbar C.T).meets
theorem b_L_right : d_L_right.ds = [] ∧ BindA d_L_right p_L_right := ⟨rfl, fun kV doc pm an cdv ct us hl => by match us, hl with | [a0], _ => rfl⟩
theorem k_L_right (C : Cxt K mg) : CalG P w K mg base 26 "_law_right" S_right :=
  calG_of C C.T.F_L_right C.T.g_L_right b_L_right sc_L_right (fun vs H Q E ⟨_, _, _, _, ⟨_, _, us, e0, _, a, _⟩, _⟩ => by rw [e0, show us = _ from a]; rfl) (fun cdv A outer s H E hg hr => der_L_right C (upCal (by decide) (k_L_draw C)) (upCal (by decide) (k_L_grown C)) (upCal (by decide) (k_L_above C)) (upCal (by decide) (k_L_any C)) (upCal (by decide) (k_L_handed C)) (upCal (by decide) (k_L_steps C)) (upCal (by decide) (k_L_choices C)) (upCal (by decide) (k_L_determinant C)) (upCal (by decide) (k_L_part C)) (upCal (by decide) (k_is_never_below C)) (upCal (by decide) (k_picked C)) (upNe (by decide) (k_Ratio_eq C)) (upCal (by decide) (k_determinant C)) (upMak (by decide) (k_Ratio_init0 C)) (upKw (by decide) (kw_least_part C)) (upCal (by decide) (k_least_part C)) (upCal (by decide) (k_bar C)) (upCal (by decide) (k_is_bar C)) cdv A outer s H E hg hr) (meets_keeps m_Lright.meets)
theorem b_L_pot : d_L_pot.ds = [] ∧ BindA d_L_pot p_L_pot := ⟨rfl, fun kV doc pm an cdv ct us hl => by match us, hl with | [a0, a1], _ => rfl⟩
theorem k_L_pot (C : Cxt K mg) : C8.Cal P w K mg base 2 "_law_pot" (spPot K) [] :=
  cal_ofS C C.T.F_L_pot C.T.g_L_pot b_L_pot sc_L_pot (fun vs H Q E h => by obtain ⟨_, _, _, _, _, e, _⟩ := h; rw [e]; rfl) (fun cdv A outer s H E hr => der_L_pot C cdv A outer s H E hr) (fun vs H Q E h => m_Lpot vs H Q E h _ fun _ _ q => q)
end N640

set_option Elab.async false
set_option linter.all false
set_option maxRecDepth 100000
set_option maxHeartbeats 4000000
/-! The law's call, from a caller with no guard. -/
namespace N640
open PySem PySem.Spec PyProof.Rows L2 Gn
variable {P : Program} {w : World} {K : PySem.W.Frag} {mg mb : Str → Option Value} {base : Heap}
theorem b_law : d_law.ds = [] ∧ BindA d_law p_law := ⟨rfl, fun kV doc pm an cdv ct us hl => by match us, hl with | [a0], _ => rfl⟩
theorem run_law (C : Cxt K mg) {fd : FuncData} (F : FnD K d_law fd) : RunG P w K mg base 40 d_law.ad fd p_law (spLaw K) := fun A outer s H args us vs Q E hg hr =>
  run_g (j := 26) F sc_law (fun vs H Q E ⟨_, _, e, _⟩ => by rw [e]; rfl) (fun cdv A outer s H E hg hr => der_law C (k_L_right C) (upCal (by decide) (k_L_pot C)) cdv A outer s H E hg hr) (fun vs H Q E h => m_law vs H Q E h) A outer s H args us vs Q E hg (hr.mono (by decide))
/-- what is asked of the call's end -/
abbrev LawEnd (s : Shared) : Result → Shared → Prop := fun r s' => r = .ok (.ret (.bool true)) ∧ OldK s.heap s'.heap ∧ s'.os = s.os ∧ AllBare s'.gens
section
variable {s : Shared} {a fa : Addr} {fd : FuncData} {vs : List Value} {ns : List Int} {H0 : Hp}
/-- at one abstract heap: it holds the script at most, and that never changes -/
theorem law_at (kin : K.In s.heap) (nsm : s.heap.Ns mainGlobals mg) (nsb : s.heap.Ns builtinsNs mb) (bb : ∀ x : Str, x ≠ "__name__" → mb x = bootBuiltins x) (lim : s.heap.NoLimit) (gens : s.gens = #[])
    (scr : s.heap.get? a = some { cls := .type "list", data := .seq vs.toArray }) (few : ns.length ≤ 63) (run : ∀ base : Heap, K.In base → base.Ns mainGlobals mg → RunG P w K mg base 40 fa fd ["_law_script"] (spLaw K)) (bnd : ∀ (s : Shared) (u : Value), BindsTo s fd ⟨[u], []⟩ [("_law_script", u)])
    (ok : HOk P w H0 s.heap) (sq : SqL K H0 a (ns.map V.int)) (only : ∀ b z, H0 b = some z → b = a ∧ K.lookup a = none ∧ ∃ o xs, z = .frz o (.lst xs)) : codeAny (model P w) callerA (.call (.ref fa) ⟨[.ref a], []⟩) (LawEnd s) s := by
  have none_of : ∀ b, b ≠ a → H0 b = none := fun b hb => by
    cases q : H0 b with
    | none => rfl
    | some z => exact absurd (only b z q).1 hb
  have ns_of : ∀ {b : Addr} {m : Str → Option Value}, s.heap.Ns b m → (hidT s.heap H0).Ns b m := by
    rintro b m ⟨o, es, ep, g, dt, r⟩
    refine ⟨o, es, ep, hidT_get g (none_of b fun e => ?_), dt, r⟩
    rw [e, scr] at g
    cases g
    exact nomatch (show Data.seq vs.toArray _ = Data.dict es ep from dt)
  have kin0 : K.In (hidT s.heap H0) := fun b o g => hidT_get (kin b o g) (by
    cases q : H0 b with
    | none => rfl
    | some z =>
      obtain ⟨e1, e2, _⟩ := only b z q
      rw [e1, e2] at g
      cases g)
  have md : Mod K mg (hidT s.heap H0) := ⟨kin0, ns_of nsm, ⟨mb, ns_of nsb, bb⟩, by
    obtain ⟨mc, z1, z2⟩ := lim
    exact ⟨mc, ns_of z1, z2⟩⟩
  have e0 : Env0 P w K mg (hidT s.heap H0) callerA [] s H0 :=
    { frames := rfl, mod := md, bs := fun _ _ z => of_hidT z, bsz := Nat.le_of_eq (hidT_size _ _), funs := trivial, frf := fun b hb => (by cases hb), hok := ok, bare := .of_eq gens }
  have room : Room 40 callerA := ⟨rfl, by decide, by decide⟩
  have main := run _ kin0 (ns_of nsm) callerA [] s H0 ⟨[.ref a], []⟩ [.ref a] [.ref a] (fun v _ => v = .bl true) (fun _ _ _ => False) rfl room e0 (bnd s (.ref a)) (.cons rfl .nil) ⟨a, ns, rfl, sq, few, fun _ => rfl⟩
  apply codeAny_mono main
  intro r s2 hr
  match r, hr with
  | .ok (.ret u), ⟨v, H2, os2, bare2, un, ok2, rv, qv⟩ =>
    subst qv
    have eu : u = Value.bool true := rv
    subst eu
    refine ⟨rfl, OldK.of_keep fun b o g => ?_, os2, bare2⟩
    cases q : H0 b with
    | none => exact un.keep b o g q (by intro z; cases z) (by intro z; cases z)
    | some z =>
      obtain ⟨_, _, o1, xs, ez⟩ := only b z q
      rw [ez] at q
      have g1 := (ok b _ q).1
      have g2 := (ok2 b _ (un.frzs b o1 _ q)).1
      rw [g] at g1
      cases g1
      exact g2
theorem law_end (kin : K.In s.heap) (nsm : s.heap.Ns mainGlobals mg) (nsb : s.heap.Ns builtinsNs mb) (bb : ∀ x : Str, x ≠ "__name__" → mb x = bootBuiltins x) (lim : s.heap.NoLimit) (gens : s.gens = #[])
    (scr : s.heap.get? a = some { cls := .type "list", data := .seq vs.toArray }) (whole : IntsAre vs ns) (few : ns.length ≤ 63) (run : ∀ base : Heap, K.In base → base.Ns mainGlobals mg → RunG P w K mg base 40 fa fd ["_law_script"] (spLaw K)) (bnd : ∀ (s : Shared) (u : Value), BindsTo s fd ⟨[u], []⟩ [("_law_script", u)]) :
    codeAny (model P w) callerA (.call (.ref fa) ⟨[.ref a], []⟩) (LawEnd s) s := by
  have vl := vals_ints whole
  have sz : ns.length ≤ sizeLine := Nat.le_trans few (by decide)
  have go := fun (H0 : Hp) => law_at (H0 := H0) kin nsm nsb bb lim gens scr few run bnd
  cases look : K.lookup a with
  | some o =>
    have g := kin a o look
    rw [scr] at g
    cases g
    exact go (fun _ => none) (fun b u z => nomatch (show (none : Option HO) = some u from z)) (.inr ⟨_, vs.toArray, _, look, rfl, rfl, rfl, by rw [List.size_toArray, whole.length]; exact sz, by simpa using vl⟩) fun b u z => nomatch (show (none : Option HO) = some u from z)
  | none =>
    have at_ : ∀ b u, (if b = a then some (HO.frz { cls := .type "list", data := .seq vs.toArray } (.lst (ns.map V.int))) else none) = some u → b = a ∧ u = HO.frz { cls := .type "list", data := .seq vs.toArray } (.lst (ns.map V.int)) := fun b u z => by
      split at z
      · cases z; exact ⟨by assumption, rfl⟩
      · cases z
    refine go (fun b => if b = a then some (.frz { cls := .type "list", data := .seq vs.toArray } (.lst (ns.map V.int))) else none) (fun b u z => ?_) (.inl (.inr ⟨{ cls := .type "list", data := .seq vs.toArray }, if_pos rfl⟩)) fun b u z => ?_
    · obtain ⟨e1, e2⟩ := at_ b u z
      subst e1 e2
      exact ⟨scr, by rw [List.length_map]; exact sz, vs, _, vl, scr⟩
    · obtain ⟨e1, e2⟩ := at_ b u z
      exact ⟨e1, look, _, _, e2⟩
end
end N640

set_option Elab.async false
set_option maxRecDepth 100000
set_option maxHeartbeats 0
open PySem PySem.W PySem.Calls PyProof.Rows
set_option maxHeartbeats 0 in
theorem PySem.Challenge.cw_neverlouder_k28_whole_parts_and_picked_t_holds : PySem.Challenge.rw_neverlouder_k28_whole_parts_and_picked_t.Holds := by
  w_on; o_law
  refine HandSHeadRun.head_imp (r := OpenLaw.row PySem.Challenge.rw_neverlouder_k28_whole_parts_and_picked_t) (q := N640.qv) (H := N640.hk) (ob := N640.ob) (M := 7000) (loose := N640.loo) (d := HandSHeadRun.topDef N640.R.prog 86) (kwd := []) N640.ob_eq N640.runAll
    (by kernel_rfl) (by kernel_rfl) (by kernel_rfl) (by rfl) (by first | assumption | decide +kernel) (by decide +kernel) ⟨rfl, rfl, rfl, rfl, rfl, by decide +kernel⟩ ?hw ?hc
  case hw => w_witness2
  case hc =>
    refine Att.attach_call (l := PySem.Challenge.rw_neverlouder_k28_whole_parts_and_picked_t) (n := 63) rfl (by kernel_rfl) fun w s₀ s₁ mg mb fa o pm cd doc a vs ns G Y ho hd hcd hmg0 hobj hints hlen hg => ?_
    obtain ⟨K, KX, c⟩ := Y
    have hmg : mg ("law" : PySem.Str) = some (.ref fa) := by
      have e : (HandSHeadRun.topDef N640.R.prog 86).name = ("law" : PySem.Str) := by kernel_rfl
      rw [← e]
      exact hmg0
    have e2 := hmg.symm.trans (PySem.W.mg_of KX G.T.g (He.eqO_ok c.tx.g_law))
    have e3 : fa = N640.d_law.ad := by
      have := Option.some.inj e2
      injection this
    subst e3
    obtain ⟨⟨fd, F⟩, _, _⟩ := c.tx.F_law
    have F' : L2.FunD K N640.d_law.nm N640.d_law.ql (L2.defArgs N640.d_law.st) (L2.defBody N640.d_law.st) (L2.defScope N640.d_law.st) [] [] N640.d_law.ad fd := F
    exact N640.law_end KX G.T.g G.T.b G.T.builtins G.T.nolimit hg hobj hints hlen (fun base kin nsm => N640.run_law (N640.cxt_of kin nsm c.tx) F) fun s u => F'.bindsA (ps := N640.p_law) N640.b_law.2 s [u] rfl

