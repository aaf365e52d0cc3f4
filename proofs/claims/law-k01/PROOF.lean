import PyProof.Rows.All
import Wide.All
import OpenK.AllK
import Wide.FinOn
import HandS.ForMost
import HandS.ForExc
import HandS.Wide
import HandS.ExcInit
import HandS.ExcField
import KE.KStateDown
import HandS.Head0
import HandS.Head1
import HandS.Head2
import HandS.HeadEnd
import HandS.HeadHook1
import HandS.HeadHook2
import HandS.HeadHook3
import HandS.HeadHook4
import HandS.Head3
import HandS.Gcd
import HandS.IsInst
import HandS.TupAny
import HandS.TupMul
import HandS.Zip
import HandS.Style
import HandS.Conv
import HandS.Walk
import HandS.Defaults
import HandS.RaiseMore
import HandS.TryOnly
import KE.GoesEnum
import KE.KOpsOwn
import HandS.OwnEq
import HandS.ClsMeth
import HandS.CallLocal
import HandS.Lambda
import HandS.EndTab
import HandS.HeadWalk
import PySem.Challenge.RW_toldmeans_k01_whole_ratios_and_polynomia
/-! ## LwHd0 -/
set_option Elab.async false
set_option linter.all false
set_option maxRecDepth 100000
set_option maxHeartbeats 0
set_option exponentiation.threshold 100000
/-! LwHd0: what the head tells (lists written by a program). -/
namespace TM
open PySem PySem.Spec PyProof.Rows L2 He
def top (i : Nat) : Stmt := PySem.Challenge.pw_toldmeans_k01_whole_ratios_and_polynomia.main.body.getD i (.Pass ⟨0, 0, 0, 0⟩)
def pol (j : Nat) : Stmt := inClass (top 23) j
def bnI : Stmt := inClass (top 3) 0
def brI : Stmt := inClass (top 4) 0
/-! ### more facts -/
def isTy (o : Option (Option Value)) (n : String) : Bool := match o with
  | some (some (.builtin m)) => decide (m = n)
  | _ => false
theorem isTy_ok {o : Option (Option Value)} {n : String} (h : isTy o n = true) : o = some (some (.builtin n)) := by
  unfold isTy at h
  split at h
  · rw [of_decide_eq_true h]
  · cases h
def dunT (K : PySem.W.Frag) (C : Addr) (nm T : String) (b : Bool) : Bool := match PySem.W.findIn K (.type T) (PySem.dunder nm), PySem.W.findIn K (.type T) (dunderR nm) with
  | some fo, some ro => decide (PySem.W.subIn K (.type T) (.ref C) = some false) && (decide (PySem.W.subIn K (.ref C) (.type T) = some false) && decide (((fo.isSome && !isSeqSlot fo) || (ro.isSome && !isSeqSlot ro)) = b))
  | _, _ => false
def dunB (K : PySem.W.Frag) (C : Addr) (op : Operator) : Bool := PySem.W.selfFirst K C && (dunT K C op.info.2 "int" true && dunT K C op.info.2 "tuple" false)
/-- an own exception class: its object -/
def oexB (K : PySem.W.Frag) (C : Addr) : Bool := (match K.lookup C with
  | some ⟨.type "type", _, .cls cd, sl⟩ => (match cd.mro, sl.toList with
    | .ref C2 :: bm, [_, _, _, _, some (.builtin n), _] => decide (C2 = C) && (decide (n = "ValueError.__new__") && (!cd.hasDel && (cd.hasDict && PySem.HandSPX.refsVE bm)))
    | _, _ => false)
  | _ => false) && (isTy (PySem.W.findIn K (.ref C) "__setattr__") "object.__setattr__" && (decide (PySem.W.subIn K (.ref C) (.type "BaseException") = some true) && (decide (PySem.W.typeIn K (.ref C) = some (.type "type")) && PySem.W.keepIn K (.ref C))))
theorem oexB_ok {K : PySem.W.Frag} {C : Addr} (h : oexB K C = true) : OexC K C := by
  obtain ⟨h0, h⟩ := ba h
  obtain ⟨h2, h⟩ := ba h
  obtain ⟨h3, h⟩ := ba h
  obtain ⟨h4, h5⟩ := ba h
  refine ⟨?_, isTy_ok h2, of_decide_eq_true h3, of_decide_eq_true h4, h5⟩
  split at h0
  · rename_i dd cd sl ho
    split at h0
    · rename_i C2 bm k0 k1 k2 k3 n k5 hm hs
      obtain ⟨a1, h0⟩ := ba h0
      obtain ⟨a2, h0⟩ := ba h0
      obtain ⟨a3, h0⟩ := ba h0
      obtain ⟨a4, a5⟩ := ba h0
      obtain ⟨nm, bs, mro, ns, qn, hd, sn, sub, ab, col, del⟩ := cd
      dsimp only at hm a3 a4
      have e1 := of_decide_eq_true a1
      have e2 := of_decide_eq_true a2
      have e3 : del = false := by
        cases del with
        | true => cases a3
        | false => rfl
      have hsl : sl = #[k0, k1, k2, k3, some (.builtin n), k5] := by
        obtain ⟨l⟩ := sl
        simp only at hs
        rw [hs]
      subst hm e1 e2 e3 a4 hsl
      exact ⟨nm, qn, ns, bs, bm, sn, sub, ab, col, dd, k0, k1, k2, k3, k5, ho, a5⟩
    · cases h0
  · cases h0
def fndB (o : Option PySem.W.CFound) (n : String) : Bool := match o with
  | some (.val (.builtin m)) => decide (m = n)
  | _ => false
theorem fndB_ok {o : Option PySem.W.CFound} {n : String} (h : fndB o n = true) : o = some (.val (.builtin n)) := by
  unfold fndB at h
  split at h
  · rw [of_decide_eq_true h]
  · cases h
def hTf : List Defn := [("_law_ratios_right", none), ("_law_made_right", none), ("_law_divided_right", none), ("law", none)]
def kitTys : List String := ["NoneType", "bool", "int", "str", "list", "tuple", "dict"]
def exB (K : PySem.W.Frag) : Bool := decide ((hTf.map fun p => (cT K p).2).Nodup) && (isTy (PySem.W.nsIn K mainGlobals "gcd") "math.gcd" && (isTy (PySem.W.findIn K (.ref (ga K "Poly")) "__class__") "object.__class__" && (isTy (PySem.W.specialIn K (.builtin "object.__class__") "__get__") "getset_descriptor.__get__" &&
  (decide (PySem.W.takesIn K (.builtin "object.__class__") = some true) && (decide (PySem.W.mroIn K (ga K "Poly") (.type "object") = some true) && (kitTys.all (fun T => decide (PySem.W.kitOne K (.type T) (.ref (ga K "Poly")) = some false)) &&
  (dunB K (ga K "Poly") .Add && (dunB K (ga K "Poly") .Sub && (dunB K (ga K "Poly") .Mult && (PySem.W.notFirst K (ga K "Poly") (.ref (ga K "Poly")) && (PySem.W.notFirst K (ga K "Poly") (.type "int") && (PySem.W.notFirst K (ga K "Poly") (.type "tuple") &&
  (PySem.W.readsIn K (ga K "MeanError") (.type "type") && (isTy (PySem.W.specialIn K (.ref (ga K "MeanError")) "__getattribute__") "type.__getattribute__" && (fndB (PySem.W.findCls K (.ref (ga K "MeanError")) (.type "type") "__init__") "ValueError.__init__" &&
  (oexB K (ga K "BadNumber") && (oexB K (ga K "BadRow") && (xfB K (ga K "BadNumber") && (xfB K (ga K "BadRow") && (decide (PySem.W.typeIn K (.ref (ma K (ga K "BadNumber") "__init__")) = some (.type "function")) && decide (PySem.W.typeIn K (.ref (ma K (ga K "BadRow") "__init__")) = some (.type "function"))))))))))))))))))))))

/-! ### the lists -/
def hFa0 : List Fa := [.glo "is_whole", .glo "is_ratio", .glo "divisor", .glo "lowest", .glo "parts", .glo "told", .glo "plus", .glo "minus", .glo "times", .glo "share", .glo "lower", .glo "floor_of", .glo "bottom_of", .glo "ratio_text", .glo "without_zeros", .glo "poly_told", .glo "added_up", .glo "summed", .glo "power_number", .glo "multiplied", .glo "plain", .glo "divided", .glo "common", .glo "_law_gcd", .glo "_law_q", .glo "_law_plus", .glo "_law_minus", .glo "_law_times", .glo "_law_share", .glo "_law_less"]
def hFa1 : List Fa := [.glo "_law_is_whole", .glo "_law_is", .glo "_law_poly", .glo "_law_p_plus", .glo "_law_p_scaled", .glo "_law_p_minus", .glo "_law_p_times", .glo "_law_p_at", .glo "_law_p_slope", .glo "_law_p_moved", .glo "_law_p_divided", .glo "_law_p_plain", .glo "_law_p_short", .glo "_law_p_common", .glo "_law_draw", .glo "_law_pick", .glo "_law_passed", .glo "_law_ratio", .glo "_law_made_poly", .glo "_law_drawn", .glo "_law_any", .glo "_law_far", .glo "_law_some_ratio", .glo "_law_pen", .glo "_law_why", .glo "_law_ratios_right", .glo "_law_made_right", .glo "_law_divided_right", .glo "law", .glo "MeanError"]
def hFa2 : List Fa := [.glo "BadNumber", .glo "BadRow", .glo "BadInterval", .glo "Unlike", .glo "Poly", .free "isinstance", .free "int", .free "bool", .free "tuple", .free "list", .free "len", .free "str", .free "all", .free "max", .free "min", .free "enumerate", .free "zip", .free "range", .free "abs", .free "repr", .free "ValueError", .cls "Poly", .noat "Poly" "numbers", .mkr "Poly", .meth "Poly" "__init__", .meth "Poly" "degree", .meth "Poly" "__eq__", .meth "Poly" "__add__", .meth "Poly" "__radd__", .meth "Poly" "__sub__"]
def hFa3 : List Fa := [.meth "Poly" "__rsub__", .meth "Poly" "__mul__", .meth "Poly" "__rmul__", .meth "Poly" "__neg__", .meth "Poly" "slope", .meth "Poly" "area", .meth "Poly" "at", .meth "Poly" "moved", .meth "BadNumber" "__init__", .meth "BadRow" "__init__", .noat "BadNumber" "what", .noat "BadNumber" "number", .noat "BadRow" "row", .exm "BadNumber" "BadNumber" true, .exm "BadRow" "BadNumber" false, .exm "BadRow" "BadRow" true, .keep "BadNumber", .keep "BadRow"]
def hFa : List Fa := hFa0 ++ hFa1 ++ hFa2 ++ hFa3
def hFn0 : List DefD := [⟨("is_whole", none), "is_whole", "is_whole", defArgs (top 8), defBody (top 8), defScope (top 8), [], []⟩, ⟨("is_ratio", none), "is_ratio", "is_ratio", defArgs (top 9), defBody (top 9), defScope (top 9), [], []⟩, ⟨("divisor", none), "divisor", "divisor", defArgs (top 10), defBody (top 10), defScope (top 10), [], []⟩, ⟨("lowest", none), "lowest", "lowest", defArgs (top 11), defBody (top 11), defScope (top 11), [], []⟩, ⟨("parts", none), "parts", "parts", defArgs (top 13), defBody (top 13), defScope (top 13), [], []⟩, ⟨("told", none), "told", "told", defArgs (top 12), defBody (top 12), defScope (top 12), [], []⟩, ⟨("plus", none), "plus", "plus", defArgs (top 14), defBody (top 14), defScope (top 14), [], []⟩, ⟨("minus", none), "minus", "minus", defArgs (top 15), defBody (top 15), defScope (top 15), [], []⟩, ⟨("times", none), "times", "times", defArgs (top 16), defBody (top 16), defScope (top 16), [], []⟩, ⟨("share", none), "share", "share", defArgs (top 17), defBody (top 17), defScope (top 17), [], []⟩, ⟨("lower", none), "lower", "lower", defArgs (top 18), defBody (top 18), defScope (top 18), [], []⟩, ⟨("floor_of", none), "floor_of", "floor_of", defArgs (top 19), defBody (top 19), defScope (top 19), [], []⟩, ⟨("bottom_of", none), "bottom_of", "bottom_of", defArgs (top 20), defBody (top 20), defScope (top 20), [], []⟩, ⟨("ratio_text", none), "ratio_text", "ratio_text", defArgs (top 21), defBody (top 21), defScope (top 21), [], []⟩, ⟨("without_zeros", none), "without_zeros", "without_zeros", defArgs (top 24), defBody (top 24), defScope (top 24), [], []⟩, ⟨("poly_told", none), "poly_told", "poly_told", defArgs (top 25), defBody (top 25), defScope (top 25), [], []⟩, ⟨("added_up", none), "added_up", "added_up", defArgs (top 26), defBody (top 26), defScope (top 26), [], []⟩, ⟨("summed", none), "summed", "summed", defArgs (top 27), defBody (top 27), defScope (top 27), [], []⟩, ⟨("power_number", none), "power_number", "power_number", defArgs (top 28), defBody (top 28), defScope (top 28), [], []⟩, ⟨("multiplied", none), "multiplied", "multiplied", defArgs (top 29), defBody (top 29), defScope (top 29), [], []⟩]
def hFn1 : List DefD := [⟨("plain", none), "plain", "plain", defArgs (top 31), defBody (top 31), defScope (top 31), [], []⟩, ⟨("divided", none), "divided", "divided", defArgs (top 30), defBody (top 30), defScope (top 30), [], []⟩, ⟨("common", none), "common", "common", defArgs (top 32), defBody (top 32), defScope (top 32), [], []⟩, ⟨("_law_gcd", none), "_law_gcd", "_law_gcd", defArgs (top 38), defBody (top 38), defScope (top 38), [], []⟩, ⟨("_law_q", none), "_law_q", "_law_q", defArgs (top 39), defBody (top 39), defScope (top 39), [], []⟩, ⟨("_law_plus", none), "_law_plus", "_law_plus", defArgs (top 40), defBody (top 40), defScope (top 40), [], []⟩, ⟨("_law_minus", none), "_law_minus", "_law_minus", defArgs (top 41), defBody (top 41), defScope (top 41), [], []⟩, ⟨("_law_times", none), "_law_times", "_law_times", defArgs (top 42), defBody (top 42), defScope (top 42), [], []⟩, ⟨("_law_share", none), "_law_share", "_law_share", defArgs (top 43), defBody (top 43), defScope (top 43), [], []⟩, ⟨("_law_less", none), "_law_less", "_law_less", defArgs (top 44), defBody (top 44), defScope (top 44), [], []⟩, ⟨("_law_is_whole", none), "_law_is_whole", "_law_is_whole", defArgs (top 37), defBody (top 37), defScope (top 37), [], []⟩, ⟨("_law_is", none), "_law_is", "_law_is", defArgs (top 62), defBody (top 62), defScope (top 62), [], []⟩, ⟨("_law_poly", none), "_law_poly", "_law_poly", defArgs (top 47), defBody (top 47), defScope (top 47), [], []⟩, ⟨("_law_p_plus", none), "_law_p_plus", "_law_p_plus", defArgs (top 48), defBody (top 48), defScope (top 48), [], []⟩, ⟨("_law_p_scaled", none), "_law_p_scaled", "_law_p_scaled", defArgs (top 49), defBody (top 49), defScope (top 49), [], []⟩, ⟨("_law_p_minus", none), "_law_p_minus", "_law_p_minus", defArgs (top 50), defBody (top 50), defScope (top 50), [], []⟩, ⟨("_law_p_times", none), "_law_p_times", "_law_p_times", defArgs (top 51), defBody (top 51), defScope (top 51), [], []⟩, ⟨("_law_p_at", none), "_law_p_at", "_law_p_at", defArgs (top 52), defBody (top 52), defScope (top 52), [], []⟩, ⟨("_law_p_slope", none), "_law_p_slope", "_law_p_slope", defArgs (top 53), defBody (top 53), defScope (top 53), [], []⟩, ⟨("_law_p_moved", none), "_law_p_moved", "_law_p_moved", defArgs (top 54), defBody (top 54), defScope (top 54), [], []⟩]
def hFn2 : List DefD := [⟨("_law_p_divided", none), "_law_p_divided", "_law_p_divided", defArgs (top 55), defBody (top 55), defScope (top 55), [], []⟩, ⟨("_law_p_plain", none), "_law_p_plain", "_law_p_plain", defArgs (top 56), defBody (top 56), defScope (top 56), [], []⟩, ⟨("_law_p_short", none), "_law_p_short", "_law_p_short", defArgs (top 57), defBody (top 57), defScope (top 57), [], []⟩, ⟨("_law_p_common", none), "_law_p_common", "_law_p_common", defArgs (top 58), defBody (top 58), defScope (top 58), [], []⟩, ⟨("_law_draw", none), "_law_draw", "_law_draw", defArgs (top 35), defBody (top 35), defScope (top 35), [], []⟩, ⟨("_law_pick", none), "_law_pick", "_law_pick", defArgs (top 36), defBody (top 36), defScope (top 36), [], []⟩, ⟨("_law_passed", none), "_law_passed", "_law_passed", defArgs (top 45), defBody (top 45), defScope (top 45), [], []⟩, ⟨("_law_ratio", none), "_law_ratio", "_law_ratio", defArgs (top 46), defBody (top 46), defScope (top 46), [], []⟩, ⟨("_law_made_poly", none), "_law_made_poly", "_law_made_poly", defArgs (top 59), defBody (top 59), defScope (top 59), [], []⟩, ⟨("_law_drawn", none), "_law_drawn", "_law_drawn", defArgs (top 60), defBody (top 60), defScope (top 60), [], []⟩, ⟨("_law_any", none), "_law_any", "_law_any", defArgs (top 63), defBody (top 63), defScope (top 63), [], []⟩, ⟨("_law_far", none), "_law_far", "_law_far", defArgs (top 64), defBody (top 64), defScope (top 64), [], []⟩, ⟨("_law_some_ratio", none), "_law_some_ratio", "_law_some_ratio", defArgs (top 65), defBody (top 65), defScope (top 65), [], []⟩, ⟨("_law_pen", none), "_law_pen", "_law_pen", defArgs (top 34), defBody (top 34), defScope (top 34), [], []⟩, ⟨("_law_why", none), "_law_why", "_law_why", defArgs (top 61), defBody (top 61), defScope (top 61), [], []⟩, ⟨("_law_ratios_right", none), "_law_ratios_right", "_law_ratios_right", defArgs (top 66), defBody (top 66), defScope (top 66), [], []⟩, ⟨("_law_made_right", none), "_law_made_right", "_law_made_right", defArgs (top 67), defBody (top 67), defScope (top 67), [], []⟩, ⟨("_law_divided_right", none), "_law_divided_right", "_law_divided_right", defArgs (top 68), defBody (top 68), defScope (top 68), [], []⟩, ⟨("law", none), "law", "law", defArgs (top 69), defBody (top 69), defScope (top 69), [], []⟩, ⟨("Poly", some "__init__"), "__init__", "Poly.__init__", defArgs (pol 0), defBody (pol 0), defScope (pol 0), [], []⟩]
def hFn3 : List DefD := [⟨("Poly", some "degree"), "degree", "Poly.degree", defArgs (pol 9), defBody (pol 9), defScope (pol 9), [], []⟩, ⟨("Poly", some "__eq__"), "__eq__", "Poly.__eq__", defArgs (pol 1), defBody (pol 1), defScope (pol 1), [], []⟩, ⟨("Poly", some "__add__"), "__add__", "Poly.__add__", defArgs (pol 2), defBody (pol 2), defScope (pol 2), [], []⟩, ⟨("Poly", some "__radd__"), "__radd__", "Poly.__radd__", defArgs (pol 3), defBody (pol 3), defScope (pol 3), [], []⟩, ⟨("Poly", some "__sub__"), "__sub__", "Poly.__sub__", defArgs (pol 4), defBody (pol 4), defScope (pol 4), [], []⟩, ⟨("Poly", some "__rsub__"), "__rsub__", "Poly.__rsub__", defArgs (pol 5), defBody (pol 5), defScope (pol 5), [], []⟩, ⟨("Poly", some "__mul__"), "__mul__", "Poly.__mul__", defArgs (pol 6), defBody (pol 6), defScope (pol 6), [], []⟩, ⟨("Poly", some "__rmul__"), "__rmul__", "Poly.__rmul__", defArgs (pol 7), defBody (pol 7), defScope (pol 7), [], []⟩, ⟨("Poly", some "__neg__"), "__neg__", "Poly.__neg__", defArgs (pol 8), defBody (pol 8), defScope (pol 8), [], []⟩, ⟨("Poly", some "slope"), "slope", "Poly.slope", defArgs (pol 11), defBody (pol 11), defScope (pol 11), [], []⟩, ⟨("Poly", some "area"), "area", "Poly.area", defArgs (pol 12), defBody (pol 12), defScope (pol 12), [], []⟩, ⟨("Poly", some "at"), "at", "Poly.at", defArgs (pol 10), defBody (pol 10), defScope (pol 10), [], []⟩, ⟨("Poly", some "moved"), "moved", "Poly.moved", defArgs (pol 13), defBody (pol 13), defScope (pol 13), [], []⟩, ⟨("BadNumber", some "__init__"), "__init__", "BadNumber.__init__", defArgs bnI, defBody bnI, defScope bnI, [], []⟩, ⟨("BadRow", some "__init__"), "__init__", "BadRow.__init__", defArgs brI, defBody brI, defScope brI, [], []⟩]
def hFn : List DefD := hFn0 ++ hFn1 ++ hFn2 ++ hFn3
def hLoose0 : List Str := ["gcd", "MeanError", "BadNumber", "BadRow", "BadInterval", "Unlike", "Poly", "is_whole", "is_ratio", "divisor", "lowest", "parts", "told", "plus", "minus", "times", "share", "lower", "floor_of", "bottom_of", "ratio_text", "without_zeros", "poly_told", "added_up", "summed", "power_number", "multiplied", "plain", "divided", "common"]
def hLoose1 : List Str := ["_law_gcd", "_law_q", "_law_plus", "_law_minus", "_law_times", "_law_share", "_law_less", "_law_is_whole", "_law_is", "_law_poly", "_law_p_plus", "_law_p_scaled", "_law_p_minus", "_law_p_times", "_law_p_at", "_law_p_slope", "_law_p_moved", "_law_p_divided", "_law_p_plain", "_law_p_short", "_law_p_common", "_law_draw", "_law_pick", "_law_passed", "_law_ratio", "_law_made_poly", "_law_drawn", "_law_any", "_law_far", "_law_some_ratio"]
def hLoose2 : List Str := ["_law_pen", "_law_why", "_law_ratios_right", "_law_made_right", "_law_divided_right"]
def hLoose : List Str := hLoose0 ++ hLoose1 ++ hLoose2
/-! ### the Hook, the statics told too -/
def asM (g : Addr → Option Obj) (n : Nat) : List Addr := cStatics :: asD g n
def obsM (n : Nat) (g : Addr → Option Obj) : AlX := (obsT hFa hFn [] (frT g (asM g n)), exB (frT g (asM g n)) && tabsB g hTf (frT g (asM g n)))
theorem saysM_of {n : Nat} {w : World} {h : Heap} (e : obsM n h.get? = valX hFn [] w) : SaysX hFa hFn [] hTf exB w h (frT h.get? (asM h.get? n)) := by
  have e1 : obsT hFa hFn [] (frT h.get? (asM h.get? n)) = valT hFn [] w := congrArg (fun z : AlX => z.1) e
  have e2 : (exB (frT h.get? (asM h.get? n)) && tabsB h.get? hTf (frT h.get? (asM h.get? n))) = true := congrArg (fun z : AlX => z.2) e
  generalize asM h.get? n = as at e1 e2
  obtain ⟨h1, h2⟩ := ba e2
  have each : ∀ p ∈ hTf, PySem.W.codeHdIn (frT h.get? as) (cT (frT h.get? as) p).1 (cT (frT h.get? as) p).2 = true ∧ ∃ o, h.get? (cT (frT h.get? as) p).2 = some o ∧ emptyTab o = true := fun p hp => by
    obtain ⟨h3, h4⟩ := ba (List.all_eq_true.mp h2 p hp)
    refine ⟨h3, ?_⟩
    split at h4
    · exact ⟨_, by assumption, h4⟩
    · cases h4
  exact ⟨e1, h1, fun p hp => (each p hp).1, fun p hp => (each p hp).2.elim fun o z => frT_none z.1 z.2, fun p hp => (each p hp).2.elim fun o z => by rw [z.1, emptyTab_eq z.2]⟩
def hookM (n : Nat) : PySem.W.Hook where
  α := AlX
  obs := fun s => obsM n s.heap.get?
  val := fun w => valX hFn [] w
  says := fun w h => ∃ K : PySem.W.Frag, K.In h ∧ SaysX hFa hFn [] hTf exB w h K
  of := fun _ _ e => ⟨_, frT_in, saysM_of e⟩
  keeps := fun _ _ _ ⟨K, hK, c⟩ k => ⟨K, PySem.W.Frag.In.keeps hK k, ⟨c.t, c.more, c.hd, c.out, fun p hp => k _ _ (c.empty p hp)⟩⟩
abbrev hRow : PySem.W.OpenRow := PySem.W.OpenLaw.row PySem.Challenge.rw_toldmeans_k01_whole_ratios_and_polynomia
abbrev hHk : PySem.W.Hook := hookM 4
def hOb (s : PySem.W.SharedT) : AlX := obsM 4 (HandSHeadRun.getT s)
theorem hOb_eq (s : PySem.W.SharedT) : hOb s = hHk.obs s.abs := by
  have e : HandSHeadRun.getT s = s.abs.heap.get? := funext (HandSHeadRun.getT_eq s)
  unfold hOb
  rw [e]
  rfl
end TM
/-! ## LwRun -/
set_option Elab.async false
set_option linter.all false
set_option maxRecDepth 100000
set_option maxHeartbeats 0
set_option exponentiation.threshold 100000
/-! LwRun: the run of the head, from the imports on (in two, for the memory). -/
namespace TM
open PySem PySem.W PySem.Calls PyProof.Rows
abbrev hView : Program := PySem.W.view hRow.prog [0, 69]
noncomputable abbrev hWhole (w : World) : Option (Shared × SharedT) := HandSHeadRun.wholeF (fun p => HandSHeadRun.stepQ (HandSHeadRun.denQ HandSHeadRun.tabQ) p w) HandSHeadRun.fenceQ 20000 hRow.prog
theorem hRun1 (w : World) : (hWhole w).map (fun x => (HandSHeadRun.looksF hRow.prog x.1.heap x.2.abs, HandSHeadRun.seenQ hView hLoose (importedModules hRow.prog.main.body) (fun s => xlAt hView [] s && recOk hRow.toRowW.records s) x.2.abs)) = some (true, openGood hView hLoose) := by kernel_rfl
theorem hRun2 (w : World) : (hWhole w).map (fun x => hOb x.2) = some (hHk.val w) := by kernel_rfl
theorem map_two {A B C D : Type} {o : Option A} {f : A → B} {k : A → C} {g : A → D} {b : B} {c : C} {d : D} (h1 : o.map (fun x => (f x, k x)) = some (b, c)) (h2 : o.map g = some d) : o.map (fun x => (f x, k x, g x)) = some (b, c, d) := by
  cases o with
  | none => cases h1
  | some x =>
    have e1 : (f x, k x) = (b, c) := Option.some.inj h1
    have e2 : g x = d := Option.some.inj h2
    obtain ⟨e3, e4⟩ := Prod.mk.inj e1
    show some (f x, k x, g x) = some (b, c, d)
    rw [e3, e4, e2]
theorem hRun (w : World) : HandSHeadRun.RunEqI hRow hView hHk hOb 20000 hLoose w := by
  delta HandSHeadRun.RunEqI
  exact map_two (hRun1 w) (hRun2 w)
/-- the row, but for the call -/
theorem hGo (call : PySem.W.WalkO hView hLoose (PySem.W.XL hView []) hHk.says hRow.toRowW (HandSHeadRun.topDef hRow.prog 69) [] fun f vs => PySem.call f vs) : hRow.Holds := by
  refine HandSHeadRun.head_imp (r := hRow) (q := hView) (H := hHk) (ob := hOb) (M := 20000) (loose := hLoose) (d := HandSHeadRun.topDef hRow.prog 69) (kwd := []) hOb_eq hRun
    (by kernel_rfl) (by kernel_rfl) (by kernel_rfl) (by rfl) (by first | assumption | decide +kernel) (by decide +kernel) ⟨rfl, rfl, rfl, rfl, rfl, by decide +kernel⟩ ?hw call
  case hw => w_witness2
end TM
/-! ## TmBase -/
set_option Elab.async false
set_option linter.all false
set_option maxRecDepth 100000
set_option maxHeartbeats 4000000
/-! TmBase: data (D) told apart from addresses; what a value means in a heap (Dn); owned addresses; triples for expressions, tests, arguments, statements (Ev .., GE, GT, GA, GS). -/
namespace TM
open PySem L2

/-! ### data -/
inductive D where
  | non | bl (b : Bool) | int (i : Int) | str (x : Str) | lst (xs : List D) | tup (xs : List D) | dic | poly (ns : List Rat) | val (v : V)
def pair (q : Rat) : D := .tup [.int q.num, .int (q.den : Int)]
def prs (ns : List Rat) : List D := ns.map pair
/-- the dict {"a": 1} -/
def dicO : HO := .dK [(.inr ("a" : Str), .int 1)]
/-- at b the pair of q stands -/
def PrAt (O : Addr → Prop) (H : Hp) (x : V) (q : Rat) : Prop := ∃ b, x = .ref b ∧ ¬ O b ∧ H b = some (.tup [.int q.num, .int (q.den : Int)])
abbrev numF : Str := "numbers"

mutual
/-- v means d, by objects that are not owned -/
inductive Dn (C : Addr) (O : Addr → Prop) (H : Hp) : V → D → Prop
  | non : Dn C O H .non .non
  | bl (b : Bool) : Dn C O H (.bl b) (.bl b)
  | int (i : Int) : Dn C O H (.int i) (.int i)
  | str (x : Str) : Dn C O H (.str x) (.str x)
  | lst {a : Addr} {xs : List V} {ds : List D} : ¬ O a → H a = some (.lst xs) → DnAll C O H xs ds → Dn C O H (.ref a) (.lst ds)
  | tup {a : Addr} {xs : List V} {ds : List D} : ¬ O a → H a = some (.tup xs) → DnAll C O H xs ds → Dn C O H (.ref a) (.tup ds)
  | dic {a : Addr} : ¬ O a → H a = some dicO → Dn C O H (.ref a) .dic
  | poly {a dx t : Addr} {xs : List V} {ns : List Rat} : ¬ O a → H a = some (.ins C dx [(numF, .ref t)]) → ¬ O t → H t = some (.tup xs) → Paired (PrAt O H) xs ns → Dn C O H (.ref a) (.poly ns)
  | val (v : V) : Dn C O H v (.val v)
inductive DnAll (C : Addr) (O : Addr → Prop) (H : Hp) : List V → List D → Prop
  | nil : DnAll C O H [] []
  | cons {v : V} {vs : List V} {d : D} {ds : List D} : Dn C O H v d → DnAll C O H vs ds → DnAll C O H (v :: vs) (d :: ds)
end

/-- all that is not owned is as it was -/
def Ext (O : Addr → Prop) (H H' : Hp) : Prop := ∀ b o, ¬ O b → H b = some o → H' b = some o
theorem Ext.refl {O : Addr → Prop} {H : Hp} : Ext O H H := fun _ _ _ h => h
theorem Ext.trans {O : Addr → Prop} {H H1 H2 : Hp} (a : Ext O H H1) (b : Ext O H1 H2) : Ext O H H2 := fun c o n h => b c o n (a c o n h)
theorem Ext.of {O : Addr → Prop} {H H' : Hp} (e : Same H H') : Ext O H H' := fun b o _ h => e b o h
theorem same_new {H : Hp} {p : Addr} {o : HO} (h : H p = none) : Same H (upd H p o) := fun b u e => by
  rw [upd_ne (ne_of_none e h)]
  exact e
theorem some_ne {H : Hp} {a : Addr} {u : HO} (h : H a = some u) : H a ≠ none := by
  rw [h]
  exact fun z => nomatch z
theorem paired_imp {α β : Type} {F G : α → β → Prop} (f : ∀ a b, F a b → G a b) : ∀ {xs : List α} {ys : List β}, Paired F xs ys → Paired G xs ys
  | _, _, .nil => .nil
  | _, _, .cons h t => .cons (f _ _ h) (paired_imp f t)
mutual
/-- from one heap, one set of owned addresses, to another -/
theorem Dn.go {C : Addr} {O O' : Addr → Prop} {H H' : Hp} (e : Ext O H H') (hn : ∀ a, ¬ O a → H a ≠ none → ¬ O' a) {v : V} {d : D} : Dn C O H v d → Dn C O' H' v d
  | .non => .non
  | .bl b => .bl b
  | .int i => .int i
  | .str x => .str x
  | .lst n r h => .lst (hn _ n (some_ne r)) (e _ _ n r) (DnAll.go e hn h)
  | .tup n r h => .tup (hn _ n (some_ne r)) (e _ _ n r) (DnAll.go e hn h)
  | .dic n h => .dic (hn _ n (some_ne h)) (e _ _ n h)
  | .poly n h nt r p => .poly (hn _ n (some_ne h)) (e _ _ n h) (hn _ nt (some_ne r)) (e _ _ nt r) (paired_imp (fun _ _ ⟨b, e1, n1, r1⟩ => ⟨b, e1, hn _ n1 (some_ne r1), e _ _ n1 r1⟩) p)
  | .val v => .val v
theorem DnAll.go {C : Addr} {O O' : Addr → Prop} {H H' : Hp} (e : Ext O H H') (hn : ∀ a, ¬ O a → H a ≠ none → ¬ O' a) {vs : List V} {ds : List D} : DnAll C O H vs ds → DnAll C O' H' vs ds
  | .nil => .nil
  | .cons h t => .cons (Dn.go e hn h) (DnAll.go e hn t)
end
section
variable {C : Addr} {O O' : Addr → Prop} {H H' : Hp} {v : V} {d : D} {vs : List V} {ds : List D}
theorem Dn.ext (h : Dn C O H v d) (e : Ext O H H') : Dn C O H' v d := h.go e fun _ n _ => n
theorem DnAll.ext (h : DnAll C O H vs ds) (e : Ext O H H') : DnAll C O H' vs ds := h.go e fun _ n _ => n
/-- a new address is owned besides -/
theorem Dn.own (h : Dn C O H v d) (hn : ∀ a, O' a → O a ∨ H a = none) : Dn C O' H v d := h.go Ext.refl fun a n s z => (hn a z).elim n s
theorem DnAll.own (h : DnAll C O H vs ds) (hn : ∀ a, O' a → O a ∨ H a = none) : DnAll C O' H vs ds := h.go Ext.refl fun a n s z => (hn a z).elim n s
theorem Dn.less (h : Dn C O H v d) (hn : ∀ a, O' a → O a) : Dn C O' H v d := h.go Ext.refl fun a n _ z => n (hn a z)
theorem DnAll.less (h : DnAll C O H vs ds) (hn : ∀ a, O' a → O a) : DnAll C O' H vs ds := h.go Ext.refl fun a n _ z => n (hn a z)
theorem DnAll.length : ∀ {vs : List V} {ds : List D}, DnAll C O H vs ds → vs.length = ds.length
  | _, _, .nil => rfl
  | _, _, .cons _ t => congrArg Nat.succ (DnAll.length t)
theorem DnAll.get : ∀ {vs : List V} {ds : List D} {i : Nat} {d : D}, DnAll C O H vs ds → ds[i]? = some d → ∃ v, vs[i]? = some v ∧ Dn C O H v d
  | _, _, _, _, .nil, e => by simp at e
  | _, _, 0, _, .cons h _, e => by simp at e; subst e; exact ⟨_, rfl, h⟩
  | _, _, i + 1, d, .cons _ t, e => by
    obtain ⟨v, h1, h2⟩ := DnAll.get (i := i) (d := d) t (by simpa using e)
    exact ⟨v, by simpa using h1, h2⟩
theorem DnAll.get' : ∀ {vs : List V} {ds : List D} {i : Nat} {v : V}, DnAll C O H vs ds → vs[i]? = some v → ∃ d, ds[i]? = some d ∧ Dn C O H v d
  | _, _, _, _, .nil, e => by simp at e
  | _, _, 0, _, .cons h _, e => by simp at e; subst e; exact ⟨_, rfl, h⟩
  | _, _, i + 1, v, .cons _ t, e => by
    obtain ⟨d, h1, h2⟩ := DnAll.get' (i := i) (v := v) t (by simpa using e)
    exact ⟨d, by simpa using h1, h2⟩
theorem DnAll.append : ∀ {vs ws : List V} {ds es : List D}, DnAll C O H vs ds → DnAll C O H ws es → DnAll C O H (vs ++ ws) (ds ++ es)
  | _, _, _, _, .nil, s => s
  | _, _, _, _, .cons h t, s => .cons h (DnAll.append t s)
theorem DnAll.take : ∀ {vs : List V} {ds : List D} (n : Nat), DnAll C O H vs ds → DnAll C O H (vs.take n) (ds.take n)
  | _, _, 0, _ => .nil
  | _, _, _ + 1, .nil => .nil
  | _, _, n + 1, .cons h t => .cons h (DnAll.take n t)
theorem DnAll.drop : ∀ {vs : List V} {ds : List D} (n : Nat), DnAll C O H vs ds → DnAll C O H (vs.drop n) (ds.drop n)
  | _, _, 0, h => h
  | _, _, _ + 1, .nil => .nil
  | _, _, n + 1, .cons _ t => DnAll.drop n t
theorem DnAll.set {x : V} {d : D} (hx : Dn C O H x d) : ∀ {vs : List V} {ds : List D} (i : Nat), DnAll C O H vs ds → DnAll C O H (vs.set i x) (ds.set i d)
  | _, _, _, .nil => .nil
  | _, _, 0, .cons _ t => .cons hx t
  | _, _, i + 1, .cons h t => .cons h (DnAll.set hx i t)
theorem DnAll.reverse : ∀ {vs : List V} {ds : List D}, DnAll C O H vs ds → DnAll C O H vs.reverse ds.reverse
  | _, _, .nil => .nil
  | _, _, .cons h t => by
    rw [List.reverse_cons, List.reverse_cons]
    exact DnAll.append (DnAll.reverse t) (.cons h .nil)
theorem DnAll.dropLast : ∀ {vs : List V} {ds : List D}, DnAll C O H vs ds → DnAll C O H vs.dropLast ds.dropLast
  | _, _, .nil => .nil
  | _, _, .cons _ .nil => .nil
  | _, _, .cons h (.cons h2 t) => by
    show DnAll C O H (_ :: List.dropLast (_ :: _)) (_ :: List.dropLast (_ :: _))
    exact .cons h (DnAll.dropLast (.cons h2 t))
theorem DnAll.replicate (h : DnAll C O H vs ds) : ∀ n : Nat, DnAll C O H (List.replicate n vs).flatten (List.replicate n ds).flatten
  | 0 => .nil
  | n + 1 => by
    rw [List.replicate_succ, List.replicate_succ, List.flatten_cons, List.flatten_cons]
    exact h.append (DnAll.replicate h n)
theorem Dn.pr {q : Rat} {x : V} (h : PrAt O H x q) : Dn C O H x (pair q) := by
  obtain ⟨b, rfl, n, r⟩ := h
  exact .tup n r (.cons (.int _) (.cons (.int _) .nil))
theorem Dn.pr_of {q : Rat} {x : V} (h : Dn C O H x (pair q)) : PrAt O H x q := by
  unfold pair at h
  cases h with
  | tup n r t =>
    cases t with
    | cons h1 t =>
      cases t with
      | cons h2 t =>
        cases t
        cases h1
        cases h2
        exact ⟨_, rfl, n, r⟩
theorem DnAll.prs : ∀ {xs : List V} {ns : List Rat}, Paired (PrAt O H) xs ns → DnAll C O H xs (TM.prs ns)
  | _, _, .nil => .nil
  | _, _, .cons h t => .cons (Dn.pr h) (DnAll.prs t)
theorem DnAll.prs_of : ∀ {xs : List V} {ns : List Rat}, DnAll C O H xs (TM.prs ns) → Paired (PrAt O H) xs ns
  | _, [], .nil => .nil
  | _, _ :: _, .cons h t => .cons (Dn.pr_of h) (DnAll.prs_of t)
end

/-! ### a state -/
abbrev Env := List (Option D)
def Wf (O : Addr → Prop) (H : Hp) : Prop := ∀ a, O a → H a ≠ none
structure Den (C : Addr) (O : Addr → Prop) (H : Hp) (σ : L2.St) (ρ : Env) : Prop where
  len : σ.length = ρ.length
  at_ : ∀ (i : Nat) (d : D), ρ[i]? = some (some d) → ∃ v, σ[i]? = some (some v) ∧ Dn C O H v d
/-- an assertion about the heap that more objects leave true -/
structure Asr where
  P : Hp → Prop
  st : ∀ {H H' : Hp}, Same H H' → P H → P H'
def Asr.tt : Asr := ⟨fun _ => True, fun _ h => h⟩
def Asr.and (I J : Asr) : Asr := ⟨fun H => I.P H ∧ J.P H, fun e h => ⟨I.st e h.1, J.st e h.2⟩⟩
theorem Den.ext {C : Addr} {O : Addr → Prop} {H H' : Hp} {σ : L2.St} {ρ : Env} (h : Den C O H σ ρ) (e : Ext O H H') : Den C O H' σ ρ :=
  ⟨h.len, fun i d hi => let ⟨v, a, b⟩ := h.at_ i d hi; ⟨v, a, b.ext e⟩⟩
theorem Den.go {C : Addr} {O O' : Addr → Prop} {H H' : Hp} {σ : L2.St} {ρ : Env} (h : Den C O H σ ρ) (e : Ext O H H') (hn : ∀ a, ¬ O a → H a ≠ none → ¬ O' a) : Den C O' H' σ ρ :=
  ⟨h.len, fun i d hi => let ⟨v, a, b⟩ := h.at_ i d hi; ⟨v, a, b.go e hn⟩⟩
theorem Den.set {C : Addr} {O : Addr → Prop} {H : Hp} {σ : L2.St} {ρ : Env} (h : Den C O H σ ρ) {v : V} {d : D} (i : Nat) (hv : Dn C O H v d) : Den C O H (σ.set i (some v)) (ρ.set i (some d)) := by
  refine ⟨by rw [List.length_set, List.length_set]; exact h.len, fun j e hj => ?_⟩
  by_cases hij : i = j
  · subst hij
    have hl : i < ρ.length := by
      have := (List.getElem?_eq_some_iff.mp hj).1
      rwa [List.length_set] at this
    rw [List.getElem?_set_self hl] at hj
    cases hj
    exact ⟨v, List.getElem?_set_self (by rw [h.len]; exact hl), hv⟩
  · rw [List.getElem?_set_ne hij] at hj
    rw [List.getElem?_set_ne hij]
    exact h.at_ j e hj
/-- a slot's meaning is forgotten -/
theorem Den.drop {C : Addr} {O : Addr → Prop} {H : Hp} {σ : L2.St} {ρ ρ' : Env} (h : Den C O H σ ρ) (hl : ρ'.length = ρ.length) (hs : ∀ (i : Nat) (d : D), ρ'[i]? = some (some d) → ρ[i]? = some (some d)) : Den C O H σ ρ' :=
  ⟨by rw [h.len, hl], fun i d hi => h.at_ i d (hs i d hi)⟩
theorem Wf.same {O : Addr → Prop} {H H' : Hp} (w : Wf O H) (e : Same H H') : Wf O H' := fun a ha z => by
  cases q : H a with
  | none => exact w a ha q
  | some o =>
    rw [e a o q] at z
    cases z

/-! ### triples over readings -/
def Is (d : D) : D → Prop := fun z => z = d
section
variable (C : Addr) (O : Addr → Prop) (ρ : Env)
def Ev (I : Asr) (te : TE) (J : Asr) (Φ : D → Prop) : Prop := ∀ (σ : L2.St) (H : Hp) (Q : VK), Wf O H → Den C O H σ ρ → I.P H →
  (∀ v H' d, Ext O H H' → Wf O H' → J.P H' → Φ d → Dn C O H' v d → Q v H') → te σ H Q
def EvT (I : Asr) (t : TT) (J : Asr) (Φ : Bool → Prop) : Prop := ∀ (σ : L2.St) (H : Hp) (Q : Bool → Hp → Prop), Wf O H → Den C O H σ ρ → I.P H →
  (∀ b H', Ext O H H' → Wf O H' → J.P H' → Φ b → Q b H') → t σ H Q
def EvA (I : Asr) (ta : TA) (J : Asr) (Φ : List D → Prop) : Prop := ∀ (σ : L2.St) (H : Hp) (Q : List V → Hp → Prop), Wf O H → Den C O H σ ρ → I.P H →
  (∀ vs H' ds, Ext O H H' → Wf O H' → J.P H' → Φ ds → DnAll C O H' vs ds → Q vs H') → ta σ H Q
end

/-! ### canonical readings -/
section
variable (X : Cx)
def tw (e : Expr) : TE := fun σ H Q => ∀ (pins : List (Addr × Obj)) (s : Shared), Inv X pins σ H s → wpAny (model X.prog X.w) X.A (eval e X.env) (EP X pins σ Q) X.xe s
def ptw (e : Expr) : TT := fun σ H Q => ∀ (pins : List (Addr × Obj)) (s : Shared), Inv X pins σ H s → wpAny (model X.prog X.w) X.A (isTrue e X.env (eval e X.env)) (TP X pins σ Q) X.xe s
def paw (es : List Expr) : TA := fun σ H Q => ∀ (pos : Pos) (pins : List (Addr × Obj)) (s : Shared), Inv X pins σ H s → wpAny (model X.prog X.w) X.A (spliced (backTo pos (starEach es X.env))) (AP X pins σ Q) X.xe s
def sw (st : Stmt) : TS := fun D σ H => ∀ (pins : List (Addr × Obj)) (s : Shared), Inv X pins σ H s → wpAny (model X.prog X.w) X.A (exec st X.env) (SP X pins D) X.xe s
def ssw (sts : List Stmt) : TS := fun D σ H => ∀ (pins : List (Addr × Obj)) (s : Shared), Inv X pins σ H s → wpAny (model X.prog X.w) X.A (execs sts X.env) (SP X pins D) X.xe s
end
section
variable {X : Cx}
theorem pe_tw {e : Expr} : PE X e (tw X e) := ⟨fun pins s _ _ _ I h => h pins s I⟩
theorem pt_tw {e : Expr} : PT X e (ptw X e) := ⟨fun pins s _ _ _ I h => h pins s I⟩
theorem pa_tw {es : List Expr} : PA X es (paw X es) := ⟨fun pos pins s _ _ _ I h => h pos pins s I⟩
theorem ps_tw {st : Stmt} : PS X st (sw X st) := ⟨fun pins s _ _ _ I h => h pins s I⟩
theorem pss_tw {sts : List Stmt} : PSs X sts (ssw X sts) := ⟨fun pins s _ _ _ I h => h pins s I⟩
theorem tw_of {e : Expr} {t : TE} (h : PE X e t) {σ : L2.St} {H : Hp} {Q : VK} (q : t σ H Q) : tw X e σ H Q := fun pins s I => h.run pins s σ H Q I q
theorem ptw_of {e : Expr} {t : TT} (h : PT X e t) {σ : L2.St} {H : Hp} {Q : Bool → Hp → Prop} (q : t σ H Q) : ptw X e σ H Q := fun pins s I => h.run pins s σ H Q I q
theorem paw_of {es : List Expr} {t : TA} (h : PA X es t) {σ : L2.St} {H : Hp} {Q : List V → Hp → Prop} (q : t σ H Q) : paw X es σ H Q := fun pos pins s I => h.run pos pins s σ H Q I q
theorem sw_of {st : Stmt} {t : TS} (h : PS X st t) {σ : L2.St} {H : Hp} {D : Ends} (q : t D σ H) : sw X st D σ H := fun pins s I => h.run pins s σ H D I q
theorem ssw_of {sts : List Stmt} {t : TS} (h : PSs X sts t) {σ : L2.St} {H : Hp} {D : Ends} (q : t D σ H) : ssw X sts D σ H := fun pins s I => h.run pins s σ H D I q
end
abbrev GE (C : Addr) (X : Cx) (O : Addr → Prop) (ρ : Env) (I : Asr) (e : Expr) (J : Asr) (Φ : D → Prop) : Prop := Ev C O ρ I (tw X e) J Φ
abbrev GT (C : Addr) (X : Cx) (O : Addr → Prop) (ρ : Env) (I : Asr) (e : Expr) (J : Asr) (Φ : Bool → Prop) : Prop := EvT C O ρ I (ptw X e) J Φ
abbrev GA (C : Addr) (X : Cx) (O : Addr → Prop) (ρ : Env) (I : Asr) (es : List Expr) (J : Asr) (Φ : List D → Prop) : Prop := EvA C O ρ I (paw X es) J Φ
section
variable {C : Addr} {X : Cx} {O : Addr → Prop} {ρ : Env} {I J K : Asr} {Φ Ψ : D → Prop}
theorem ge_of {e : Expr} {t : TE} (h : PE X e t) (v : Ev C O ρ I t J Φ) : GE C X O ρ I e J Φ := fun σ H Q w d i k => tw_of h (v σ H Q w d i k)
theorem gt_of {e : Expr} {t : TT} {Φ : Bool → Prop} (h : PT X e t) (v : EvT C O ρ I t J Φ) : GT C X O ρ I e J Φ := fun σ H Q w d i k => ptw_of h (v σ H Q w d i k)
theorem ga_of {es : List Expr} {t : TA} {Φ : List D → Prop} (h : PA X es t) (v : EvA C O ρ I t J Φ) : GA C X O ρ I es J Φ := fun σ H Q w d i k => paw_of h (v σ H Q w d i k)
theorem Ev.imp {te : TE} (h : Ev C O ρ I te J Φ) (f : ∀ d, Φ d → Ψ d) : Ev C O ρ I te J Ψ := fun σ H Q w d i k => h σ H Q w d i fun v H' z e w' j p => k v H' z e w' j (f z p)
theorem Ev.imp' {te : TE} {J' I' : Asr} (h : Ev C O ρ I te J Φ) (f : ∀ d, Φ d → Ψ d) (a : ∀ H, I'.P H → I.P H) (b : ∀ H, J.P H → J'.P H) : Ev C O ρ I' te J' Ψ := fun σ H Q w d i k => h σ H Q w d (a H i) fun v H' z e w' j p => k v H' z e w' (b H' j) (f z p)
theorem EvT.imp {t : TT} {Φ Ψ : Bool → Prop} (h : EvT C O ρ I t J Φ) (f : ∀ d, Φ d → Ψ d) : EvT C O ρ I t J Ψ := fun σ H Q w d i k => h σ H Q w d i fun b H' e w' j p => k b H' e w' j (f b p)
theorem Ev.is {te : TE} {d d' : D} (h : Ev C O ρ I te J (Is d)) (e : d = d') : Ev C O ρ I te J (Is d') := e ▸ h
theorem EvT.is {t : TT} {b b' : Bool} (h : EvT C O ρ I t J (· = b)) (e : b = b') : EvT C O ρ I t J (· = b') := e ▸ h
end
end TM
/-! ## TmRules -/
set_option Elab.async false
set_option linter.all false
set_option maxRecDepth 100000
set_option maxHeartbeats 4000000
/-! TmRules: triples for the expressions of the program. -/
namespace TM
open PySem L2
section
variable {C : Addr} {X : Cx} {O : Addr → Prop} {ρ : Env} {I J K L : Asr} {Φ Φa Ψ : D → Prop} {e a b c : Expr} {es : List Expr} {pos p : Pos} {x : Str} {d d1 d2 d3 : D} {ds : List D} {te ta tb tc : TE} {tas : TA}

/-! ### operations by values -/
/-- r on values that mean d1, d2 gives one that means a d of Φ -/
def Op2 (C : Addr) (O : Addr → Prop) (r : R2) (d1 d2 : D) (Φ : D → Prop) : Prop := ∀ (H : Hp) (x y : V) (Q : VK), Wf O H → Dn C O H x d1 → Dn C O H y d2 →
  (∀ v H' d, Same H H' → Φ d → Dn C O H' v d → Q v H') → r x y H Q
def Op1 (C : Addr) (O : Addr → Prop) (r : V → Hp → VK → Prop) (d1 : D) (Φ : D → Prop) : Prop := ∀ (H : Hp) (x : V) (Q : VK), Wf O H → Dn C O H x d1 →
  (∀ v H' d, Same H H' → Φ d → Dn C O H' v d → Q v H') → r x H Q
def OpL (C : Addr) (O : Addr → Prop) (r : List V → Hp → VK → Prop) (ds : List D) (Φ : D → Prop) : Prop := ∀ (H : Hp) (vs : List V) (Q : VK), Wf O H → DnAll C O H vs ds →
  (∀ v H' d, Same H H' → Φ d → Dn C O H' v d → Q v H') → r vs H Q
theorem ev_opn {r : R2} {Φb : D → D → Prop} (ha : Ev C O ρ I ta J Φa) (hb : ∀ d, Φa d → Ev C O ρ J tb K (Φb d)) (hr : ∀ d1 d2, Φa d1 → Φb d1 d2 → Op2 C O r d1 d2 Φ) : Ev C O ρ I (tOp r ta tb) K Φ := by
  intro σ H Q w dn i k
  refine ha σ H _ w dn i fun v1 H1 z1 e1 w1 j1 p1 n1 => ?_
  refine hb z1 p1 σ H1 _ w1 (dn.ext e1) j1 fun v2 H2 z2 e2 w2 j2 p2 n2 => ?_
  refine hr z1 z2 p1 p2 H2 v1 v2 _ w2 (n1.ext e2) n2 fun v H' z e p n => ?_
  exact k v H' z ((e1.trans e2).trans (Ext.of e)) (w2.same e) (K.st e j2) p n
theorem ev_op {r : R2} (ha : Ev C O ρ I ta J (Is d1)) (hb : Ev C O ρ J tb K (Is d2)) (hr : Op2 C O r d1 d2 Φ) : Ev C O ρ I (tOp r ta tb) K Φ :=
  ev_opn (Φb := fun _ => Is d2) ha (fun _ _ => hb) fun a b ea eb => by
    cases ea
    cases eb
    exact hr
theorem ev_un {r : V → Hp → VK → Prop} (ha : Ev C O ρ I ta J (Is d1)) (hr : Op1 C O r d1 Φ) : Ev C O ρ I (tUn r ta) J Φ := by
  intro σ H Q w dn i k
  refine ha σ H _ w dn i fun v1 H1 z1 e1 w1 j1 p1 n1 => ?_
  cases p1
  exact hr H1 v1 _ w1 n1 fun v H' z e p n => k v H' z (e1.trans (Ext.of e)) (w1.same e) (J.st e j1) p n
theorem ev_cb {r : List V → Hp → VK → Prop} (ha : EvA C O ρ I tas J (· = ds)) (hr : OpL C O r ds Φ) : Ev C O ρ I (tCB r tas) J Φ := by
  intro σ H Q w dn i k
  refine ha σ H _ w dn i fun vs H1 zs e1 w1 j1 p1 n1 => ?_
  cases p1
  exact hr H1 vs _ w1 n1 fun v H' z e p n => k v H' z (e1.trans (Ext.of e)) (w1.same e) (J.st e j1) p n
theorem ev_cbn {r : List V → Hp → VK → Prop} {Ψ : List D → Prop} (ha : EvA C O ρ I tas J Ψ) (hr : ∀ ds, Ψ ds → OpL C O r ds Φ) : Ev C O ρ I (tCB r tas) J Φ := by
  intro σ H Q w dn i k
  refine ha σ H _ w dn i fun vs H1 zs e1 w1 j1 p1 n1 => ?_
  exact hr zs p1 H1 vs _ w1 n1 fun v H' z e p n => k v H' z (e1.trans (Ext.of e)) (w1.same e) (J.st e j1) p n

/-! ### leaves -/
theorem ev_var {i : Nat} (h : ρ[i]? = some (some d)) : Ev C O ρ I (tVar i) I (Is d) := fun σ H Q w dn j k => by
  obtain ⟨v, e, n⟩ := dn.at_ i d h
  exact ⟨v, e, k v H d Ext.refl w j rfl n⟩
theorem ev_c {v : V} (h : ∀ H, Dn C O H v d) : Ev C O ρ I (tC v) I (Is d) := fun σ H Q w dn j k => k v H d Ext.refl w j rfl (h H)
theorem ge_var (i : Nat) (hN : X.N[i]? = some x := by rfl) (h : ρ[i]? = some (some d) := by rfl) (hv : Vis X.env.scope x := by first | exact Or.inl rfl | exact Or.inr (Or.inl rfl) | exact Or.inr (Or.inr rfl))
    (hd : (x == ("__debug__" : Str)) = false := by decide) (hcd : (x == ("__classdict__" : Str)) = false := by decide) : GE C X O ρ I (.Name x pos) I (Is d) := ge_of (pe_var hN hv hd hcd) (ev_var h)
theorem ge_int {n : Int} {j : Nat} : GE C X O ρ I (.Constant (.int n) j pos) I (Is (.int n)) := ge_of pe_int (ev_c fun _ => .int _)
theorem ge_bl {n : Bool} {j : Nat} : GE C X O ρ I (.Constant (.bool n) j pos) I (Is (.bl n)) := ge_of pe_bl (ev_c fun _ => .bl _)
theorem ge_non {j : Nat} : GE C X O ρ I (.Constant .none j pos) I (Is .non) := ge_of pe_non (ev_c fun _ => .non)
theorem ge_str {n : Str} {j : Nat} : GE C X O ρ I (.Constant (.str n) j pos) I (Is (.str n)) := ge_of pe_str (ev_c fun _ => .str _)
theorem ge_glob {v : V} {u : Value} (hm : X.mg x = some u) (r : RelV v u) (hg : Gl X x := by rfl) (hd : (x == ("__debug__" : Str)) = false := by decide) : GE C X O ρ I (.Name x pos) I (Is (.val v)) := ge_of (pe_glob hg hm r hd) (ev_c fun _ => .val v)
theorem ge_blt {v : V} {u : Value} (hm : X.mg x = none) (hv : bootBuiltins x = some u) (r : RelV v u) (hg : Gl X x := by rfl) (hn : x ≠ "__name__" := by decide) (hd : (x == ("__debug__" : Str)) = false := by decide) : GE C X O ρ I (.Name x pos) I (Is (.val v)) :=
  ge_of (pe_bltn hg hm hv r hn hd) (ev_c fun _ => .val v)

/-! ### arguments -/
theorem eva_nil : EvA C O ρ I tNil I (· = []) := fun σ H Q w dn j k => k [] H [] Ext.refl w j rfl .nil
theorem eva_cons (ha : Ev C O ρ I ta J (Is d)) (hs : EvA C O ρ J tas K (· = ds)) : EvA C O ρ I (tCons ta tas) K (· = d :: ds) := by
  intro σ H Q w dn i k
  refine ha σ H _ w dn i fun v1 H1 z1 e1 w1 j1 p1 n1 => ?_
  cases p1
  refine hs σ H1 _ w1 (dn.ext e1) j1 fun vs H2 zs e2 w2 j2 p2 n2 => ?_
  cases p2
  exact k _ H2 _ (e1.trans e2) w2 j2 rfl (.cons (n1.ext e2) n2)
theorem eva_consn {Ψ : D → List D → Prop} (ha : Ev C O ρ I ta J Φ) (hs : ∀ d, Φ d → EvA C O ρ J tas K (Ψ d)) : EvA C O ρ I (tCons ta tas) K (fun zs => ∃ d ds, zs = d :: ds ∧ Φ d ∧ Ψ d ds) := by
  intro σ H Q w dn i k
  refine ha σ H _ w dn i fun v1 H1 z1 e1 w1 j1 p1 n1 => ?_
  refine hs z1 p1 σ H1 _ w1 (dn.ext e1) j1 fun vs H2 zs e2 w2 j2 p2 n2 => ?_
  exact k _ H2 _ (e1.trans e2) w2 j2 ⟨z1, zs, rfl, p1, p2⟩ (.cons (n1.ext e2) n2)
theorem ga_nil : GA C X O ρ I [] I (· = []) := ga_of pa_nil eva_nil
theorem ga_cons (ha : GE C X O ρ I a J (Is d)) (hs : GA C X O ρ J es K (· = ds)) (hst : starEach (a :: es) X.env = (false, eval a X.env) :: starEach es X.env := by rfl) : GA C X O ρ I (a :: es) K (· = d :: ds) := ga_of (pa_cons pe_tw pa_tw hst) (eva_cons ha hs)
theorem ga_one (ha : GE C X O ρ I a J (Is d)) (hst : starEach [a] X.env = (false, eval a X.env) :: starEach [] X.env := by rfl) : GA C X O ρ I [a] J (· = [d]) := ga_cons ha ga_nil hst
theorem ga_two (ha : GE C X O ρ I a J (Is d1)) (hb : GE C X O ρ J b K (Is d2)) (hst : starEach [a, b] X.env = (false, eval a X.env) :: starEach [b] X.env := by rfl) (hst2 : starEach [b] X.env = (false, eval b X.env) :: starEach [] X.env := by rfl) : GA C X O ρ I [a, b] K (· = [d1, d2]) := ga_cons ha (ga_one hb hst2) hst
theorem ga_consn {Ψ : D → List D → Prop} (ha : GE C X O ρ I a J Φ) (hs : ∀ d, Φ d → GA C X O ρ J es K (Ψ d)) (hst : starEach (a :: es) X.env = (false, eval a X.env) :: starEach es X.env := by rfl) : GA C X O ρ I (a :: es) K (fun zs => ∃ d ds, zs = d :: ds ∧ Φ d ∧ Ψ d ds) := ga_of (pa_cons pe_tw pa_tw hst) (eva_consn ha hs)

/-! ### arithmetic -/
theorem op2_I0 {g : Int → Int → V} {i j : Int} (h : ∀ H, Dn C O H (g i j) d) : Op2 C O (rI0 g) (.int i) (.int j) (Is d) := fun H x y Q w h1 h2 k => by
  cases h1
  cases h2
  exact ⟨i, j, rfl, rfl, k _ H d (Same.refl H) rfl (h H)⟩
theorem op2_I {cc : Int → Int → Prop} {g : Int → Int → V} {i j : Int} (hc : cc i j) (h : ∀ H, Dn C O H (g i j) d) : Op2 C O (rI cc g) (.int i) (.int j) (Is d) := fun H x y Q w h1 h2 k => by
  cases h1
  cases h2
  exact ⟨i, j, rfl, rfl, hc, k _ H d (Same.refl H) rfl (h H)⟩
theorem ge_bin {op : Operator} {r : R2} (ho : OpR X (binaryOp op) r) (ha : GE C X O ρ I a J (Is d1)) (hb : GE C X O ρ J b K (Is d2)) (hr : Op2 C O r d1 d2 Φ) : GE C X O ρ I (.BinOp a op b pos) K Φ := ge_of (pe_op ho pe_tw pe_tw) (ev_op ha hb hr)
theorem ge_binn {op : Operator} {r : R2} {Φb : D → D → Prop} (ho : OpR X (binaryOp op) r) (ha : GE C X O ρ I a J Φa) (hb : ∀ d, Φa d → GE C X O ρ J b K (Φb d)) (hr : ∀ d1 d2, Φa d1 → Φb d1 d2 → Op2 C O r d1 d2 Φ) : GE C X O ρ I (.BinOp a op b pos) K Φ :=
  ge_of (pe_op ho pe_tw pe_tw) (ev_opn ha hb hr)
section
variable {i j : Int}
theorem ge_add (ha : GE C X O ρ I a J (Is (.int i))) (hb : GE C X O ρ J b K (Is (.int j))) : GE C X O ρ I (.BinOp a .Add b pos) K (Is (.int (i + j))) := ge_bin op_add ha hb (op2_I0 fun _ => .int _)
theorem ge_sub (ha : GE C X O ρ I a J (Is (.int i))) (hb : GE C X O ρ J b K (Is (.int j))) : GE C X O ρ I (.BinOp a .Sub b pos) K (Is (.int (i - j))) := ge_bin op_sub ha hb (op2_I0 fun _ => .int _)
theorem ge_mul (ha : GE C X O ρ I a J (Is (.int i))) (hb : GE C X O ρ J b K (Is (.int j))) (hc : CMulW i j) : GE C X O ρ I (.BinOp a .Mult b pos) K (Is (.int (i * j))) := ge_bin op_mulW ha hb (op2_I hc fun _ => .int _)
theorem ge_mul' (ha : GE C X O ρ I a J (Is (.int i))) (hb : GE C X O ρ J b K (Is (.int j))) (hc : CMul i j) : GE C X O ρ I (.BinOp a .Mult b pos) K (Is (.int (i * j))) := ge_bin op_mul ha hb (op2_I hc fun _ => .int _)
theorem ge_fdiv (ha : GE C X O ρ I a J (Is (.int i))) (hb : GE C X O ρ J b K (Is (.int j))) (hc : CDivW i j) : GE C X O ρ I (.BinOp a .FloorDiv b pos) K (Is (.int (i / j))) := ge_bin op_fdivW ha hb (op2_I hc fun _ => .int _)
theorem ge_fdiv' (ha : GE C X O ρ I a J (Is (.int i))) (hb : GE C X O ρ J b K (Is (.int j))) (hc : CDiv i j) : GE C X O ρ I (.BinOp a .FloorDiv b pos) K (Is (.int (i / j))) := ge_bin op_fdiv ha hb (op2_I hc fun _ => .int _)
theorem ge_mod (ha : GE C X O ρ I a J (Is (.int i))) (hb : GE C X O ρ J b K (Is (.int j))) (hc : 0 < j) : GE C X O ρ I (.BinOp a .Mod b pos) K (Is (.int (i % j))) := ge_bin op_mod ha hb (op2_I hc fun _ => .int _)
theorem ge_pow (ha : GE C X O ρ I a J (Is (.int i))) (hb : GE C X O ρ J b K (Is (.int j))) (hc : CPow i j) : GE C X O ρ I (.BinOp a .Pow b pos) K (Is (.int (i ^ j.toNat))) := ge_bin op_pow ha hb (op2_I hc fun _ => .int _)
theorem ge_neg (ha : GE C X O ρ I a J (Is (.int i))) : GE C X O ρ I (.UnaryOp .USub a pos) J (Is (.int (-i))) := ge_of (pe_un un_neg pe_tw) (ev_un ha fun H x Q w h1 k => by
  cases h1
  exact ⟨i, rfl, k _ H _ (Same.refl H) rfl (.int _)⟩)

/-! ### comparisons -/
theorem ge_cmp {op : CmpOp} {r : R2} (ho : OpR X (compareOp op) r) (ha : GE C X O ρ I a J (Is d1)) (hb : GE C X O ρ J b K (Is d2)) (hr : Op2 C O r d1 d2 Φ) (hm : behindInMarks op b = false := by exact nomark _) : GE C X O ρ I (.Compare a [op] [b] pos) K Φ :=
  ge_of (pe_cmpR ho pe_tw pe_tw hm) (ev_op ha hb hr)
theorem ge_lt (ha : GE C X O ρ I a J (Is (.int i))) (hb : GE C X O ρ J b K (Is (.int j))) : GE C X O ρ I (.Compare a [.Lt] [b] pos) K (Is (.bl (decide (i < j)))) := ge_cmp op_lt ha hb (op2_I0 fun _ => .bl _)
theorem ge_gt (ha : GE C X O ρ I a J (Is (.int i))) (hb : GE C X O ρ J b K (Is (.int j))) : GE C X O ρ I (.Compare a [.Gt] [b] pos) K (Is (.bl (decide (j < i)))) := ge_cmp op_gt ha hb (op2_I0 fun _ => .bl _)
theorem ge_ge (ha : GE C X O ρ I a J (Is (.int i))) (hb : GE C X O ρ J b K (Is (.int j))) : GE C X O ρ I (.Compare a [.GtE] [b] pos) K (Is (.bl (decide (j ≤ i)))) := ge_cmp op_ge ha hb (op2_I0 fun _ => .bl _)
theorem ge_le (ha : GE C X O ρ I a J (Is (.int i))) (hb : GE C X O ρ J b K (Is (.int j))) : GE C X O ρ I (.Compare a [.LtE] [b] pos) K (Is (.bl (decide (i ≤ j)))) := ge_cmp op_le ha hb (op2_I0 fun _ => .bl _)
theorem dec_V {i j : Int} : decide (V.int i = V.int j) = decide (i = j) := by
  by_cases h : i = j
  · rw [h, decide_eq_true rfl, decide_eq_true rfl]
  · rw [decide_eq_false h, decide_eq_false fun z => h (V.int.inj z)]
theorem ge_eqI (ha : GE C X O ρ I a J (Is (.int i))) (hb : GE C X O ρ J b K (Is (.int j))) : GE C X O ρ I (.Compare a [.Eq] [b] pos) K (Is (.bl (decide (i = j)))) := ge_cmp op_eq ha hb fun H x y Q w h1 h2 k => by
  cases h1
  cases h2
  refine ⟨rfl, ?_⟩
  rw [dec_V]
  exact k _ H _ (Same.refl H) rfl (.bl _)
theorem ge_neI (ha : GE C X O ρ I a J (Is (.int i))) (hb : GE C X O ρ J b K (Is (.int j))) : GE C X O ρ I (.Compare a [.NotEq] [b] pos) K (Is (.bl (!decide (i = j)))) := ge_cmp op_ne ha hb fun H x y Q w h1 h2 k => by
  cases h1
  cases h2
  refine ⟨rfl, ?_⟩
  rw [dec_V]
  exact k _ H _ (Same.refl H) rfl (.bl _)
theorem ge_eqS {s t : Str} (ha : GE C X O ρ I a J (Is (.str s))) (hb : GE C X O ρ J b K (Is (.str t))) : GE C X O ρ I (.Compare a [.Eq] [b] pos) K (Is (.bl (decide (s = t)))) := ge_cmp op_eq ha hb fun H x y Q w h1 h2 k => by
  cases h1
  cases h2
  refine ⟨rfl, ?_⟩
  have e : decide (V.str s = V.str t) = decide (s = t) := by
    by_cases h : s = t
    · rw [h, decide_eq_true rfl, decide_eq_true rfl]
    · rw [decide_eq_false h, decide_eq_false fun z => h (V.str.inj z)]
  rw [e]
  exact k _ H _ (Same.refl H) rfl (.bl _)
theorem ge_neS {s t : Str} (ha : GE C X O ρ I a J (Is (.str s))) (hb : GE C X O ρ J b K (Is (.str t))) : GE C X O ρ I (.Compare a [.NotEq] [b] pos) K (Is (.bl (!decide (s = t)))) := ge_cmp op_ne ha hb fun H x y Q w h1 h2 k => by
  cases h1
  cases h2
  refine ⟨rfl, ?_⟩
  have e : decide (V.str s = V.str t) = decide (s = t) := by
    by_cases h : s = t
    · rw [h, decide_eq_true rfl, decide_eq_true rfl]
    · rw [decide_eq_false h, decide_eq_false fun z => h (V.str.inj z)]
  rw [e]
  exact k _ H _ (Same.refl H) rfl (.bl _)
theorem ge_isB {k k' : Bool} (ha : GE C X O ρ I a J (Is (.bl k))) (hb : GE C X O ρ J b K (Is (.bl k'))) : GE C X O ρ I (.Compare a [.Is] [b] pos) K (Is (.bl (decide (k = k')))) := ge_cmp op_isBl ha hb fun H x y Q w h1 h2 q => by
  cases h1
  cases h2
  exact ⟨k, k', rfl, rfl, q _ H _ (Same.refl H) rfl (.bl _)⟩
end

/-! ### tests -/
theorem evt_test {k : Bool} (h : Ev C O ρ I te J (Is (.bl k))) : EvT C O ρ I (tTest te) J (· = k) := fun σ H Q w dn i q => h σ H _ w dn i fun v H' z e w' j p n => by
  cases p
  cases n
  exact ⟨k, rfl, q k H' e w' j rfl⟩
theorem evt_b {k : Bool} (h : Ev C O ρ I te J (Is (.bl k))) : EvT C O ρ I (tB te) J (· = k) := fun σ H Q w dn i q => h σ H _ w dn i fun v H' z e w' j p n => by
  cases p
  cases n
  exact ⟨k, rfl, q k H' e w' j rfl⟩
theorem evt_bn {Φ : Bool → Prop} (h : Ev C O ρ I te J (fun z => ∃ k, z = .bl k ∧ Φ k)) : EvT C O ρ I (tB te) J Φ := fun σ H Q w dn i q => h σ H _ w dn i fun v H' z e w' j p n => by
  obtain ⟨k, rfl, pk⟩ := p
  cases n
  exact ⟨k, rfl, q k H' e w' j pk⟩
/-- a comparison as a test -/
theorem gt_cmp {op : CmpOp} {r : R2} {k : Bool} (ho : OpR X (compareOp op) r) (ha : GE C X O ρ I a J (Is d1)) (hb : GE C X O ρ J b K (Is d2)) (hr : Op2 C O r d1 d2 (Is (.bl k))) (hm : behindInMarks op b = false := by exact nomark _) :
    GT C X O ρ I (.Compare a [op] [b] pos) K (· = k) := gt_of (pt_cmpR ho pe_tw pe_tw hm) (evt_test (ev_op ha hb hr))
/-- any expression whose value is a bool -/
theorem gt_val {k : Bool} (h : GE C X O ρ I e J (Is (.bl k))) (he : ∀ whole, isTrue e X.env whole = (do let v ← whole; standAt e.pos; holding [v] (truthy v)) := by intro _; rfl) : GT C X O ρ I e J (· = k) := gt_of (pt_val pe_tw he) (evt_b h)
theorem gt_valn {Φ : Bool → Prop} (h : GE C X O ρ I e J (fun z => ∃ k, z = .bl k ∧ Φ k)) (he : ∀ whole, isTrue e X.env whole = (do let v ← whole; standAt e.pos; holding [v] (truthy v)) := by intro _; rfl) : GT C X O ρ I e J Φ := gt_of (pt_val pe_tw he) (evt_bn h)
theorem gt_not {k : Bool} (h : GT C X O ρ I a J (· = k)) : GT C X O ρ I (.UnaryOp .Not a pos) J (· = !k) := gt_of (pt_not pt_tw) fun σ H Q w dn i q => h σ H _ w dn i fun b H' e w' j p => by
  cases p
  exact q _ H' e w' j rfl
theorem gt_and {k1 k2 : Bool} (ha : GT C X O ρ I a I (· = k1)) (hb : k1 = true → GT C X O ρ I b I (· = k2)) : GT C X O ρ I (.BoolOp .And [a, b] pos) I (· = (k1 && k2)) := gt_of (PW.pt (pw_and pt_tw (pw_and1 pt_tw))) fun σ H Q w dn i q => by
  refine ha σ H _ w dn i fun b1 H1 e1 w1 j1 p1 => ?_
  cases p1
  cases k1 with
  | true =>
    show ptw X b σ H1 Q
    exact hb rfl σ H1 _ w1 (dn.ext e1) j1 fun b2 H2 e2 w2 j2 p2 => q b2 H2 (e1.trans e2) w2 j2 (by rw [p2]; rfl)
  | false => exact q false H1 e1 w1 j1 rfl
theorem gt_or {k1 k2 : Bool} (ha : GT C X O ρ I a I (· = k1)) (hb : k1 = false → GT C X O ρ I b I (· = k2)) : GT C X O ρ I (.BoolOp .Or [a, b] pos) I (· = (k1 || k2)) := gt_of (PW.pt (pw_or pt_tw (pw_or1 pt_tw))) fun σ H Q w dn i q => by
  refine ha σ H _ w dn i fun b1 H1 e1 w1 j1 p1 => ?_
  cases p1
  cases k1 with
  | true => exact q true H1 e1 w1 j1 rfl
  | false =>
    show ptw X b σ H1 Q
    exact hb rfl σ H1 _ w1 (dn.ext e1) j1 fun b2 H2 e2 w2 j2 p2 => q b2 H2 (e1.trans e2) w2 j2 (by rw [p2]; rfl)
theorem gt_or3 {k1 k2 k3 : Bool} (ha : GT C X O ρ I a I (· = k1)) (hb : k1 = false → GT C X O ρ I b I (· = k2)) (hc : k1 = false → k2 = false → GT C X O ρ I c I (· = k3)) : GT C X O ρ I (.BoolOp .Or [a, b, c] pos) I (· = (k1 || (k2 || k3))) :=
  gt_of (PW.pt (pw_or pt_tw (pw_or pt_tw (pw_or1 pt_tw)))) fun σ H Q w dn i q => by
  refine ha σ H _ w dn i fun b1 H1 e1 w1 j1 p1 => ?_
  cases p1
  cases k1 with
  | true => exact q true H1 e1 w1 j1 rfl
  | false =>
    refine hb rfl σ H1 _ w1 (dn.ext e1) j1 fun b2 H2 e2 w2 j2 p2 => ?_
    cases p2
    cases k2 with
    | true => exact q true H2 (e1.trans e2) w2 j2 rfl
    | false =>
      show ptw X c σ H2 Q
      exact hc rfl rfl σ H2 _ w2 (dn.ext (e1.trans e2)) j2 fun b3 H3 e3 w3 j3 p3 => q b3 H3 ((e1.trans e2).trans e3) w3 j3 (by rw [p3]; rfl)
/-- and, or as values of bools -/
theorem ge_and {k1 k2 : Bool} (ha : GE C X O ρ I a I (Is (.bl k1))) (hb : k1 = true → GE C X O ρ I b I (Is (.bl k2))) : GE C X O ρ I (.BoolOp .And [a, b] pos) I (Is (.bl (k1 && k2))) := ge_of (pe_and pe_tw (pe_one pe_tw)) fun σ H Q w dn i q => by
  refine ha σ H _ w dn i fun v1 H1 z1 e1 w1 j1 p1 n1 => ?_
  cases p1
  cases n1
  refine ⟨k1, rfl, ?_⟩
  cases k1 with
  | true =>
    show tw X b σ H1 Q
    exact hb rfl σ H1 _ w1 (dn.ext e1) j1 fun v2 H2 z2 e2 w2 j2 p2 n2 => q v2 H2 z2 (e1.trans e2) w2 j2 (by rw [p2]; rfl) n2
  | false => exact q _ H1 _ e1 w1 j1 rfl (.bl _)
theorem ge_and3 {k1 k2 k3 : Bool} (ha : GE C X O ρ I a I (Is (.bl k1))) (hb : k1 = true → GE C X O ρ I b I (Is (.bl k2))) (hc : k1 = true → k2 = true → GE C X O ρ I c I (Is (.bl k3))) :
    GE C X O ρ I (.BoolOp .And [a, b, c] pos) I (Is (.bl (k1 && (k2 && k3)))) := ge_of (pe_and pe_tw (pe_and pe_tw (pe_one pe_tw))) fun σ H Q w dn i q => by
  refine ha σ H _ w dn i fun v1 H1 z1 e1 w1 j1 p1 n1 => ?_
  cases p1
  cases n1
  refine ⟨k1, rfl, ?_⟩
  cases k1 with
  | true =>
    refine hb rfl σ H1 _ w1 (dn.ext e1) j1 fun v2 H2 z2 e2 w2 j2 p2 n2 => ?_
    cases p2
    cases n2
    refine ⟨k2, rfl, ?_⟩
    cases k2 with
    | true =>
      show tw X c σ H2 Q
      exact hc rfl rfl σ H2 _ w2 (dn.ext (e1.trans e2)) j2 fun v3 H3 z3 e3 w3 j3 p3 n3 => q v3 H3 z3 ((e1.trans e2).trans e3) w3 j3 (by rw [p3]; rfl) n3
    | false => exact q _ H2 _ (e1.trans e2) w2 j2 rfl (.bl _)
  | false => exact q _ H1 _ e1 w1 j1 rfl (.bl _)
theorem ge_not {k : Bool} (h : GE C X O ρ I a J (Is (.bl k))) : GE C X O ρ I (.UnaryOp .Not a pos) J (Is (.bl (!k))) := ge_of (pe_not pe_tw) fun σ H Q w dn i q => h σ H _ w dn i fun v H' z e w' j p n => by
  cases p
  cases n
  exact ⟨k, rfl, q _ H' _ e w' j rfl (.bl _)⟩
theorem ge_if {k : Bool} {c : Expr} (hc : GT C X O ρ I c J (· = k)) (ha : k = true → GE C X O ρ J a K Φ) (hb : k = false → GE C X O ρ J b K Φ) : GE C X O ρ I (.IfExp c a b pos) K Φ := ge_of (pe_ifExp pt_tw pe_tw pe_tw) fun σ H Q w dn i q => by
  refine hc σ H _ w dn i fun b1 H1 e1 w1 j1 p1 => ?_
  cases p1
  cases k with
  | true => exact ha rfl σ H1 _ w1 (dn.ext e1) j1 fun v H' z e w' j p n => q v H' z (e1.trans e) w' j p n
  | false => exact hb rfl σ H1 _ w1 (dn.ext e1) j1 fun v H' z e w' j p n => q v H' z (e1.trans e) w' j p n
theorem ge_ifn {Φc : Bool → Prop} {c : Expr} (hc : GT C X O ρ I c J Φc) (ha : Φc true → GE C X O ρ J a K Φ) (hb : Φc false → GE C X O ρ J b K Φ) : GE C X O ρ I (.IfExp c a b pos) K Φ := ge_of (pe_ifExp pt_tw pe_tw pe_tw) fun σ H Q w dn i q => by
  refine hc σ H _ w dn i fun b1 H1 e1 w1 j1 p1 => ?_
  cases b1 with
  | true => exact ha p1 σ H1 _ w1 (dn.ext e1) j1 fun v H' z e w' j p n => q v H' z (e1.trans e) w' j p n
  | false => exact hb p1 σ H1 _ w1 (dn.ext e1) j1 fun v H' z e w' j p n => q v H' z (e1.trans e) w' j p n
end
end TM
/-! ## TmSeq -/
set_option Elab.async false
set_option linter.all false
set_option maxRecDepth 100000
set_option maxHeartbeats 4000000
/-! TmSeq: tuples, lists, subscripts, slices, len, isinstance, built-ins, calls of own defs, statements. -/
namespace TM
open PySem L2
section
variable {C : Addr} {X : Cx} {O : Addr → Prop} {ρ : Env} {I J K L : Asr} {Φ Φa Ψ : D → Prop} {e a b c : Expr} {es : List Expr} {pos p : Pos} {x : Str} {d d1 d2 d3 : D} {ds : List D} {te ta tb tc : TE} {tas : TA}

/-! ### displays -/
theorem wf_new {H : Hp} {q : Addr} {o : HO} (w : Wf O H) (h : H q = none) : Wf O (upd H q o) := w.same (same_new h)
theorem own_not {H : Hp} {q : Addr} (w : Wf O H) (h : H q = none) : ¬ O q := fun z => w q z h
theorem ev_tup (ha : EvA C O ρ I tas J (· = ds)) (hl : ds.length ≤ 1000) : Ev C O ρ I (tTup tas) J (Is (.tup ds)) := fun σ H Q w dn i k => ha σ H _ w dn i fun vs H1 zs e1 w1 j1 p1 n1 => by
  cases p1
  refine ⟨by rw [n1.length]; exact Nat.le_trans hl (by decide), fun q hq => ?_⟩
  exact k _ _ _ (e1.trans (Ext.of (same_new hq))) (wf_new w1 hq) (J.st (same_new hq) j1) rfl (.tup (own_not w1 hq) upd_same (n1.ext (Ext.of (same_new hq))))
theorem ev_lst (ha : EvA C O ρ I tas J (· = ds)) (hl : ds.length ≤ 1000) : Ev C O ρ I (tLst tas) J (Is (.lst ds)) := fun σ H Q w dn i k => ha σ H _ w dn i fun vs H1 zs e1 w1 j1 p1 n1 => by
  cases p1
  refine ⟨by rw [n1.length]; exact Nat.le_trans hl (by decide), fun q hq => ?_⟩
  exact k _ _ _ (e1.trans (Ext.of (same_new hq))) (wf_new w1 hq) (J.st (same_new hq) j1) rfl (.lst (own_not w1 hq) upd_same (n1.ext (Ext.of (same_new hq))))
theorem ev_lstn {Ψ : List D → Prop} (ha : EvA C O ρ I tas J Ψ) (hl : ∀ ds, Ψ ds → ds.length ≤ 1000) : Ev C O ρ I (tLst tas) J (fun z => ∃ ds, z = .lst ds ∧ Ψ ds) := fun σ H Q w dn i k => ha σ H _ w dn i fun vs H1 zs e1 w1 j1 p1 n1 => by
  refine ⟨by rw [n1.length]; exact Nat.le_trans (hl zs p1) (by decide), fun q hq => ?_⟩
  exact k _ _ _ (e1.trans (Ext.of (same_new hq))) (wf_new w1 hq) (J.st (same_new hq) j1) ⟨zs, rfl, p1⟩ (.lst (own_not w1 hq) upd_same (n1.ext (Ext.of (same_new hq))))
theorem ge_tup {k : Nat} (ha : GA C X O ρ I es J (· = ds)) (hl : ds.length ≤ 1000 := by exact Nat.le_of_ble_eq_true rfl) : GE C X O ρ I (.Tuple es k pos) J (Is (.tup ds)) := ge_of (pe_tup pa_tw) (ev_tup ha hl)
theorem ge_lst (ha : GA C X O ρ I es J (· = ds)) (hl : ds.length ≤ 1000 := by exact Nat.le_of_ble_eq_true rfl) : GE C X O ρ I (.List es pos) J (Is (.lst ds)) := ge_of (pe_lst pa_tw) (ev_lst ha hl)
theorem ge_lstn {Ψ : List D → Prop} (ha : GA C X O ρ I es J Ψ) (hl : ∀ ds, Ψ ds → ds.length ≤ 1000) : GE C X O ρ I (.List es pos) J (fun z => ∃ ds, z = .lst ds ∧ Ψ ds) := ge_of (pe_lst pa_tw) (ev_lstn ha hl)

/-! ### subscripts -/
/-- the items of a list or a tuple -/
def items : D → Option (List D)
  | .lst ds => some ds
  | .tup ds => some ds
  | _ => none
theorem items_seq {H : Hp} {v : V} (h : Dn C O H v d) (hi : items d = some ds) : ∃ q xs, v = .ref q ∧ DnAll C O H xs ds ∧ ((d = .lst ds ∧ H q = some (.lst xs)) ∨ (d = .tup ds ∧ H q = some (.tup xs))) := by
  cases h with
  | lst n r t => cases hi; exact ⟨_, _, rfl, t, .inl ⟨rfl, r⟩⟩
  | tup n r t => cases hi; exact ⟨_, _, rfl, t, .inr ⟨rfl, r⟩⟩
  | _ => cases hi
theorem atI_dn {H : Hp} {xs : List V} {i : Int} (t : DnAll C O H xs ds) (h : atI ds i = some d) : ∃ v, atI xs i = some v ∧ Dn C O H v d := by
  unfold atI at h ⊢
  rw [t.length]
  cases q : ixN ds.length i with
  | none => rw [q] at h; cases h
  | some j =>
    rw [q] at h
    exact t.get h
theorem op2_ix {Kf : PySem.W.Frag} {i : Int} (hi : items d1 = some ds) (h : atI ds i = some d) : Op2 C O (rIx Kf) d1 (.int i) (Is d) := fun H x y Q w h1 h2 k => by
  cases h2
  obtain ⟨q, xs, rfl, t, r⟩ := items_seq h1 hi
  obtain ⟨v, hv, n⟩ := atI_dn t h
  rcases r with ⟨_, r⟩ | ⟨_, r⟩
  · exact .inl ⟨q, xs, i, v, rfl, rfl, SqL.of r, hv, k _ H _ (Same.refl H) rfl n⟩
  · exact .inr (.inl ⟨q, xs, i, v, rfl, rfl, SqT.of r, hv, k _ H _ (Same.refl H) rfl n⟩)
theorem ge_ix {i : Int} (ha : GE C X O ρ I a J (Is d1)) (hb : GE C X O ρ J b K (Is (.int i))) (hi : items d1 = some ds) (h : atI ds i = some d) (hs : PlainIx b := by exact fun _ _ => rfl) : GE C X O ρ I (.Subscript a b pos) K (Is d) := ge_of (pe_ix ix_seq pe_tw pe_tw hs) (ev_op ha hb (op2_ix hi h))
theorem ge_ixn {Φb : D → Prop} (ha : GE C X O ρ I a J (Is d1)) (hb : GE C X O ρ J b K (fun z => ∃ i, z = .int i ∧ ∃ d, atI ds i = some d ∧ Φ d)) (hi : items d1 = some ds) (hs : PlainIx b := by exact fun _ _ => rfl) : GE C X O ρ I (.Subscript a b pos) K Φ :=
  ge_of (pe_ix ix_seq pe_tw pe_tw hs) (ev_opn (Φb := fun _ => fun z => ∃ i, z = .int i ∧ ∃ d, atI ds i = some d ∧ Φ d) ha (fun _ _ => hb) fun z1 z2 p1 p2 => by
    cases p1
    obtain ⟨i, rfl, d, h, p⟩ := p2
    exact fun H x y Q w h1 h2 k => op2_ix hi h H x y Q w h1 h2 fun v H' z e pz n => by
      cases pz
      exact k v H' _ e p n)
theorem atI_n {α : Type} {xs : List α} {i : Int} {j : Nat} {v : α} (hi : i = (j : Int)) (h : xs[j]? = some v) : atI xs i = some v := by
  rw [hi]
  exact atI_nat h
theorem atI_neg {α : Type} {xs : List α} {v : α} (h : xs.getLast? = some v) : atI xs (-1) = some v := by
  cases xs with
  | nil => cases h
  | cons x r =>
    have hl : (x :: r).getLast? = (x :: r)[(x :: r).length - 1]? := by rw [List.getLast?_eq_getElem?]
    rw [hl] at h
    unfold atI ixN
    rw [if_neg (by decide), if_pos (by simp; omega)]
    show (x :: r)[(-1 + ((x :: r).length : Int)).toNat]? = some v
    rw [← h]
    congr 1
    omega
/-- the part that a slice takes -/
def cutD (ds : List D) (lo hi : Option Int) : List D := (ds.drop (HT.sIx ds.length 0 lo)).take (HT.sIx ds.length ds.length hi - HT.sIx ds.length 0 lo)
theorem cut_dn {H : Hp} {xs : List V} {lo hi : Option Int} (t : DnAll C O H xs ds) : DnAll C O H (cutV xs lo hi) (cutD ds lo hi) := by
  unfold cutV cutD
  rw [t.length]
  exact (t.drop _).take _
def EvO (C : Addr) (O : Addr → Prop) (ρ : Env) (I : Asr) (t : TO) (J : Asr) (o : Option Int) : Prop := ∀ (σ : L2.St) (H : Hp) (Q : Option Int → Hp → Prop), Wf O H → Den C O H σ ρ → I.P H → (∀ H', Ext O H H' → Wf O H' → J.P H' → Q o H') → t σ H Q
theorem evo_none : EvO C O ρ I tNoPart I none := fun σ H Q w dn i k => k H Ext.refl w i
theorem evo_some {i : Int} (h : GE C X O ρ I e J (Is (.int i))) : EvO C O ρ I (tPart (tw X e)) J (some i) := fun σ H Q w dn j k => h σ H _ w dn j fun v H' z e w' j' p n => by
  cases p
  cases n
  exact ⟨i, rfl, k H' e w' j'⟩
theorem ge_sliceL {lo hi : Option Expr} {tl th : TO} {l h : Option Int} {p2 : Pos} (ha : GE C X O ρ I a J (Is (.lst ds))) (pl : PO X lo tl) (ph : PO X hi th) (hl : EvO C O ρ J tl K l) (hh : EvO C O ρ K th L h) : GE C X O ρ I (.Subscript a (.Slice lo hi none p2) pos) L (Is (.lst (cutD ds l h))) :=
  ge_of (pe_slice sl_list pe_tw pl ph) fun σ H Q w dn i k => by
    refine ha σ H _ w dn i fun v1 H1 z1 e1 w1 j1 p1 n1 => ?_
    cases p1
    refine hl σ H1 _ w1 (dn.ext e1) j1 fun H2 e2 w2 j2 => ?_
    refine hh σ H2 _ w2 (dn.ext (e1.trans e2)) j2 fun H3 e3 w3 j3 => ?_
    cases n1.ext (e2.trans e3) with
    | lst n r t =>
      refine ⟨_, _, rfl, SqL.of r, fun q hq => ?_⟩
      exact k _ _ _ (((e1.trans e2).trans e3).trans (Ext.of (same_new hq))) (wf_new w3 hq) (L.st (same_new hq) j3) rfl (.lst (own_not w3 hq) upd_same ((cut_dn t).ext (Ext.of (same_new hq))))
theorem ge_sliceT {lo hi : Option Expr} {tl th : TO} {l h : Option Int} {p2 : Pos} (ha : GE C X O ρ I a J (Is (.tup ds))) (pl : PO X lo tl) (ph : PO X hi th) (hl : EvO C O ρ J tl K l) (hh : EvO C O ρ K th L h) : GE C X O ρ I (.Subscript a (.Slice lo hi none p2) pos) L (Is (.tup (cutD ds l h))) :=
  ge_of (pe_slice sl_tupA pe_tw pl ph) fun σ H Q w dn i k => by
    refine ha σ H _ w dn i fun v1 H1 z1 e1 w1 j1 p1 n1 => ?_
    cases p1
    refine hl σ H1 _ w1 (dn.ext e1) j1 fun H2 e2 w2 j2 => ?_
    refine hh σ H2 _ w2 (dn.ext (e1.trans e2)) j2 fun H3 e3 w3 j3 => ?_
    have n3 := n1.ext (e2.trans e3)
    have hl2 := n3
    cases n3 with
    | @tup a0 xs0 ds0 n r t =>
      refine ⟨_, _, rfl, SqT.of r, fun hw => ?_, fun _ q hq => ?_⟩
      · have e0 : cutD ds l h = ds := by
          unfold cutD
          rw [← t.length, hw.1, hw.2, t.length, List.drop_zero, Nat.sub_zero, List.take_length]
        exact k _ _ _ ((e1.trans e2).trans e3) w3 j3 (by rw [e0]; rfl) hl2
      · exact k _ _ _ (((e1.trans e2).trans e3).trans (Ext.of (same_new hq))) (wf_new w3 hq) (L.st (same_new hq) j3) rfl (.tup (own_not w3 hq) upd_same ((cut_dn t).ext (Ext.of (same_new hq))))
/-- a list backwards -/
theorem ge_revL {k : Nat} {p1 p2 p3 : Pos} (ha : GE C X O ρ I a J (Is (.lst ds))) : GE C X O ρ I (.Subscript a (.Slice none none (some (.UnaryOp .USub (.Constant (.int 1) k p1) p2)) p3) pos) J (Is (.lst ds.reverse)) :=
  ge_of (pe_revL pe_tw) fun σ H Q w dn i kk => ha σ H _ w dn i fun v1 H1 z1 e1 w1 j1 pp n1 => by
    cases pp
    cases n1 with
    | lst n r t =>
      refine ⟨_, _, rfl, SqL.of r, fun q hq => ?_⟩
      exact kk _ _ _ (e1.trans (Ext.of (same_new hq))) (wf_new w1 hq) (J.st (same_new hq) j1) rfl (.lst (own_not w1 hq) upd_same (t.reverse.ext (Ext.of (same_new hq))))

/-! ### built-in calls -/
theorem ge_blt1 {id : String} {r : List V → Hp → VK → Prop} (hc : CallR X (.builtin id) r) (hm : X.mg x = none) (hv : bootBuiltins x = some (.builtin id)) (ha : GA C X O ρ I (e :: es) J (· = ds)) (hr : OpL C O r ds Φ) (hg : Gl X x := by rfl)
    (hn : x ≠ "__name__" := by decide) (hdb : (x == ("__debug__" : Str)) = false := by decide) (he : starEach (e :: es) X.env = (false, eval e X.env) :: starEach es X.env := by rfl) (hpl : (backTo pos (starEach es X.env)).any (·.1) = false := by rfl) :
    GE C X O ρ I (.Call (.Name x p) (e :: es) [] pos) J Φ := ge_of (pe_callB hc hg hm hv pa_tw hn hdb he hpl) (ev_cb ha hr)
theorem ge_bltn {id : String} {r : List V → Hp → VK → Prop} {Ψ : List D → Prop} (hc : CallR X (.builtin id) r) (hm : X.mg x = none) (hv : bootBuiltins x = some (.builtin id)) (ha : GA C X O ρ I (e :: es) J Ψ) (hr : ∀ ds, Ψ ds → OpL C O r ds Φ) (hg : Gl X x := by rfl)
    (hn : x ≠ "__name__" := by decide) (hdb : (x == ("__debug__" : Str)) = false := by decide) (he : starEach (e :: es) X.env = (false, eval e X.env) :: starEach es X.env := by rfl) (hpl : (backTo pos (starEach es X.env)).any (·.1) = false := by rfl) :
    GE C X O ρ I (.Call (.Name x p) (e :: es) [] pos) J Φ := ge_of (pe_callB hc hg hm hv pa_tw hn hdb he hpl) (ev_cbn ha hr)
theorem ge_ty1 {T : String} {r : List V → Hp → VK → Prop} (hc : CallR X (.type T) r) (hm : X.mg x = none) (hv : bootBuiltins x = some (.type T)) (ha : GA C X O ρ I (e :: es) J (· = ds)) (hr : OpL C O r ds Φ) (hg : Gl X x := by rfl)
    (hn : x ≠ "__name__" := by decide) (hdb : (x == ("__debug__" : Str)) = false := by decide) (he : starEach (e :: es) X.env = (false, eval e X.env) :: starEach es X.env := by rfl) (hpl : (backTo pos (starEach es X.env)).any (·.1) = false := by rfl) :
    GE C X O ρ I (.Call (.Name x p) (e :: es) [] pos) J Φ := ge_of (pe_callTy hc hg hm hv pa_tw hn hdb he hpl) (ev_cb ha hr)
theorem one_dn {H : Hp} {vs : List V} {d : D} (h : DnAll C O H vs [d]) : ∃ v, vs = [v] ∧ Dn C O H v d := by
  cases h with
  | cons h t => cases t; exact ⟨_, rfl, h⟩
theorem two_dn {H : Hp} {vs : List V} {d1 d2 : D} (h : DnAll C O H vs [d1, d2]) : ∃ v w, vs = [v, w] ∧ Dn C O H v d1 ∧ Dn C O H w d2 := by
  cases h with
  | cons h t =>
    obtain ⟨w, rfl, h2⟩ := one_dn t
    exact ⟨_, _, rfl, h, h2⟩
theorem ge_len (hm : X.mg "len" = none) (ha : GE C X O ρ I e J (Is d)) (hi : items d = some ds) (hg : Gl X "len" := by rfl) (he : starEach [e] X.env = (false, eval e X.env) :: starEach [] X.env := by rfl) (hpl : (backTo pos (starEach [] X.env)).any (·.1) = false := by rfl) :
    GE C X O ρ I (.Call (.Name "len" p) [e] [] pos) J (Is (.int (ds.length : Int))) := ge_blt1 call_len_seq hm PySem.boot_len (ga_one ha he) (fun H vs Q w nl k => by
      obtain ⟨v, rfl, n⟩ := one_dn nl
      obtain ⟨q, xs, rfl, t, r⟩ := items_seq n hi
      refine ⟨q, xs, rfl, ?_, ?_⟩
      · rcases r with ⟨_, r⟩ | ⟨_, r⟩
        · exact .inl (SqL.of r)
        · exact .inr (SqT.of r)
      · rw [t.length]
        exact k _ H _ (Same.refl H) rfl (.int _)) hg (by decide) (by decide) he hpl
theorem ge_abs {i : Int} (hm : X.mg "abs" = none) (ha : GE C X O ρ I e J (Is (.int i))) (hg : Gl X "abs" := by rfl) (he : starEach [e] X.env = (false, eval e X.env) :: starEach [] X.env := by rfl) (hpl : (backTo pos (starEach [] X.env)).any (·.1) = false := by rfl) :
    GE C X O ρ I (.Call (.Name "abs" p) [e] [] pos) J (Is (.int (i.natAbs : Int))) := ge_blt1 call_abs hm PyProof.Rows.boot_abs (ga_one ha he) (fun H vs Q w nl k => by
      obtain ⟨v, rfl, n⟩ := one_dn nl
      cases n
      refine ⟨i, rfl, ?_⟩
      have e : (if i < 0 then -i else i) = (i.natAbs : Int) := by split <;> omega
      rw [e]
      exact k _ H _ (Same.refl H) rfl (.int _)) hg (by decide) (by decide) he hpl
theorem ge_toInt {i : Int} (hm : X.mg "int" = none) (ha : GE C X O ρ I e J (Is (.int i))) (hg : Gl X "int" := by rfl) (he : starEach [e] X.env = (false, eval e X.env) :: starEach [] X.env := by rfl) (hpl : (backTo pos (starEach [] X.env)).any (·.1) = false := by rfl) :
    GE C X O ρ I (.Call (.Name "int" p) [e] [] pos) J (Is (.int i)) := ge_ty1 call_int1 hm PyProof.Rows.boot_int (ga_one ha he) (fun H vs Q w nl k => by
      obtain ⟨v, rfl, n⟩ := one_dn nl
      cases n
      exact .inl ⟨i, rfl, k _ H _ (Same.refl H) rfl (.int _)⟩) hg (by decide) (by decide) he hpl
theorem ge_strOf {i : Int} (hm : X.mg "str" = none) (ha : GE C X O ρ I e J (Is (.int i))) (hz : i.natAbs.log2 < 1920) (hg : Gl X "str" := by rfl) (he : starEach [e] X.env = (false, eval e X.env) :: starEach [] X.env := by rfl) (hpl : (backTo pos (starEach [] X.env)).any (·.1) = false := by rfl) :
    GE C X O ρ I (.Call (.Name "str" p) [e] [] pos) J (Is (.str (toString i))) := ge_ty1 call_str_int hm PyProof.Rows.boot_str (ga_one ha he) (fun H vs Q w nl k => by
      obtain ⟨v, rfl, n⟩ := one_dn nl
      cases n
      exact ⟨i, rfl, hz, k _ H _ (Same.refl H) rfl (.str _)⟩) hg (by decide) (by decide) he hpl
theorem ge_toList (hm : X.mg "list" = none) (ha : GE C X O ρ I e J (Is d)) (hi : items d = some ds) (hg : Gl X "list" := by rfl) (he : starEach [e] X.env = (false, eval e X.env) :: starEach [] X.env := by rfl) (hpl : (backTo pos (starEach [] X.env)).any (·.1) = false := by rfl) :
    GE C X O ρ I (.Call (.Name "list" p) [e] [] pos) J (Is (.lst ds)) := ge_ty1 call_list_of hm PyProof.Rows.boot_list (ga_one ha he) (fun H vs Q w nl k => by
      obtain ⟨v, rfl, n⟩ := one_dn nl
      obtain ⟨q, xs, rfl, t, r⟩ := items_seq n hi
      refine ⟨q, xs, rfl, ?_, fun l hl => ?_⟩
      · rcases r with ⟨_, r⟩ | ⟨_, r⟩
        · exact .inl (SqL.of r)
        · exact .inr (SqT.of r)
      · exact k _ _ _ (same_new hl) rfl (.lst (own_not w hl) upd_same (t.ext (Ext.of (same_new hl))))) hg (by decide) (by decide) he hpl
theorem ge_toTup (hm : X.mg "tuple" = none) (ha : GE C X O ρ I e J (Is (.lst ds))) (hg : Gl X "tuple" := by rfl) (he : starEach [e] X.env = (false, eval e X.env) :: starEach [] X.env := by rfl) (hpl : (backTo pos (starEach [] X.env)).any (·.1) = false := by rfl) :
    GE C X O ρ I (.Call (.Name "tuple" p) [e] [] pos) J (Is (.tup ds)) := ge_ty1 call_tuple_of hm PyProof.Rows.boot_tuple (ga_one ha he) (fun H vs Q w nl k => by
      obtain ⟨v, rfl, n⟩ := one_dn nl
      cases n with
      | lst nn r t =>
        exact ⟨_, _, rfl, .inl ⟨SqL.of r, fun l hl => k _ _ _ (same_new hl) rfl (.tup (own_not w hl) upd_same (t.ext (Ext.of (same_new hl))))⟩⟩) hg (by decide) (by decide) he hpl
def intD (ns : List Int) : List D := ns.map D.int
theorem intD_dn {H : Hp} : ∀ {xs : List V} {ns : List Int}, DnAll C O H xs (intD ns) → xs = ns.map V.int
  | _, [], .nil => rfl
  | _, _ :: _, .cons h t => by
    cases h
    rw [intD_dn t]
    rfl
theorem ge_max {ns : List Int} {m : Int} (hc : X.calm = true) (hm : X.mg "max" = none) (ha : GE C X O ρ I e J (Is (.lst (intD ns)))) (h0 : ns ≠ []) (h1 : m ∈ ns) (h2 : ∀ y ∈ ns, y ≤ m) (hg : Gl X "max" := by rfl) (he : starEach [e] X.env = (false, eval e X.env) :: starEach [] X.env := by rfl)
    (hpl : (backTo pos (starEach [] X.env)).any (·.1) = false := by rfl) : GE C X O ρ I (.Call (.Name "max" p) [e] [] pos) J (Is (.int m)) := ge_blt1 (cr_max hc) hm PyProof.Rows.boot_max (ga_one ha he) (fun H vs Q w nl k => by
      obtain ⟨v, rfl, n⟩ := one_dn nl
      cases n with
      | lst nn r t =>
        have e := intD_dn t
        subst e
        refine ⟨_, ns, rfl, SqL.of r, List.length_pos_iff.mpr h0, fun m' a1 a2 => ?_⟩
        have e : m' = m := Int.le_antisymm (h2 m' a1) (a2 m h1)
        rw [e]
        exact k _ H _ (Same.refl H) rfl (.int _)) hg (by decide) (by decide) he hpl
theorem ge_min {ns : List Int} {m : Int} (hc : X.calm = true) (hm : X.mg "min" = none) (ha : GE C X O ρ I e J (Is (.lst (intD ns)))) (h0 : ns ≠ []) (h1 : m ∈ ns) (h2 : ∀ y ∈ ns, m ≤ y) (hg : Gl X "min" := by rfl) (he : starEach [e] X.env = (false, eval e X.env) :: starEach [] X.env := by rfl)
    (hpl : (backTo pos (starEach [] X.env)).any (·.1) = false := by rfl) : GE C X O ρ I (.Call (.Name "min" p) [e] [] pos) J (Is (.int m)) := ge_blt1 (cr_min hc) hm PyProof.Rows.boot_min (ga_one ha he) (fun H vs Q w nl k => by
      obtain ⟨v, rfl, n⟩ := one_dn nl
      cases n with
      | lst nn r t =>
        have e := intD_dn t
        subst e
        refine ⟨_, ns, rfl, SqL.of r, List.length_pos_iff.mpr h0, fun m' a1 a2 => ?_⟩
        have e : m' = m := Int.le_antisymm (a2 m h1) (h2 m' a1)
        rw [e]
        exact k _ H _ (Same.refl H) rfl (.int _)) hg (by decide) (by decide) he hpl
theorem ge_max2 {i j : Int} (hc : X.calm = true) (hm : X.mg "max" = none) (ha : GE C X O ρ I e J (Is (.lst [.int i, .int j]))) (hg : Gl X "max" := by rfl) (he : starEach [e] X.env = (false, eval e X.env) :: starEach [] X.env := by rfl)
    (hpl : (backTo pos (starEach [] X.env)).any (·.1) = false := by rfl) : GE C X O ρ I (.Call (.Name "max" p) [e] [] pos) J (Is (.int (max i j))) :=
  ge_max (ns := [i, j]) hc hm ha (by simp) (by rcases Int.le_total i j with h | h <;> simp [Int.max_def] <;> omega) (by intro y hy; simp at hy; rcases hy with rfl | rfl <;> omega) hg he hpl
theorem ge_min2 {i j : Int} (hc : X.calm = true) (hm : X.mg "min" = none) (ha : GE C X O ρ I e J (Is (.lst [.int i, .int j]))) (hg : Gl X "min" := by rfl) (he : starEach [e] X.env = (false, eval e X.env) :: starEach [] X.env := by rfl)
    (hpl : (backTo pos (starEach [] X.env)).any (·.1) = false := by rfl) : GE C X O ρ I (.Call (.Name "min" p) [e] [] pos) J (Is (.int (min i j))) :=
  ge_min (ns := [i, j]) hc hm ha (by simp) (by rcases Int.le_total i j with h | h <;> simp [Int.min_def] <;> omega) (by intro y hy; simp at hy; rcases hy with rfl | rfl <;> omega) hg he hpl
theorem bls_dn {H : Hp} : ∀ {xs : List V} {bs : List Bool}, DnAll C O H xs (bs.map D.bl) → xs = bs.map V.bl
  | _, [], .nil => rfl
  | _, _ :: _, .cons h t => by
    cases h
    rw [bls_dn t]
    rfl
theorem ge_all {bs : List Bool} (hc : X.calm = true) (hm : X.mg "all" = none) (ha : GE C X O ρ I e J (Is (.lst (bs.map D.bl)))) (hg : Gl X "all" := by rfl) (he : starEach [e] X.env = (false, eval e X.env) :: starEach [] X.env := by rfl)
    (hpl : (backTo pos (starEach [] X.env)).any (·.1) = false := by rfl) : GE C X O ρ I (.Call (.Name "all" p) [e] [] pos) J (Is (.bl (bs.all id))) := ge_blt1 (cr_all hc) hm PyProof.Rows.boot_all (ga_one ha he) (fun H vs Q w nl k => by
      obtain ⟨v, rfl, n⟩ := one_dn nl
      cases n with
      | lst nn r t =>
        have e := bls_dn t
        subst e
        exact ⟨_, bs, rfl, SqL.of r, k _ H _ (Same.refl H) rfl (.bl _)⟩) hg (by decide) (by decide) he hpl
theorem ge_gcd {i j : Int} (hm : X.mg "gcd" = some (.builtin "math.gcd")) (ha : GE C X O ρ I a J (Is (.int i))) (hb : GE C X O ρ J b K (Is (.int j))) (hg : Gl X "gcd" := by rfl) (he : starEach [a, b] X.env = (false, eval a X.env) :: starEach [b] X.env := by rfl)
    (he2 : starEach [b] X.env = (false, eval b X.env) :: starEach [] X.env := by rfl) (hpl : (backTo pos (starEach [b] X.env)).any (·.1) = false := by rfl) : GE C X O ρ I (.Call (.Name "gcd" p) [a, b] [] pos) K (Is (.int ((Nat.gcd i.natAbs j.natAbs : Nat) : Int))) :=
  ge_of (pe_callBfun cr_gcd hg hm pa_tw (by decide) he hpl) (ev_cb (ga_two ha hb he he2) fun H vs Q w nl k => by
    obtain ⟨v, v2, rfl, n, n2⟩ := two_dn nl
    cases n
    cases n2
    exact ⟨i, j, rfl, k _ H _ (Same.refl H) rfl (.int _)⟩)

/-! ### lists joined, repeated -/
theorem ge_cat {ds es : List D} (ha : GE C X O ρ I a J (Is (.lst ds))) (hb : GE C X O ρ J b K (Is (.lst es))) (hz : ds.length + es.length ≤ 1000000) : GE C X O ρ I (.BinOp a .Add b pos) K (Is (.lst (ds ++ es))) := ge_bin op_cat ha hb fun H x y Q w h1 h2 k => by
  cases h1 with
  | lst n1 r1 t1 =>
    cases h2 with
    | lst n2 r2 t2 => exact ⟨_, _, _, _, rfl, rfl, r1, r2, by rw [t1.length, t2.length]; exact Nat.le_trans hz (by decide), fun q hq => k _ _ _ (same_new hq) rfl (.lst (own_not w hq) upd_same ((t1.append t2).ext (Ext.of (same_new hq))))⟩
theorem ge_catT {ds es : List D} (ha : GE C X O ρ I a J (Is (.tup ds))) (hb : GE C X O ρ J b K (Is (.tup es))) (hz : ds.length + es.length ≤ 1000000) : GE C X O ρ I (.BinOp a .Add b pos) K (Is (.tup (ds ++ es))) := ge_bin op_catA ha hb fun H x y Q w h1 h2 k => by
  have h1' := h1
  have h2' := h2
  cases h1 with
  | tup n1 r1 t1 =>
    cases h2 with
    | tup n2 r2 t2 =>
      refine ⟨_, _, _, _, rfl, rfl, SqT.of r1, SqT.of r2, by rw [t1.length, t2.length]; exact Nat.le_trans hz (by decide), fun e0 => ?_, fun _ e0 => ?_, fun _ _ q hq => ?_⟩
      · have e1 : ds = [] := List.eq_nil_of_length_eq_zero (by rw [← t1.length, e0]; rfl)
        refine k _ H _ (Same.refl H) ?_ h2'
        rw [e1]
        rfl
      · have e1 : es = [] := List.eq_nil_of_length_eq_zero (by rw [← t2.length, e0]; rfl)
        refine k _ H _ (Same.refl H) ?_ h1'
        rw [e1, List.append_nil]
        rfl
      · exact k _ _ _ (same_new hq) rfl (.tup (own_not w hq) upd_same ((t1.append t2).ext (Ext.of (same_new hq))))
theorem ge_rep {ds : List D} {n : Int} (ha : GE C X O ρ I a J (Is (.lst ds))) (hb : GE C X O ρ J b K (Is (.int n))) (h0 : -1000 ≤ n) (h1 : n ≤ 1000) (hl : ds.length ≤ 1000) : GE C X O ρ I (.BinOp a .Mult b pos) K (Is (.lst (List.replicate n.toNat ds).flatten)) := ge_bin op_rep ha hb fun H x y Q w h1' h2 k => by
  cases h2
  cases h1' with
  | lst n1 r1 t1 =>
    refine ⟨_, n, _, rfl, rfl, r1, by omega, by omega, ?_, fun q hq => k _ _ _ (same_new hq) rfl (.lst (own_not w hq) upd_same ((t1.replicate n.toNat).ext (Ext.of (same_new hq))))⟩
    rw [t1.length]
    have : ds.length * n.toNat ≤ 1000 * 1000 := Nat.mul_le_mul hl (by omega)
    exact Nat.le_trans this (by decide)
end
end TM
/-! ## TmStm -/
set_option Elab.async false
set_option linter.all false
set_option maxRecDepth 100000
set_option maxHeartbeats 4000000
/-! TmStm: calls of own defs, walked things, comprehensions, statements. -/
namespace TM
open PySem L2
/-! ### own defs -/
/-- the def that the module's name x stands for keeps sp -/
structure Fn (P : Program) (w : World) (K : PySem.W.Frag) (mg : Str → Option Value) (base : Heap) (CX : CXT) (k : Nat) (x : Str) (sp : Sp) : Prop where
  ex : ∃ (f : Addr) (fd : FuncData) (ps : List Str), FnOk P w K mg base CX k f fd ps sp ∧ mg x = some (.ref f) ∧ PySem.W.keepIn K (.ref f) = true ∧ Binds K fd ps []
/-- a pure def: data in, data out, nothing else changed -/
def spP (C : Addr) (R : List D → D → Prop) : Sp := fun vs H Q _ => ∃ (O : Addr → Prop) (ds : List D) (r : D), Wf O H ∧ DnAll C O H vs ds ∧ R ds r ∧ ∀ v H', Same H H' → Dn C O H' v r → Q v H'
section
variable {C : Addr} {X : Cx} {O : Addr → Prop} {ρ : Env} {I J K L : Asr} {Φ Φa Ψ : D → Prop} {e a b c : Expr} {es : List Expr} {pos p : Pos} {x : Str} {d d1 d2 d3 r : D} {ds : List D} {te ta tb tc : TE} {tas : TA}
theorem ge_call {k : Nat} {R : List D → D → Prop} (F : Fn X.prog X.w X.K X.mg X.base CX0 k x (spP C R)) (hr : Room k X.A) (ha : GA C X O ρ I (e :: es) J (· = ds)) (hR : R ds r) (hg : Gl X x := by rfl)
    (hdb : (x == ("__debug__" : Str)) = false := by decide) (he : starEach (e :: es) X.env = (false, eval e X.env) :: starEach es X.env := by rfl) (hpl : (backTo pos (starEach es X.env)).any (·.1) = false := by rfl) :
    GE C X O ρ I (.Call (.Name x p) (e :: es) [] pos) J (Is r) := by
  obtain ⟨f, fd, ps, ok, hm, hk, hb⟩ := F.ex
  refine ge_of (pe_call ok hr hg hm hk hb .nil pass0 pa_tw hdb he hpl) fun σ H Q w dn i k => ha σ H _ w dn i fun vs H1 zs e1 w1 j1 p1 n1 => ?_
  cases p1
  rw [List.append_nil]
  exact ⟨O, ds, r, w1, n1, hR, fun v H' s n => k v H' r (e1.trans (Ext.of s)) (w1.same s) (J.st s j1) rfl n⟩
/-- o.numbers -/
theorem ge_num {ns : List Rat} (hc : Cls X.K C) (hn : NoAttr X.K C numF) (ha : GE C X O ρ I e J (Is (.poly ns))) (hb : attributeBase e "numbers" X.env (eval e X.env) = eval e X.env := by rfl) : GE C X O ρ I (.Attribute e "numbers" pos) J (Is (.tup (prs ns))) :=
  ge_of (pe_fld pe_tw hb) fun σ H Q w dn i k => ha σ H _ w dn i fun v H1 z e1 w1 j1 p1 n1 => by
    cases p1
    cases n1 with
    | @poly a0 dx t xs ns0 n h nt r pr =>
      refine ⟨a0, C, dx, _, .ref t, rfl, h, hc, hn, ?_, k _ H1 _ e1 w1 j1 rfl (.tup nt r (DnAll.prs pr))⟩
      show List.lookup numF [(numF, V.ref t)] = some (V.ref t)
      simp [List.lookup]

/-! ### targets -/
def gw (X : Cx) (tg : Expr) : TG := fun v σ H Q => ∀ (pins : List (Addr × Obj)) (s : Shared) (u : Value), Inv X pins σ H s → RelV v u →
  wpAny (model X.prog X.w) X.A (assign tg X.env u) (fun _ s' => ∃ σ' H', Inv X pins σ' H' s' ∧ Q σ' H') X.xe s
theorem pg_gw {tg : Expr} : PG X tg (gw X tg) := ⟨fun pins s _ _ _ u _ I r h => h pins s u I r⟩
theorem gw_of {tg : Expr} {g : TG} (h : PG X tg g) {v : V} {σ : L2.St} {H : Hp} {Q : L2.St → Hp → Prop} (q : g v σ H Q) : gw X tg v σ H Q := fun pins s u I r => h.run pins s σ H v u Q I r q
structure Tg (C : Addr) (X : Cx) (O : Addr → Prop) (tg : Expr) (vs : List Nat) (f : D → Env → Env) (dom : D → Prop) : Prop where
  ok : ∀ (σ : L2.St) (H : Hp) (ρ : Env) (v : V) (d : D) (Q : L2.St → Hp → Prop), Wf O H → Den C O H σ ρ → Dn C O H v d → dom d → (∀ σ', Den C O H σ' (f d ρ) → wipe σ' vs = wipe σ vs → Q σ' H) → gw X tg v σ H Q
theorem wipe_set {σ : L2.St} {i : Nat} {v : Option V} : ∀ {vs : List Nat}, i ∈ vs → wipe (σ.set i v) vs = wipe σ vs := by
  intro vs h
  refine List.ext_getElem? fun j => ?_
  have key : ∀ (τ : L2.St) (ws : List Nat) (j : Nat), (wipe τ ws)[j]? = if j ∈ ws then (if j < τ.length then some none else none) else τ[j]? := by
    intro τ ws
    induction ws with
    | nil => intro j; simp [wipe]
    | cons u ws ih =>
      intro j
      unfold wipe
      by_cases hu : u = j
      · subst hu
        rw [if_pos List.mem_cons_self]
        by_cases hl : u < τ.length
        · rw [if_pos hl, List.getElem?_set_self (by rw [wipe_length]; exact hl)]
        · rw [if_neg hl]
          exact List.getElem?_eq_none_iff.mpr (by rw [List.length_set, wipe_length]; omega)
      · rw [List.getElem?_set_ne hu, ih]
        by_cases hm : j ∈ ws
        · rw [if_pos hm, if_pos (List.mem_cons_of_mem _ hm)]
        · rw [if_neg hm, if_neg (fun z => (List.mem_cons.mp z).elim (fun e => hu e.symm) hm)]
  rw [key, key, List.length_set]
  by_cases hm : j ∈ vs
  · rw [if_pos hm, if_pos hm]
  · rw [if_neg hm, if_neg hm, List.getElem?_set_ne (fun e => hm (by rw [← e]; exact h))]
def f1 (i : Nat) : D → Env → Env := fun d ρ => ρ.set i (some d)
theorem tg_name {i : Nat} {vs : List Nat} (hN : X.N.Nodup) (hi : X.N[i]? = some x) (hx : Loc X.env.scope x) (hv : i ∈ vs) (hf : X.fn x = true ∨ X.env.scope.names.lookup x = some .local := by first | exact .inl rfl | exact .inr rfl | assumption) :
    Tg C X O (.Name x pos) vs (f1 i) fun _ => True := ⟨fun σ H ρ v d Q w dn n _ k => gw_of (pg_name hN hi hx hf) (k _ (dn.set i n) (wipe_set hv))⟩
def f2 (i j : Nat) : D → Env → Env := fun d ρ => match items d with
  | some [d1, d2] => (ρ.set i (some d1)).set j (some d2)
  | _ => ρ
def two : D → Prop := fun d => ∃ d1 d2, items d = some [d1, d2]
theorem two_items {d d1 d2 : D} (h : items d = some [d1, d2]) : two d := ⟨d1, d2, h⟩
theorem f2_items {i j : Nat} {d d1 d2 : D} {ρ : Env} (h : items d = some [d1, d2]) : f2 i j d ρ = (ρ.set i (some d1)).set j (some d2) := by
  unfold f2
  rw [h]
theorem tg_two {i j : Nat} {vs : List Nat} {x y : Str} {p1 p2 : Pos} {k : Nat} (hc : X.calm = true) (hN : X.N.Nodup) (hi : X.N[i]? = some x) (hx : Loc X.env.scope x) (hj : X.N[j]? = some y) (hy : Loc X.env.scope y) (hv : i ∈ vs) (hw : j ∈ vs)
    (hf : X.fn x = true ∨ X.env.scope.names.lookup x = some .local := by first | exact .inl rfl | exact .inr rfl | assumption) (hf2 : X.fn y = true ∨ X.env.scope.names.lookup y = some .local := by first | exact .inl rfl | exact .inr rfl | assumption)
    (h1 : (assignEach [Expr.Name x p1, .Name y p2] X.env).map (·.2) = assign (.Name x p1) X.env :: (assignEach [Expr.Name y p2] X.env).map (·.2) := by rfl) (h2 : (assignEach [Expr.Name y p2] X.env).map (·.2) = assign (.Name y p2) X.env :: (assignEach [] X.env).map (·.2) := by rfl)
    (hn : (assignEach [Expr.Name x p1, .Name y p2] X.env).length = 2 := by rfl) (hst : (assignEach [Expr.Name x p1, .Name y p2] X.env).findIdx? (·.1) = none := by rfl) :
    Tg C X O (.Tuple [.Name x p1, .Name y p2] k pos) vs (f2 i j) two := by
  refine ⟨fun σ H ρ v d Q w dn n hd q => ?_⟩
  obtain ⟨d1, d2, hi2⟩ := hd
  rw [f2_items hi2] at q
  obtain ⟨a0, xs, rfl, t, r⟩ := items_seq n hi2
  obtain ⟨v1, v2, rfl, n1, n2⟩ := two_dn t
  have fin : Q ((σ.set i (some v1)).set j (some v2)) H := q _ ((dn.set i n1).set j n2) (by rw [wipe_set hw, wipe_set hv])
  rcases r with ⟨_, r⟩ | ⟨_, r⟩
  · exact gw_of (pg_lst hc (pgs_cons (pg_name hN hi hx hf) (pgs_cons (pg_name hN hj hy hf2) pgs_nil h2) h1) hn hst) ⟨_, _, rfl, SqL.of r, rfl, v1, [v2], rfl, v2, [], rfl, rfl, fin⟩
  · exact gw_of (pg_tup hc (pgs_cons (pg_name hN hi hx hf) (pgs_cons (pg_name hN hj hy hf2) pgs_nil h2) h1) hn hst) ⟨_, _, rfl, SqT.of r, rfl, v1, [v2], rfl, v2, [], rfl, rfl, fin⟩

/-! ### what is walked -/
/-- at H1: n turns, the i-th gives y i -/
structure Wlk (C : Addr) (O : Addr → Prop) (Jt : It) (H1 : Hp) (n : Nat) (y : Nat → D) : Prop where
  go : ∀ (O' : Addr → Prop), (∀ a, O' a → O a ∨ H1 a = none) → ∀ i H, i < n → Ext O' H1 H → Jt.go i H
  stop : ∀ (O' : Addr → Prop), (∀ a, O' a → O a ∨ H1 a = none) → ∀ H, Ext O' H1 H → Jt.stop n H
  yld : ∀ (O' : Addr → Prop), (∀ a, O' a → O a ∨ H1 a = none) → ∀ i H x H', i < n → Ext O' H1 H → Wf O' H → Jt.yld i H x H' → Same H H' ∧ Dn C O' H' x (y i)
structure GI (C : Addr) (X : Cx) (O : Addr → Prop) (ρ : Env) (I : Asr) (tg iter : Expr) (J : Asr) (n : Nat) (y : Nat → D) : Prop where
  ex : ∃ wi : TI, PI X tg iter wi ∧ ∀ (σ : L2.St) (H : Hp) (R : It → Hp → Prop), Wf O H → Den C O H σ ρ → I.P H → (∀ Jt H1, Ext O H H1 → Wf O H1 → J.P H1 → Wlk C O Jt H1 n y → R Jt H1) → wi σ H R
theorem gi_list {tg : Expr} (ha : GE C X O ρ I e J (Is (.lst ds))) : GI C X O ρ I tg e J ds.length (fun i => ds.getD i .non) := by
  refine ⟨_, pi_list pe_tw, fun σ H R w dn i k => ha σ H _ w dn i fun v H1 z e1 w1 j1 p1 n1 => ?_⟩
  cases p1
  cases n1 with
  | @lst a0 xs ds0 n r t =>
    have ok : ∀ (O' : Addr → Prop), (∀ a, O' a → O a ∨ H1 a = none) → ∀ H, Ext O' H1 H → SqL X.K H a0 xs := fun O' ho H e => SqL.of (e _ _ (fun z => (ho _ z).elim n (some_ne r)) r)
    refine ⟨a0, rfl, ⟨xs, SqL.of r⟩, k _ H1 e1 w1 j1 ⟨fun O' ho i H hi e => ?_, fun O' ho H e => ?_, fun O' ho i H x H' hi e wf y => ?_⟩⟩
    · exact walk_list.goes i H (by rw [t.length]; exact hi) (ok O' ho H e)
    · rw [← t.length]
      exact walk_list.stops H (ok O' ho H e)
    · obtain ⟨e2, hx⟩ := walk_list.yields i H x H' (by rw [t.length]; exact hi) (ok O' ho H e) y
      obtain ⟨d, hd, nn⟩ := t.get' hx
      subst e2
      refine ⟨Same.refl _, ?_⟩
      rw [List.getD_eq_getElem?_getD, hd]
      exact (nn.own ho).ext e
theorem gi_tup {tg : Expr} (ha : GE C X O ρ I e J (Is (.tup ds))) : GI C X O ρ I tg e J ds.length (fun i => ds.getD i .non) := by
  refine ⟨_, pi_tup pe_tw, fun σ H R w dn i k => ha σ H _ w dn i fun v H1 z e1 w1 j1 p1 n1 => ?_⟩
  cases p1
  cases n1 with
  | @tup a0 xs ds0 n r t =>
    have ok : ∀ (O' : Addr → Prop), (∀ a, O' a → O a ∨ H1 a = none) → ∀ H, Ext O' H1 H → SqT X.K H a0 xs := fun O' ho H e => SqT.of (e _ _ (fun z => (ho _ z).elim n (some_ne r)) r)
    refine ⟨a0, rfl, ⟨xs, SqT.of r⟩, k _ H1 e1 w1 j1 ⟨fun O' ho i H hi e => ?_, fun O' ho H e => ?_, fun O' ho i H x H' hi e wf y => ?_⟩⟩
    · exact walk_tup.goes i H (by rw [t.length]; exact hi) (ok O' ho H e)
    · rw [← t.length]
      exact walk_tup.stops H (ok O' ho H e)
    · obtain ⟨e2, hx⟩ := walk_tup.yields i H x H' (by rw [t.length]; exact hi) (ok O' ho H e) y
      obtain ⟨d, hd, nn⟩ := t.get' hx
      subst e2
      refine ⟨Same.refl _, ?_⟩
      rw [List.getD_eq_getElem?_getD, hd]
      exact (nn.own ho).ext e
theorem gi_range1 {tg : Expr} {n : Int} (hm : X.mg "range" = none) (ha : GE C X O ρ I a J (Is (.int n))) (h1 : -(2 ^ 62) ≤ n) (h2 : n < 2 ^ 62) (hg : Gl X "range" := by rfl) (hs : starEach [a] X.env = [(false, eval a X.env)] := by rfl) :
    GI C X O ρ I tg (.Call (.Name "range" p) [a] [] pos) J n.toNat (fun i => .int (i : Nat)) := by
  refine ⟨_, pi_range1 hg hm (pa_cons pe_tw pa_nil hs) hs, fun σ H R w dn i k => ha σ H _ w dn i fun v H1 z e1 w1 j1 p1 n1 => ?_⟩
  cases p1
  cases n1
  refine ⟨n, rfl, h1, h2, k _ H1 e1 w1 j1 ⟨fun O' ho i H hi e => hi, fun O' ho H e => Nat.le_refl _, fun O' ho i H x H' hi e wf y => ?_⟩⟩
  obtain ⟨e2, hx⟩ := y
  subst e2 hx
  rw [Int.zero_add]
  exact ⟨Same.refl _, .int _⟩
theorem gi_range2 {tg : Expr} {m n : Int} (hm : X.mg "range" = none) (ha : GE C X O ρ I a J (Is (.int m))) (hb : GE C X O ρ J b K (Is (.int n))) (h1 : -(2 ^ 62) ≤ m ∧ m < 2 ^ 62 ∧ -(2 ^ 62) ≤ n ∧ n < 2 ^ 62) (hg : Gl X "range" := by rfl)
    (hs : starEach [a, b] X.env = [(false, eval a X.env), (false, eval b X.env)] := by rfl) (hs2 : starEach [b] X.env = [(false, eval b X.env)] := by rfl) :
    GI C X O ρ I tg (.Call (.Name "range" p) [a, b] [] pos) K (n - m).toNat (fun i => .int (m + (i : Nat))) := by
  have hs1 : starEach (a :: [b]) X.env = (false, eval a X.env) :: starEach [b] X.env := by rw [hs, hs2]
  have hs3 : starEach (b :: []) X.env = (false, eval b X.env) :: starEach [] X.env := hs2
  refine ⟨_, pi_range2 hg hm (pa_cons pe_tw (pa_cons pe_tw pa_nil hs3) hs1) hs hs2, fun σ H R w dn i k => ha σ H _ w dn i fun v H1 z e1 w1 j1 p1 n1 => ?_⟩
  cases p1
  cases n1
  refine hb σ H1 _ w1 (dn.ext e1) j1 fun v H2 z e2 w2 j2 p2 n2 => ?_
  cases p2
  cases n2
  refine ⟨m, n, rfl, h1, k _ H2 (e1.trans e2) w2 j2 ⟨fun O' ho i H hi e => hi, fun O' ho H e => Nat.le_refl _, fun O' ho i H x H' hi e wf y => ?_⟩⟩
  obtain ⟨e2, hx⟩ := y
  subst e2 hx
  exact ⟨Same.refl _, .int _⟩
theorem gi_range3 {tg : Expr} {m n st : Int} {k : Nat} (hm : X.mg "range" = none) (ha : GE C X O ρ I a J (Is (.int m))) (hb : GE C X O ρ J b K (Is (.int n))) (hc : GE C X O ρ K c L (Is (.int st))) (h1 : RgC m n st k) (hg : Gl X "range" := by rfl)
    (hs : starEach [a, b, c] X.env = (false, eval a X.env) :: starEach [b, c] X.env := by rfl) (hs2 : starEach [b, c] X.env = (false, eval b X.env) :: starEach [c] X.env := by rfl) (hs3 : starEach [c] X.env = (false, eval c X.env) :: starEach [] X.env := by rfl)
    (hpl : (backTo pos (starEach [b, c] X.env)).any (·.1) = false := by rfl) : GI C X O ρ I tg (.Call (.Name "range" p) [a, b, c] [] pos) L k (fun i => .int (m + (i : Nat) * st)) := by
  refine ⟨_, pi_range3 hg hm (pa_cons pe_tw (pa_cons pe_tw (pa_cons pe_tw pa_nil hs3) hs2) hs) hs hpl, fun σ H R w dn i kk => ha σ H _ w dn i fun v H1 z e1 w1 j1 p1 n1 => ?_⟩
  cases p1
  cases n1
  refine hb σ H1 _ w1 (dn.ext e1) j1 fun v H2 z e2 w2 j2 p2 n2 => ?_
  cases p2
  cases n2
  refine hc σ H2 _ w2 (dn.ext (e1.trans e2)) j2 fun v H3 z e3 w3 j3 p3 n3 => ?_
  cases p3
  cases n3
  refine ⟨m, n, st, k, rfl, h1, kk _ H3 ((e1.trans e2).trans e3) w3 j3 ⟨fun O' ho i H hi e => hi, fun O' ho H e => Nat.le_refl _, fun O' ho i H x H' hi e wf y => ?_⟩⟩
  obtain ⟨e2, hx⟩ := y
  subst e2 hx
  exact ⟨Same.refl _, .int _⟩

/-! ### list comprehensions -/
def wipeR (ρ : Env) : List Nat → Env
  | [] => ρ
  | v :: vs => (wipeR ρ vs).set v none
theorem Den.none {H : Hp} {σ : L2.St} (h : Den C O H σ ρ) (i : Nat) : Den C O H (σ.set i Option.none) (ρ.set i Option.none) := by
  refine ⟨by rw [List.length_set, List.length_set]; exact h.len, fun j e hj => ?_⟩
  by_cases hij : i = j
  · subst hij
    by_cases hl : i < ρ.length
    · rw [List.getElem?_set_self hl] at hj
      cases hj
    · rw [List.getElem?_eq_none_iff.mpr (by rw [List.length_set]; omega)] at hj
      cases hj
  · rw [List.getElem?_set_ne hij] at hj
    rw [List.getElem?_set_ne hij]
    exact h.at_ j e hj
theorem Den.wipe {H : Hp} {σ : L2.St} (h : Den C O H σ ρ) : ∀ vs : List Nat, Den C O H (L2.wipe σ vs) (wipeR ρ vs)
  | [] => h
  | v :: vs => (Den.wipe h vs).none v
/-- the heap is as H1 was, but for new objects -/
def asrSame (H1 : Hp) : Asr := ⟨fun H => Same H1 H, fun e h => h.trans e⟩
abbrev ibk (X : Cx) (scope : Scope) (b : Shared × Hp × Addr × List (Str × Addr) × List Addr) : Cx := X.blk b.1 b.2.1 scope (compEnvC scope b.2.2.2.1 b.2.2.1 X.env) b.2.2.2.2
theorem lc_core {elt tg iter : Expr} {ifs : List Expr} {scope : Scope} {own : List (Str × Nat)} {n : Nat} {y : Nat → D} {f : D → Env → Env} {dom : D → Prop} {keep : Nat → Bool} {g : Nat → D} (hc : X.calm = true) (hN : X.N.Nodup) (G : GI C X O ρ I tg iter J n y)
    (ok : BlkOk X.N X.env.scope scope own) (T : ∀ b O', Tg C (ibk X scope b) O' tg (own.map (·.2)) f dom) (hd : ∀ i, i < n → dom (y i)) (hn : n ≤ 100000)
    {tt : TT} (ht : ∀ b, PTs (ibk X scope b) ifs tt) (hk : ∀ O' I', (∀ a, O a → O' a) → ∀ i, i < n → EvT C O' (f (y i) (wipeR ρ (own.map (·.2)))) I' tt I' (· = keep i))
    (he : ∀ b O' I', (∀ a, O a → O' a) → ∀ i, i < n → keep i = true → GE C (ibk X scope b) O' (f (y i) (wipeR ρ (own.map (·.2)))) I' elt I' (Is (g i))) (hs : ∀ x, foldedSetIterable iter X.env x = pure x) :
    GE C X O ρ I (.ListComp elt [⟨tg, iter, ifs, 0⟩] scope pos) J (Is (.lst (((List.range n).filter keep).map g))) := by
  obtain ⟨wi, hpi, hG⟩ := G.ex
  refine ge_of (pe_lc (g := fun v σ H Q => ∀ b, gw (ibk X scope b) tg v σ H Q) (tt := tt) (te := fun σ H Q => ∀ b, tw (ibk X scope b) elt σ H Q) hc hN hpi ok
    (fun s H C cl fp => ⟨fun pins s' σ H' v u Q I r h => h (s, H, C, cl, fp) pins s' u I r⟩) (fun s H C cl fp => ht (s, H, C, cl, fp)) (fun s H C cl fp => ⟨fun pins s' σ H' Q I h => h (s, H, C, cl, fp) pins s' I⟩) hs) fun σ H Q w dn i k => ?_
  refine hG σ H _ w dn i fun Jt H1 e1 w1 j1 W => ?_
  intro Dl hDl
  have sub : ∀ a, (O a ∨ a = Dl) → O a ∨ H1 a = none := fun a h => h.elim .inl fun e => .inr (by rw [e]; exact hDl)
  have dn1 : Den C (fun a => O a ∨ a = Dl) H1 (L2.wipe σ (own.map (·.2))) (wipeR ρ (own.map (·.2))) := ((dn.ext e1).wipe _).go Ext.refl fun a no hs z => (sub a z).elim no hs
  refine lc_it (g := fun v σ H Q => ∀ b, gw (ibk X scope b) tg v σ H Q) (tt := tt) (te := fun σ H Q => ∀ b, tw (ibk X scope b) elt σ H Q) (vs := own.map (·.2)) (σ := σ) (Qd := fun H' => Q (V.ref Dl) H') (J := Jt) (n := n) (G := fun H' => Ext (fun a => O a ∨ a = Dl) H1 H' ∧ Wf (fun a => O a ∨ a = Dl) H') (Y := fun i H2 x H3 => Same H2 H3 ∧ Dn C (fun a => O a ∨ a = Dl) H3 x (y i))
    ⟨fun i H' hi h => W.go _ sub i H' hi h.1, fun H' h => W.stop _ sub H' h.1, fun i H' x H2 hi h yy => W.yld _ sub i H' x H2 hi h.1 h.2 yy⟩
    (fun i H' => Same H1 H' ∧ ∃ acc, H' Dl = some (.lst acc) ∧ DnAll C (fun a => O a ∨ a = Dl) H' acc (((List.range i).filter keep).map g)) ⟨same_new hDl, [], upd_same, .nil⟩ ?_ ?_ ?_
  · rintro i H' hi ⟨sm, acc, hl, _⟩
    refine ⟨Ext.of sm, fun a ha => ?_⟩
    rcases ha with ha | ha
    · exact (w1.same sm) a ha
    · rw [ha, hl]
      exact fun z => nomatch z
  · rintro i x H' H2 hi ⟨sm, acc, hl, nacc⟩ ⟨sm2, nx⟩ b
    have wf2 : Wf (fun a => O a ∨ a = Dl) H2 := fun a ha => by
      rcases ha with ha | ha
      · exact (w1.same (sm.trans sm2)) a ha
      · rw [ha, sm2 _ _ hl]
        exact fun z => nomatch z
    refine (T b _).ok _ H2 _ x (y i) _ wf2 (dn1.ext (Ext.of (sm.trans sm2))) nx (hd i hi) fun σ' dn' hw => ?_
    have idem : L2.wipe (L2.wipe σ (own.map (·.2))) (own.map (·.2)) = L2.wipe σ (own.map (·.2)) := by
      refine List.ext_getElem? fun j => ?_
      by_cases hm : j ∈ own.map (·.2)
      · have key : ∀ (τ : L2.St) (ws : List Nat), j ∈ ws → (L2.wipe τ ws)[j]? = if j < τ.length then some Option.none else Option.none := by
          intro τ ws
          induction ws with
          | nil => intro h; cases h
          | cons u ws ih =>
            intro h
            unfold L2.wipe
            by_cases hu : u = j
            · subst hu
              by_cases hl : u < τ.length
              · rw [if_pos hl, List.getElem?_set_self (by rw [wipe_length]; exact hl)]
              · rw [if_neg hl]
                exact List.getElem?_eq_none_iff.mpr (by rw [List.length_set, wipe_length]; omega)
            · rw [List.getElem?_set_ne hu]
              exact ih ((List.mem_cons.mp h).resolve_left fun e => hu e.symm)
        rw [key _ _ hm, key _ _ hm, wipe_length]
      · rw [wipe_out hm]
    refine ⟨hw.trans idem, ?_⟩
    refine hk (fun a => O a ∨ a = Dl) (asrSame H2) (fun a h => .inl h) i hi σ' H2 _ wf2 dn' (Same.refl H2) fun kb H3 e3 w3 s3 pk => ?_
    have s3' : Same H2 H3 := s3
    have acc3 : H3 Dl = some (.lst acc) := s3' _ _ (sm2 _ _ hl)
    rw [pk]
    by_cases hki : keep i = true
    · rw [if_pos hki]
      intro b
      refine he b (fun a => O a ∨ a = Dl) (asrSame H3) (fun a h => .inl h) i hi hki σ' H3 _ w3 (dn'.ext (Ext.of s3')) (Same.refl H3) fun v H4 z e4 w4 s4 p4 n4 => ?_
      have s4' : Same H3 H4 := s4
      have hacc : H4 Dl = some (.lst acc) := s4' _ _ acc3
      have s14 : Same H1 H4 := ((sm.trans sm2).trans s3').trans s4'
      have len : acc.length = ((List.range i).filter keep).length := by rw [nacc.length, List.length_map]
      have len2 : ((List.range i).filter keep).length ≤ i := by
        have := List.length_filter_le keep (List.range i)
        rwa [List.length_range] at this
      have exD : Ext (fun a => O a ∨ a = Dl) H4 (upd H4 Dl (.lst (acc ++ [v]))) := fun c o hno hc2 => by
        rw [upd_ne (fun z => hno (.inr z))]
        exact hc2
      refine ⟨acc, hacc, Nat.lt_of_le_of_lt (Nat.le_trans (by omega) hn) (by decide), ?_, acc ++ [v], upd_same, ?_⟩
      · intro c o hc2
        rw [upd_ne (ne_of_none hc2 hDl)]
        exact s14 c o hc2
      · rw [List.range_succ, List.filter_append, List.map_append]
        refine (((nacc.ext (Ext.of sm2)).ext (Ext.of s3')).ext (Ext.of s4')).ext exD |>.append ?_
        have ef : [i].filter keep = [i] := by rw [List.filter_cons, if_pos hki] <;> rfl
        rw [ef]
        cases p4
        exact .cons (n4.ext exD) .nil
    · rw [if_neg hki]
      refine ⟨(sm.trans sm2).trans s3', acc, acc3, ?_⟩
      rw [List.range_succ, List.filter_append, List.map_append]
      have ef : [i].filter keep = [] := by rw [List.filter_cons, if_neg hki] <;> rfl
      rw [ef, List.map_nil, List.append_nil]
      exact (nacc.ext (Ext.of sm2)).ext (Ext.of s3')
  · rintro H' ⟨sm, acc, hl, nacc⟩
    have hnO : ¬ O Dl := fun z => w1 Dl z hDl
    exact k _ H' _ (e1.trans (Ext.of sm)) (w1.same sm) (J.st sm j1) rfl (.lst hnO hl (nacc.less fun a h => .inl h))
/-- [elt for tg in iter] -/
theorem ge_lc {elt tg iter : Expr} {scope : Scope} {own : List (Str × Nat)} {n : Nat} {y : Nat → D} {f : D → Env → Env} {dom : D → Prop} {g : Nat → D} (hc : X.calm = true) (hN : X.N.Nodup) (G : GI C X O ρ I tg iter J n y)
    (ok : BlkOk X.N X.env.scope scope own) (T : ∀ b O', Tg C (ibk X scope b) O' tg (own.map (·.2)) f dom) (hd : ∀ i, i < n → dom (y i)) (hn : n ≤ 100000)
    (he : ∀ b O' I', (∀ a, O a → O' a) → ∀ i, i < n → GE C (ibk X scope b) O' (f (y i) (wipeR ρ (own.map (·.2)))) I' elt I' (Is (g i))) (hs : ∀ x, foldedSetIterable iter X.env x = pure x := by intro _; rfl) :
    GE C X O ρ I (.ListComp elt [⟨tg, iter, [], 0⟩] scope pos) J (Is (.lst ((List.range n).map g))) := by
  have h := lc_core (keep := fun _ => true) (g := g) (pos := pos) hc hN G ok T hd hn (fun b => pts_nil) (fun O' I' _ i hi σ H Q w dn ii k => k true H Ext.refl w ii rfl) (fun b O' I' sub i hi _ => he b O' I' sub i hi) hs
  have e : (List.range n).filter (fun _ => true) = List.range n := by simp
  rw [e] at h
  exact h
/-- [elt for tg in iter if test] -/
theorem ge_lcif {elt tg iter test : Expr} {scope : Scope} {own : List (Str × Nat)} {n : Nat} {y : Nat → D} {f : D → Env → Env} {dom : D → Prop} {keep : Nat → Bool} {g : Nat → D} (hc : X.calm = true) (hN : X.N.Nodup) (G : GI C X O ρ I tg iter J n y)
    (ok : BlkOk X.N X.env.scope scope own) (T : ∀ b O', Tg C (ibk X scope b) O' tg (own.map (·.2)) f dom) (hd : ∀ i, i < n → dom (y i)) (hn : n ≤ 100000)
    (ht : ∀ b O' I', (∀ a, O a → O' a) → ∀ i, i < n → GT C (ibk X scope b) O' (f (y i) (wipeR ρ (own.map (·.2)))) I' test I' (· = keep i))
    (he : ∀ b O' I', (∀ a, O a → O' a) → ∀ i, i < n → keep i = true → GE C (ibk X scope b) O' (f (y i) (wipeR ρ (own.map (·.2)))) I' elt I' (Is (g i))) (hs : ∀ x, foldedSetIterable iter X.env x = pure x := by intro _; rfl) :
    GE C X O ρ I (.ListComp elt [⟨tg, iter, [test], 0⟩] scope pos) J (Is (.lst (((List.range n).filter keep).map g))) :=
  lc_core (keep := keep) (g := g) (pos := pos) hc hN G ok T hd hn (tt := fun σ H Q => ∀ b, ptw (ibk X scope b) test σ H Q) (fun b => ⟨fun pins s σ H Q I h => (pts_one (X := ibk X scope b) (pt_tw)).run pins s σ H Q I (h b)⟩)
    (fun O' I' sub i hi σ H Q w dn ii k b => ht b O' I' sub i hi σ H Q w dn ii k) he hs

/-! ### statements -/
structure Stt (C : Addr) (O : Addr → Prop) (H0 H : Hp) (σ : L2.St) (ρ : Env) (I : Asr) : Prop where
  wf : Wf O H
  den : Den C O H σ ρ
  asr : I.P H
  ext : Ext O H0 H
section
variable {H0 H : Hp} {σ : L2.St} {De : Ends} {rest body els : List Stmt} {st : Stmt}
theorem gq_cons (h : sw X st { De with nx := ssw X rest De } σ H) : ssw X (st :: rest) De σ H := ssw_of (pss_cons ps_tw pss_tw) h
theorem gq_nil (h : De.nx σ H) : ssw X [] De σ H := ssw_of pss_nil h
theorem gq_of {t : TS} (hp : PS X st t) (h : t { De with nx := ssw X rest De } σ H) : ssw X (st :: rest) De σ H := gq_cons (sw_of hp h)
theorem Stt.ge (S : Stt C O H0 H σ ρ I) (h : Ev C O ρ I te J Φ) {Q : VK} (k : ∀ v H' d, Φ d → Dn C O H' v d → Stt C O H0 H' σ ρ J → Q v H') : te σ H Q :=
  h σ H Q S.wf S.den S.asr fun v H' d e w j p n => k v H' d p n ⟨w, S.den.ext e, j, S.ext.trans e⟩
theorem Stt.gt {t : TT} {Φ : Bool → Prop} (S : Stt C O H0 H σ ρ I) (h : EvT C O ρ I t J Φ) {Q : Bool → Hp → Prop} (k : ∀ b H', Φ b → Stt C O H0 H' σ ρ J → Q b H') : t σ H Q :=
  h σ H Q S.wf S.den S.asr fun b H' e w j p => k b H' p ⟨w, S.den.ext e, j, S.ext.trans e⟩
theorem Stt.set (S : Stt C O H0 H σ ρ I) {v : V} (i : Nat) (n : Dn C O H v d) : Stt C O H0 H (σ.set i (some v)) (ρ.set i (some d)) I := ⟨S.wf, S.den.set i n, S.asr, S.ext⟩
theorem gq_set {p' : Pos} (i : Nat) (S : Stt C O H0 H σ ρ I) (hN : X.N.Nodup) (h : GE C X O ρ I e J Φ) (k : ∀ σ' H' d, Φ d → Stt C O H0 H' σ' (ρ.set i (some d)) J → ssw X rest De σ' H') (hi : X.N[i]? = some x := by rfl) (hx : Loc X.env.scope x := by first | exact .inl rfl | exact .inr rfl)
    (hs : swapsWith e (some (.Name x p')) pos.line X.env = pure false := by rfl) (hf : X.fn x = true ∨ X.env.scope.names.lookup x = some .local := by first | exact .inl rfl | exact .inr rfl | assumption) :
    ssw X (.Assign [.Name x p'] e pos :: rest) De σ H := gq_of (ps_set (i := i) hN hi hx pe_tw hs hf) (S.ge h fun v H' d p n S' => k _ _ d p (S'.set i n))
theorem gq_par {p1 p2 pt : Pos} {kt k2 : Nat} {pt2 : Pos} {x y : Str} (i j : Nat) (S : Stt C O H0 H σ ρ I) (hc : X.calm = true) (hN : X.N.Nodup) (h : GA C X O ρ I [a, b] J (· = [d1, d2])) (k : ∀ σ' H', Stt C O H0 H' σ' ((ρ.set i (some d1)).set j (some d2)) J → ssw X rest De σ' H')
    (hi : X.N[i]? = some x := by rfl) (hj : X.N[j]? = some y := by rfl) (hij : i ≠ j := by decide) (hx : X.env.scope.names.lookup x = some .local := by rfl) (hy : X.env.scope.names.lookup y = some .local := by rfl)
    (hw : swappedStores [.Tuple [.Name x p1, .Name y p2] kt pt] (.Tuple [a, b] k2 pt2) X.env = pure (some [x, y]) := by rfl) (hs : swapsWithSole [.Tuple [.Name x p1, .Name y p2] kt pt] (.Tuple [a, b] k2 pt2) pos.line X.env = pure false := by rfl) :
    ssw X (.Assign [.Tuple [.Name x p1, .Name y p2] kt pt] (.Tuple [a, b] k2 pt2) pos :: rest) De σ H := gq_of (ps_par (i := i) (j := j) hc hN hi hj hij hx hy pa_tw hw hs) (h σ H _ S.wf S.den S.asr fun vs H' zs e w jj p n => by
      cases p
      obtain ⟨v1, v2, rfl, n1, n2⟩ := two_dn n
      exact ⟨v1, v2, rfl, k _ _ ⟨w, ((S.den.ext e).set i n1).set j n2, jj, S.ext.trans e⟩⟩)
/-- a, b = e, e a pair -/
theorem gq_two {tg : Expr} {vs : List Nat} {f : D → Env → Env} {dom : D → Prop} (S : Stt C O H0 H σ ρ I) (T : Tg C X O tg vs f dom) (h : GE C X O ρ I e J Φ) (hd : ∀ d, Φ d → dom d) (k : ∀ σ' H' d, Φ d → Stt C O H0 H' σ' (f d ρ) J → ssw X rest De σ' H')
    (hs : swapsWithSole [tg] e pos.line X.env = pure false := by rfl) (hw : swappedStores [tg] e X.env = pure none := by rfl) (h1 : (assignEach [tg] X.env).map (·.2) = [assign tg X.env] := by rfl) : ssw X (.Assign [tg] e pos :: rest) De σ H := by
  refine gq_of (ps_asg pe_tw pg_gw hs hw h1) (S.ge h fun v H' d p n S' => ?_)
  exact T.ok σ H' ρ v d _ S'.wf S'.den n (hd d p) fun σ' dn _ => k σ' H' d p ⟨S'.wf, dn, S'.asr, S'.ext⟩
theorem gq_ret (S : Stt C O H0 H σ ρ I) (h : GE C X O ρ I e J Φ) (k : ∀ v H' d, Φ d → Dn C O H' v d → Ext O H0 H' → J.P H' → Wf O H' → De.rt v H') : ssw X (.Return (some e) pos :: rest) De σ H := gq_of (ps_ret pe_tw) (S.ge h fun v H' d p n S' => k v H' d p n S'.ext S'.asr S'.wf)
theorem gq_drop (S : Stt C O H0 H σ ρ I) (h : GE C X O ρ I e J Φ) (k : ∀ H' d, Φ d → Stt C O H0 H' σ ρ J → ssw X rest De σ H') (hs : swapsWith e none pos.line X.env = pure false := by rfl) : ssw X (.Expr e pos :: rest) De σ H := gq_of (ps_expr pe_tw hs) (S.ge h fun v H' d p n S' => k H' d p S')
theorem gq_if {k : Bool} {c : Expr} (S : Stt C O H0 H σ ρ I) (h : GT C X O ρ I c J (· = k)) (h1 : k = true → ∀ H', Stt C O H0 H' σ ρ J → ssw X body { De with nx := ssw X rest De } σ H') (h2 : k = false → ∀ H', Stt C O H0 H' σ ρ J → ssw X els { De with nx := ssw X rest De } σ H') :
    ssw X (.If c body els pos :: rest) De σ H := gq_of (ps_if pt_tw pss_tw pss_tw) (S.gt h fun b H' p S' => by
      cases p
      cases k with
      | true => exact h1 rfl H' S'
      | false => exact h2 rfl H' S')
theorem gq_ifn {Φ : Bool → Prop} {c : Expr} (S : Stt C O H0 H σ ρ I) (h : GT C X O ρ I c J Φ) (h1 : Φ true → ∀ H', Stt C O H0 H' σ ρ J → ssw X body { De with nx := ssw X rest De } σ H') (h2 : Φ false → ∀ H', Stt C O H0 H' σ ρ J → ssw X els { De with nx := ssw X rest De } σ H') :
    ssw X (.If c body els pos :: rest) De σ H := gq_of (ps_if pt_tw pss_tw pss_tw) (S.gt h fun b H' p S' => by
      cases b with
      | true => exact h1 p H' S'
      | false => exact h2 p H' S')
theorem gq_break (h : De.bk σ H) : ssw X (.Break pos :: rest) De σ H := gq_of ps_break h
/-- a for -/
theorem gq_for {tg iter : Expr} {n : Nat} {y : Nat → TM.D} {vs : List Nat} {f : TM.D → Env → Env} {dom : TM.D → Prop} (S : Stt C O H0 H σ ρ I) (hp : PassesOwn (model X.prog X.w) X.A X.env X.xe) (hc : X.calm = true) (G : GI C X O ρ I tg iter J n y) (T : Tg C X O tg vs f dom) (hd : ∀ i, i < n → dom (y i)) (P : Nat → Env → Asr → Prop) (h0 : P 0 ρ J)
    (step : ∀ H1, Ext O H0 H1 → ∀ k ρ' I' σ' H', k < n → P k ρ' I' → Stt C O H1 H' σ' (f (y k) ρ') I' → ssw X body { De with nx := fun σ2 H2 => ∃ ρ2 I2, P (k + 1) ρ2 I2 ∧ Stt C O H1 H2 σ2 ρ2 I2, ct := fun σ2 H2 => ∃ ρ2 I2, P (k + 1) ρ2 I2 ∧ Stt C O H1 H2 σ2 ρ2 I2, bk := ssw X rest De } σ' H')
    (hend : ∀ ρ' I' σ' H', P n ρ' I' → Stt C O H0 H' σ' ρ' I' → ssw X rest De σ' H') (hs : ∀ x, foldedSetIterable iter X.env x = pure x := by intro _; rfl) : ssw X (.For tg iter body [] pos :: rest) De σ H := by
  obtain ⟨wi, hpi, hG⟩ := G.ex
  refine gq_of (ps_for hp hc hpi pg_gw pss_tw hs) (hG σ H _ S.wf S.den S.asr fun Jt H1 e1 w1 j1 W => ?_)
  have sub : ∀ a, O a → O a ∨ H1 a = none := fun a h => .inl h
  refine for_it (J := Jt) (n := n) (G := fun H' => Ext O H1 H' ∧ Wf O H') (Y := fun i H2 x H3 => Same H2 H3 ∧ Dn C O H3 x (y i)) ⟨fun i H' hi h => W.go O sub i H' hi h.1, fun H' h => W.stop O sub H' h.1, fun i H' x H2 hi h yy => W.yld O sub i H' x H2 hi h.1 h.2 yy⟩
    (fun i σ' H' => ∃ ρ' I', P i ρ' I' ∧ Stt C O H1 H' σ' ρ' I') ⟨ρ, J, h0, w1, S.den.ext e1, j1, Ext.refl⟩ (fun i σ' H' _ ⟨ρ', I', _, S'⟩ => ⟨S'.ext, S'.wf⟩) ?_ ?_
  · rintro i xv σ' H' H2 hi ⟨ρ', I', pp, S'⟩ ⟨sm, nn⟩
    refine T.ok σ' H2 ρ' xv (y i) _ (S'.wf.same sm) (S'.den.ext (Ext.of sm)) nn (hd i hi) fun σ2 dn _ => ?_
    exact step H1 (S.ext.trans e1) i ρ' I' σ2 H2 hi pp ⟨S'.wf.same sm, dn, I'.st sm S'.asr, S'.ext.trans (Ext.of sm)⟩
  · rintro σ' H' ⟨ρ', I', pp, S'⟩
    exact hend ρ' I' σ' H' pp ⟨S'.wf, S'.den, S'.asr, (S.ext.trans e1).trans S'.ext⟩
end
end
end TM
/-! ## TmMore -/
set_option Elab.async false
set_option linter.all false
set_option maxRecDepth 100000
set_option maxHeartbeats 4000000
/-! TmMore: enumerate of a tuple, zip, a tuple backwards, a tuple repeated. -/
namespace TM
open PySem L2
/-! ### enumerate(tuple) -/
def IteT (Kf : PySem.W.Frag) (a : Addr) : It where
  go := fun i H => ∃ (xs : List V) (x : V), SqT Kf H a xs ∧ xs[i]? = some x
  yld := fun i H v H' => ∃ q x, v = .ref q ∧ H q = none ∧ H' = upd H q (.tup [.int (i : Nat), x]) ∧ ∀ xs, SqT Kf H a xs → xs[i]? = some x
  stop := fun i H => ∃ xs : List V, SqT Kf H a xs ∧ xs.length ≤ i
section
open PySem.Spec PyProof.Rows
theorem meets_enumT (t : Addr) (its : Array Value) : Meets (Builtin.«enumerate.__new__» ⟨[.type "enumerate", .ref t], []⟩) (fun _ R s => s.heap.IsTuple t its ∧
      R (.ok (.ret (.ref (s.heap.push { cls := .type "tuple_iterator", data := .fields #[.ref t, .int 0 0] }).objs.size)))
        { s with heap := (s.heap.push { cls := .type "tuple_iterator", data := .fields #[.ref t, .int 0 0] }).push { cls := .type "enumerate", data := .fields #[.none, .bool false, .ref s.heap.objs.size, rawInt 0, .none, .none] } }) := .of_wp fun prog w A R st hyp => by
    obtain ⟨hp, gs, dr, tk, oss⟩ := st
    obtain ⟨ht, hR⟩ := hyp
    have hsub := sub_enumerate
    have q1 : ∀ {A' : Around} {E : Value → Shared → Prop} {Q : Value → Shared → Prop}, Q (.ref hp.objs.size) (Shared.mk (hp.push { cls := .type "tuple_iterator", data := .fields #[.ref t, .int 0 0] }) gs dr tk oss) → wpAny (model prog w) A' (pyIter (.ref t)) Q E ⟨hp, gs, dr, tk, oss⟩ :=
      fun q => (begins_tuple t its).iter prog w _ _ ⟨hp, gs, dr, tk, oss⟩ _ ht q
    wp_walk using q1
    refine wpAny_stack_any fun stk => wpAny_pure ?_
    split
    · rename_i cc _ _ _ _ _
      cases (cc == Value.type "enumerate")
      · wp_walk using q1
        exact ⟨_, rfl, hR⟩
      · wp_walk using q1
        exact ⟨_, rfl, hR⟩
    · wp_walk using q1
      exact ⟨_, rfl, hR⟩
theorem call_enumT {prog : Program} {w : World} {A : Around} {E : Value → Shared → Prop} {s : Shared} {t : Addr} {its : Array Value} {Q : Value → Shared → Prop} (hT : s.heap.IsTuple t its)
    (h : ∀ h', IsEnum h' (s.heap.objs.size + 1) s.heap.objs.size 0 .none → h'.IsTupleIter s.heap.objs.size t 0 →
      (∀ b o, s.heap.get? b = some o → h'.get? b = some o) → Q (.ref (s.heap.objs.size + 1)) { s with heap := h' }) :
    wpAny (model prog w) A (call (.type "enumerate") [.ref t]) Q E s := by
  refine callType_new F.called_enumerate (by decide) (F.typeCall_enumerate_1 _) (F.newCall_enumerate_1 _) (fun ob => F.args_object_init_2 ob _) F.entry_enumerate_new (meets_enumT t its) ⟨hT, ?_⟩
  have hz : (s.heap.push { cls := .type "tuple_iterator", data := .fields #[.ref t, .int 0 0] }).objs.size = s.heap.objs.size + 1 := Heap.size_push ..
  show _ ∧ _
  rw [hz]
  have he : IsEnum ((s.heap.push { cls := .type "tuple_iterator", data := .fields #[.ref t, .int 0 0] }).push { cls := .type "enumerate", data := .fields #[.none, .bool false, .ref s.heap.objs.size, rawInt 0, .none, .none] })
      (s.heap.objs.size + 1) s.heap.objs.size 0 .none := by
    have z := Heap.get?_push_size (s.heap.push { cls := .type "tuple_iterator", data := .fields #[.ref t, .int 0 0] }) (o := { cls := .type "enumerate", data := .fields #[.none, .bool false, .ref s.heap.objs.size, rawInt 0, .none, .none] }) rfl
    rw [hz] at z
    exact z
  exact ⟨⟨_, he, rfl⟩, h _ he (Exists.intro { cls := .type "tuple_iterator", data := .fields #[.ref t, .int 0 0] } ⟨Heap.get?_push_of_some _ (Heap.get?_push_size _ rfl), rfl, rfl⟩) fun b o x => Heap.get?_push_of_some _ (Heap.get?_push_of_some _ x)⟩
theorem turn_enumT {P : Program} {w : World} {Kf : PySem.W.Frag} {elts : List Expr} {kk : Nat} {tpos : Pos} (a e it : Addr) :
    Turn P w Kf (.Tuple elts kk tpos) (IteT Kf a) [e, it] e (fun i h => (∃ old, IsEnum h e it ((i : Nat) : Int) old) ∧ h.IsTupleIter it a i ∧ e ≠ it ∧ a ≠ it ∧ a ≠ e) where
  mem := by simp
  obj := fun i h st b hb => by
    obtain ⟨⟨old, he⟩, ⟨oi, ho, hcl, hda⟩, _⟩ := st
    have eb : b = e ∨ b = it := by simpa using hb
    rcases eb with z | z
    · rw [z]
      exact ⟨_, he, fun v q => nomatch q⟩
    · rw [z]
      exact ⟨oi, ho, fun v q => by rw [hda] at q; cases q⟩
  keep := fun i h h' st k => by
    obtain ⟨⟨old, he⟩, hi, n1, n2⟩ := st
    exact ⟨⟨old, k e (by simp) _ he⟩, hi.at fun o q => k it (by simp) o q, n1, n2⟩
  item := by
    intro X hP hw hK hcalm i pins s σ H E I hf st hg
    subst hP hw hK
    obtain ⟨⟨old, he⟩, hit, hne, hai, hae⟩ := st
    obtain ⟨xs, x, hq, hx⟩ := hg
    obtain ⟨its, rv, pt, hz⟩ := I.tuple hq
    obtain ⟨u, hu, ru⟩ := rv.get hx
    have hel : e < s.heap.objs.size := Heap.lt_size he
    have hil : it < s.heap.objs.size := by
      obtain ⟨_, q, _⟩ := hit
      exact Heap.lt_size q
    have hT : s.heap.IsTuple a its.toArray := pt
    refine wpAny_pyNext_enum_itemC (Draws.tuple (prog := X.prog) (w := X.w) (A := X.A.in1) (I.ok.hd hcalm) it a hai its.toArray) he ⟨hit, hT⟩ (i := i) (by rw [List.size_toArray]; exact (List.getElem?_eq_some_iff.mp hu).1) hne (by simp [hne, Ne.symm hae]) fun y h' tk hy hout hst hnew hsz hk => ?_
    have ey : y = u := by
      have z : its.toArray[i]? = some u := by simpa using hu
      rw [z] at hy
      exact (Option.some.inj hy).symm
    subst ey
    refine ⟨_, rfl, wpAny_letOwnedTupleGo_enum (s := { s with heap := h', toks := tk + 1 }) hout fun h2 he2 sb => ?_⟩
    have hT2 : h2.get? s.heap.objs.size = some { cls := .type "tuple", data := .seq #[.int (i : Nat) tk, y] } := (sb.2 _ (Nat.ne_of_gt hel)).trans hnew
    have new : ObjOk X.prog X.w (upd H s.heap.objs.size (.tup [.int (i : Nat), x])) h2 s.heap.objs.size (.tup [.int (i : Nat), x]) :=
      ⟨by show 2 ≤ sizeLine; decide, [.int i tk, y], .cons ⟨_, rfl⟩ (.cons ru .nil), ⟨_, hT2, rfl, _, rfl⟩⟩
    have I1 : Inv X pins σ (upd H s.heap.objs.size (.tup [.int (i : Nat), x])) { s with heap := h2, toks := tk + 1 } :=
      I.turnedNew (ch := [e, it]) (fun b ob hb q => (sb.2 b fun z => hb (by simp [z])).trans (hk b ob (fun z => hb (by simp [z])) (fun z => hb (by simp [z])) q)) hf (Nat.le_refl _) new
    refine ⟨.ref s.heap.objs.size, _, I1, rfl, ⟨_, x, rfl, I.hok.fresh (Nat.le_refl _), rfl, fun ys hy => by rw [I.tuple_inj hy hq]; exact hx⟩, ⟨⟨y, ?_⟩, hst.1.at fun o q => (sb.2 it (Ne.symm hne)).trans q, hne, hai, hae⟩, fun b hb => ?_⟩
    · have e1 : ((i + 1 : Nat) : Int) = (i : Int) + 1 := by omega
      rw [e1]
      exact he2
    · have hb' : b < s.heap.objs.size := by
        have e' : b = e ∨ b = it := by simpa using hb
        rcases e' with z | z
        · rw [z]; exact hel
        · rw [z]; exact hil
      rw [upd_ne (Nat.ne_of_lt hb')]
      exact (hf b hb).1
  done := by
    intro X hP hw hK hcalm i pins s σ H E I hf st hg
    subst hP hw hK
    obtain ⟨⟨old, he⟩, hit, hne, hai, hae⟩ := st
    obtain ⟨xs, hq, hx⟩ := hg
    obtain ⟨its, rv, pt, hz⟩ := I.tuple hq
    obtain ⟨f0, f1, f2, f3, f4, f5⟩ := hf it (by simp)
    have hl := rv.length
    have hT : s.heap.IsTuple a its.toArray := pt
    have D : Draws X.prog X.w X.A.in1 it [it, a] 0 (fun _ _ => True) (fun _ h => h.IsTupleIter it a i ∧ h.IsTuple a its.toArray) :=
      ⟨fun _ _ st => st.1.elim fun o z => ⟨o, z.1⟩, fun _ _ _ st hk => ⟨st.1.at fun o q => hk it (by simp) o q, st.2.at fun o q => hk a (by simp) o q⟩, fun _ _ _ _ h => absurd h (Nat.not_lt_zero _), fun s' Q' E' st hE => wpAny_nextOf_tuple_end (I.ok.hd hcalm) st.1 st.2 (by simp; omega) hE⟩
    exact wpAny_pyNext_enum_endD D he ⟨hit, hT⟩ fun h' eb => ⟨rfl, I.turned (t' := s.toks) (fun b o hb q => eb b o hb q) f0 f1 f3 f4 f5⟩
  self := fun A i s Q E st h => by
    obtain ⟨⟨_, he⟩, _⟩ := st
    exact wpAny_pyIter_enum he h
end

section
open PySem.Spec PyProof.Rows
def iEnumT (Kf : PySem.W.Frag) (ta : TA) : TI := fun σ H R => ta σ H fun vs H1 => ∃ a xs, vs = [.ref a] ∧ SqT Kf H1 a xs ∧ R (IteT Kf a) H1
theorem pi_enumT {X : Cx} {e : Expr} {ta : TA} {p pos tpos : Pos} {elts : List Expr} {kk : Nat} (hg : Gl X "enumerate") (hm : X.mg "enumerate" = none) (ha : PA X [e] ta) (hs : starEach [e] X.env = [(false, eval e X.env)] := by rfl) :
    PI X (.Tuple elts kk tpos) (.Call (.Name "enumerate" p) [e] [] pos) (iEnumT X.K ta) := by
  refine ⟨fun pins s σ H R I h => Call_ (ld_blt I hg hm boot_enumerate (PyProof.Rows.callWith_type1 (thn (ha.run pos pins s σ H _ I h) fun us s1 ⟨vs, H1, I1, r1, q1⟩ => ?_) hs rfl))⟩
  obtain ⟨a, xs, ex, hq, q⟩ := q1
  subst ex
  cases r1 with
  | cons r rr =>
    cases rr
    cases r
    obtain ⟨its, rv, pt, hz⟩ := I1.tuple hq
    have hT : s1.heap.IsTuple a its.toArray := pt
    have hal : a < s1.heap.objs.size := by
      obtain ⟨o, ho, _⟩ := hT
      exact Heap.lt_size ho
    refine call_enumT hT fun h' he hit hk => wpAny_pyIter_enum he ?_
    have I2 : Inv X pins σ H1 { s1 with heap := h' } := I1.kept (t' := s1.toks) hk
    refine ⟨s1.heap.objs.size + 1, [s1.heap.objs.size + 1, s1.heap.objs.size], _, _, H1, rfl, I2, turn_enumT a (s1.heap.objs.size + 1) s1.heap.objs.size,
      ⟨⟨.none, he⟩, hit, Nat.succ_ne_self _, Nat.ne_of_lt hal, Nat.ne_of_lt (Nat.lt_succ_of_lt hal)⟩, fun b hb => ?_, q⟩
    have eb : b = s1.heap.objs.size + 1 ∨ b = s1.heap.objs.size := by simpa using hb
    have hle : s1.heap.objs.size ≤ b := by
      rcases eb with z | z
      · rw [z]
        exact Nat.le_succ _
      · rw [z]
        exact Nat.le_refl _
    exact I1.fpOk hle (I1.hok.fresh hle)
end
section
variable {C : Addr} {X : Cx} {O : Addr → Prop} {ρ : Env} {I J K L : Asr} {Φ Φa Ψ : D → Prop} {e a b c : Expr} {es : List Expr} {pos p : Pos} {x : Str} {d d1 d2 d3 r : D} {ds es1 : List D}
theorem rfs {H1 H : Hp} {O' : Addr → Prop} {q : Addr} {u : HO} (ho : ∀ a, O' a → O a ∨ H1 a = none) (n : ¬ O q) (r : H1 q = some u) (e : Ext O' H1 H) : H q = some u := e _ _ (fun z => (ho _ z).elim n (some_ne r)) r
theorem gi_enumT {elts : List Expr} {kk : Nat} {tpos : Pos} (hm : X.mg "enumerate" = none) (ha : GE C X O ρ I e J (Is (.tup ds))) (hg : Gl X "enumerate" := by rfl) (hs : starEach [e] X.env = [(false, eval e X.env)] := by rfl) :
    GI C X O ρ I (.Tuple elts kk tpos) (.Call (.Name "enumerate" p) [e] [] pos) J ds.length (fun i => .tup [.int (i : Nat), ds.getD i .non]) := by
  refine ⟨_, pi_enumT hg hm (pa_cons pe_tw pa_nil hs) hs, fun σ H R w dn i k => ha σ H _ w dn i fun v H1 z e1 w1 j1 p1 n1 => ?_⟩
  cases p1
  cases n1 with
  | @tup a0 xs ds0 n r t =>
    refine ⟨a0, xs, rfl, SqT.of r, k _ H1 e1 w1 j1 ⟨fun O' ho i H hi e => ?_, fun O' ho H e => ?_, fun O' ho i H x H' hi e wf y => ?_⟩⟩
    · exact ⟨xs, xs[i]'(by rw [t.length]; exact hi), SqT.of (rfs ho n r e), by simp⟩
    · exact ⟨xs, SqT.of (rfs ho n r e), by rw [t.length]; exact Nat.le_refl _⟩
    · obtain ⟨q, x0, rfl, hq, rfl, hx⟩ := y
      have hx0 := hx xs (SqT.of (rfs ho n r e))
      obtain ⟨d, hd, nn⟩ := t.get' hx0
      rw [List.getD_eq_getElem?_getD, hd]
      exact ⟨same_new hq, .tup (own_not wf hq) upd_same (.cons (.int _) (.cons (((nn.own ho).ext e).ext (Ext.of (same_new hq))) .nil))⟩
theorem gi_zipT {elts : List Expr} {kk : Nat} {tpos : Pos} {es : List D} (hm : X.mg "zip" = none) (ha : GE C X O ρ I a J (Is (.tup ds))) (hb : GE C X O ρ J b K (Is (.tup es))) (hl : ds.length = es.length) (hg : Gl X "zip" := by rfl)
    (hs : starEach [a, b] X.env = (false, eval a X.env) :: starEach [b] X.env := by rfl) (hs2 : starEach [b] X.env = (false, eval b X.env) :: starEach [] X.env := by rfl) (hpl : (backTo pos (starEach [b] X.env)).any (·.1) = false := by rfl) :
    GI C X O ρ I (.Tuple elts kk tpos) (.Call (.Name "zip" p) [a, b] [] pos) K ds.length (fun i => .tup [ds.getD i .non, es.getD i .non]) := by
  refine ⟨_, RZ.pi_zipA hg hm (pa_cons pe_tw (pa_cons pe_tw pa_nil hs2) hs) hs hpl, fun σ H R w dn i k => ha σ H _ w dn i fun v H1 z e1 w1 j1 p1 n1 => ?_⟩
  cases p1
  refine hb σ H1 _ w1 (dn.ext e1) j1 fun v2 H2 z e2 w2 j2 p2 n2 => ?_
  cases p2
  cases n1.ext e2 with
  | @tup a0 xs ds0 n r t =>
    cases n2 with
    | @tup b0 ys es0 m r2 t2 =>
      refine ⟨a0, b0, xs, ys, rfl, .inr ⟨SqT.of r, SqT.of r2, k _ H2 (e1.trans e2) w2 j2 ⟨fun O' ho i H hi e => ?_, fun O' ho H e => ?_, fun O' ho i H x H' hi e wf y => ?_⟩⟩⟩
      · exact ⟨xs, ys, xs[i]'(by rw [t.length]; exact hi), ys[i]'(by rw [t2.length, ← hl]; exact hi), SqT.of (rfs ho n r e), SqT.of (rfs ho m r2 e), by simp, by simp⟩
      · exact ⟨xs, ys, SqT.of (rfs ho n r e), SqT.of (rfs ho m r2 e), .inl (by rw [t.length]; exact Nat.le_refl _)⟩
      · obtain ⟨q, x0, y0, rfl, hq, rfl, hx, hy⟩ := y
        obtain ⟨d, hd, nn⟩ := t.get' (hx xs (SqT.of (rfs ho n r e)))
        obtain ⟨d', hd', nn'⟩ := t2.get' (hy ys (SqT.of (rfs ho m r2 e)))
        rw [List.getD_eq_getElem?_getD, hd, List.getD_eq_getElem?_getD, hd']
        exact ⟨same_new hq, .tup (own_not wf hq) upd_same (.cons (((nn.own ho).ext e).ext (Ext.of (same_new hq))) (.cons (((nn'.own ho).ext e).ext (Ext.of (same_new hq))) .nil))⟩
theorem gi_zipL {elts : List Expr} {kk : Nat} {tpos : Pos} {es : List D} (hm : X.mg "zip" = none) (ha : GE C X O ρ I a J (Is (.lst ds))) (hb : GE C X O ρ J b K (Is (.lst es))) (hl : ds.length = es.length) (hg : Gl X "zip" := by rfl)
    (hs : starEach [a, b] X.env = (false, eval a X.env) :: starEach [b] X.env := by rfl) (hs2 : starEach [b] X.env = (false, eval b X.env) :: starEach [] X.env := by rfl) (hpl : (backTo pos (starEach [b] X.env)).any (·.1) = false := by rfl) :
    GI C X O ρ I (.Tuple elts kk tpos) (.Call (.Name "zip" p) [a, b] [] pos) K ds.length (fun i => .tup [ds.getD i .non, es.getD i .non]) := by
  refine ⟨_, RZ.pi_zipA hg hm (pa_cons pe_tw (pa_cons pe_tw pa_nil hs2) hs) hs hpl, fun σ H R w dn i k => ha σ H _ w dn i fun v H1 z e1 w1 j1 p1 n1 => ?_⟩
  cases p1
  refine hb σ H1 _ w1 (dn.ext e1) j1 fun v2 H2 z e2 w2 j2 p2 n2 => ?_
  cases p2
  cases n1.ext e2 with
  | @lst a0 xs ds0 n r t =>
    cases n2 with
    | @lst b0 ys es0 m r2 t2 =>
      refine ⟨a0, b0, xs, ys, rfl, .inl ⟨SqL.of r, SqL.of r2, k _ H2 (e1.trans e2) w2 j2 ⟨fun O' ho i H hi e => ?_, fun O' ho H e => ?_, fun O' ho i H x H' hi e wf y => ?_⟩⟩⟩
      · exact ⟨xs, ys, xs[i]'(by rw [t.length]; exact hi), ys[i]'(by rw [t2.length, ← hl]; exact hi), SqL.of (rfs ho n r e), SqL.of (rfs ho m r2 e), by simp, by simp⟩
      · exact ⟨xs, ys, SqL.of (rfs ho n r e), SqL.of (rfs ho m r2 e), .inl (by rw [t.length]; exact Nat.le_refl _)⟩
      · obtain ⟨q, x0, y0, rfl, hq, rfl, hx, hy⟩ := y
        obtain ⟨d, hd, nn⟩ := t.get' (hx xs (SqL.of (rfs ho n r e)))
        obtain ⟨d', hd', nn'⟩ := t2.get' (hy ys (SqL.of (rfs ho m r2 e)))
        rw [List.getD_eq_getElem?_getD, hd, List.getD_eq_getElem?_getD, hd']
        exact ⟨same_new hq, .tup (own_not wf hq) upd_same (.cons (((nn.own ho).ext e).ext (Ext.of (same_new hq))) (.cons (((nn'.own ho).ext e).ext (Ext.of (same_new hq))) .nil))⟩
end

/-! ### isinstance -/
/-- what the written part says of the class at C -/
structure PolyC (Kf : PySem.W.Frag) (C : Addr) : Prop where
  cl : Cls Kf C
  nn : NoAttr Kf C numF
  ha : PySem.W.findIn Kf (.ref C) "__class__" = some (some (.builtin "object.__class__"))
  hn : PySem.W.specialIn Kf (.builtin "object.__class__") "__get__" = some (some (.builtin "getset_descriptor.__get__"))
  htk : PySem.W.takesIn Kf (.builtin "object.__class__") = some true
  hm : PySem.W.mroIn Kf C (.type "object") = some true
  no : ∀ T ∈ ["NoneType", "bool", "int", "str", "list", "tuple", "dict"], PySem.W.kitOne Kf (.type T) (.ref C) = some false
/-- the type's name -/
def tyN : D → Option String
  | .non => some "NoneType" | .bl _ => some "bool" | .int _ => some "int" | .str _ => some "str" | .lst _ => some "list" | .tup _ => some "tuple" | .dic => some "dict"
  | _ => none
theorem ty_dn {Kf : PySem.W.Frag} {C : Addr} {O : Addr → Prop} {H : Hp} {v : V} {d : D} {T : String} (n : Dn C O H v d) (h : tyN d = some T) : TyX Kf H v (.type T) := by
  cases n with
  | non => cases h; exact .base .non
  | bl b => cases h; exact .base (.bl b)
  | int i => cases h; exact .base (.int i)
  | str x => cases h; exact .base (.str x)
  | lst _ r _ => cases h; exact .base (.lst r)
  | tup _ r _ => cases h; exact .base (.tup r)
  | dic _ r => cases h; exact .base (.dK r)
  | poly => cases h
  | val => cases h
section
variable {C : Addr} {X : Cx} {O : Addr → Prop} {ρ : Env} {I J K L : Asr} {Φ Φa Ψ : D → Prop} {e a b c : Expr} {es : List Expr} {pos p p2 : Pos} {x : Str} {d d1 d2 d3 r : D} {ds es1 : List D}
theorem ge_isi {T S : String} {k : Bool} (hm : X.mg "isinstance" = none) (ha : GE C X O ρ I e J (Is d)) (hb : GE C X O ρ J a K (Is (.val (.ty S)))) (ht : tyN d = some T) (hk : kitB T S = some k) (hg : Gl X "isinstance" := by rfl)
    (he : starEach [e, a] X.env = (false, eval e X.env) :: starEach [a] X.env := by rfl) (he2 : starEach [a] X.env = (false, eval a X.env) :: starEach [] X.env := by rfl) (hpl : (backTo pos (starEach [a] X.env)).any (·.1) = false := by rfl) :
    GE C X O ρ I (.Call (.Name "isinstance" p) [e, a] [] pos) K (Is (.bl k)) := ge_blt1 call_isi hm PyProof.Rows.boot_isinstance (ga_two ha hb he he2) (fun H vs Q w nl k' => by
      obtain ⟨v, v2, rfl, n, n2⟩ := two_dn nl
      cases n2
      exact ⟨v, .ty S, .type T, .type S, k, rfl, .ty S, ty_dn n ht, kit_ty hk, k' _ H _ (Same.refl H) rfl (.bl _)⟩) hg (by decide) (by decide) he hpl
/-- isinstance(e, (S1, S2)) -/
theorem ge_isi2 {T S1 S2 : String} {k1 k2 : Bool} (hm : X.mg "isinstance" = none) (ha : GE C X O ρ I e J (Is d)) (hb : GE C X O ρ J a K (Is (.tup [.val (.ty S1), .val (.ty S2)]))) (ht : tyN d = some T) (hk1 : kitB T S1 = some k1) (hk2 : kitB T S2 = some k2) (hg : Gl X "isinstance" := by rfl)
    (he : starEach [e, a] X.env = (false, eval e X.env) :: starEach [a] X.env := by rfl) (he2 : starEach [a] X.env = (false, eval a X.env) :: starEach [] X.env := by rfl) (hpl : (backTo pos (starEach [a] X.env)).any (·.1) = false := by rfl) :
    GE C X O ρ I (.Call (.Name "isinstance" p) [e, a] [] pos) K (Is (.bl (k1 || k2))) := ge_blt1 call_isiT hm PyProof.Rows.boot_isinstance (ga_two ha hb he he2) (fun H vs Q w nl k' => by
      obtain ⟨v, v2, rfl, n, n2⟩ := two_dn nl
      cases n2 with
      | tup nn r t =>
        obtain ⟨w1, w2, rfl, m1, m2⟩ := two_dn t
        cases m1
        cases m2
        refine ⟨v, _, _, .type T, [.type S1, .type S2], k1 || k2, rfl, r, .cons (.ty S1) (.cons (.ty S2) .nil), ty_dn n ht, ?_, k' _ H _ (Same.refl H) rfl (.bl _)⟩
        unfold PySem.W.kitAny
        rw [kit_ty hk1]
        cases k1 with
        | true => rfl
        | false =>
          unfold PySem.W.kitAny
          rw [kit_ty hk2]
          cases k2 <;> rfl) hg (by decide) (by decide) he hpl
/-- isinstance(e, Poly) -/
theorem ge_isiP {T : String} (PC : PolyC X.K C) (hm : X.mg "isinstance" = none) (ha : GE C X O ρ I e J (Is d)) (hb : GE C X O ρ J a K (Is (.val (.ref C)))) (ht : tyN d = some T) (hT : T ∈ ["NoneType", "bool", "int", "str", "list", "tuple", "dict"]) (hg : Gl X "isinstance" := by rfl)
    (he : starEach [e, a] X.env = (false, eval e X.env) :: starEach [a] X.env := by rfl) (he2 : starEach [a] X.env = (false, eval a X.env) :: starEach [] X.env := by rfl) (hpl : (backTo pos (starEach [a] X.env)).any (·.1) = false := by rfl) :
    GE C X O ρ I (.Call (.Name "isinstance" p) [e, a] [] pos) K (Is (.bl false)) := ge_blt1 call_isi hm PyProof.Rows.boot_isinstance (ga_two ha hb he he2) (fun H vs Q w nl k' => by
      obtain ⟨v, v2, rfl, n, n2⟩ := two_dn nl
      cases n2
      exact ⟨v, .ref C, .type T, .ref C, false, rfl, .own C, ty_dn n ht, PC.no T hT, k' _ H _ (Same.refl H) rfl (.bl _)⟩) hg (by decide) (by decide) he hpl
theorem ge_isiP1 {ns : List Rat} (PC : PolyC X.K C) (hm : X.mg "isinstance" = none) (ha : GE C X O ρ I e J (Is (.poly ns))) (hb : GE C X O ρ J a K (Is (.val (.ref C)))) (hg : Gl X "isinstance" := by rfl)
    (he : starEach [e, a] X.env = (false, eval e X.env) :: starEach [a] X.env := by rfl) (he2 : starEach [a] X.env = (false, eval a X.env) :: starEach [] X.env := by rfl) (hpl : (backTo pos (starEach [a] X.env)).any (·.1) = false := by rfl) :
    GE C X O ρ I (.Call (.Name "isinstance" p) [e, a] [] pos) K (Is (.bl true)) := ge_blt1 call_isi hm PyProof.Rows.boot_isinstance (ga_two ha hb he he2) (fun H vs Q w nl k' => by
      obtain ⟨v, v2, rfl, n, n2⟩ := two_dn nl
      cases n2
      cases n with
      | poly n1 h nt r pr =>
        exact ⟨_, .ref C, .ref C, .ref C, true, rfl, .own C, .base (.ins h PC.cl PC.ha PC.hn PC.htk PC.hm), by unfold PySem.W.kitOne; rw [if_pos (by simp)], k' _ H _ (Same.refl H) rfl (.bl _)⟩) hg (by decide) (by decide) he hpl
end
end TM
/-! ## TmOps -/
set_option Elab.async false
set_option linter.all false
set_option maxRecDepth 100000
set_option maxHeartbeats 4000000
/-! TmOps: +, -, * where a Poly stands on one side or on both. -/
namespace PySem.W
open PySem PySem.Calls PyProof.Rows
section
variable {prog : Program} {w : World} {A : Around} {E : Value → Shared → Prop} {s : Shared} {K : Frag} {x C L f : Addr} {h₀ : Heap} {m : Str → Option Value} {ox : Obj} {od : Option Obj} {T : String}
/-- what is asked of the class and of the built-in type on the other side -/
structure OtherTy (K : Frag) (C : Addr) (nm : String) (T : String) (fo ro : Option Value) : Prop where
  d : findIn K (.type T) (PySem.dunder nm) = some fo
  r : findIn K (.type T) (dunderR nm) = some ro
  s1 : subIn K (.type T) (.ref C) = some false
  s2 : subIn K (.ref C) (.type T) = some false
/-- own instance on the left, a built-in's on the right -/
theorem tm_left {op : Operator} {b : Value} {fo ro rc : Option Value} {Q : Value → Shared → Prop} (X : K.In s.heap) (I : InstAt s.heap x ox C od) (hb : Looks (model prog w) s.heap (typeOf b) (.type T)) (hc : selfFirst K C = true)
    (hs : findIn K (.ref C) (PySem.dunder op.info.2) = some (some (.ref f))) (hf : isFn K (.ref f) = true) (hr : findIn K (.ref C) (dunderR op.info.2) = some rc) (hp : rc = none ∨ ∃ g : Addr, rc = some (.ref g)) (OT : OtherTy K C op.info.2 T fo ro)
    (h : wpAny (model prog w) A (call (.ref f) [.ref x, b]) (CmpBack Q) E s) : wpAny (model prog w) A (binaryOp op (.ref x) b) Q E s := by
  obtain ⟨cd, rest, hcd, hm⟩ := ksp_first hc
  obtain ⟨h1, h2, hsub, _⟩ := OT
  rcases hi : op.info with ⟨sym, nm'⟩
  rw [hi] at hs hr h1 h2
  dsimp only at hs hr h1 h2
  have one := ksp_try X I hs hf h
  obtain ⟨hh, gs, dr, tt, oss⟩ := s
  have L1 : Looks (model prog w) hh (typeOf (.ref x)) (.ref C) := I.type
  have L2 := hb
  have L3 : Looks (model prog w) hh (fillsNumberSlot (.ref C) nm') true := fills_K X hcd hm hs
  have L4 : Looks (model prog w) hh (fillsNumberSlot (.type T) nm') ((fo.isSome && !isSeqSlot fo) || (ro.isSome && !isSeqSlot ro)) := ksp_fillsT X h1 h2
  have L5 : Looks (model prog w) hh (isSubtype (.type T) (.ref C)) false := looks_subIn X hsub
  have L6 : Looks (model prog w) hh (numberSlotInPython (.ref C) nm') true := ksp_inPy X hs hr hp
  have L7 : Looks (model prog w) hh (numberSlotInPython (.type T) nm') false := Looks.of_pure rfl
  have L8 : Looks (model prog w) hh (typeLookup (.type T) (dunderR nm')) ro := looks_findIn X h2
  generalize ((fo.isSome && !isSeqSlot fo) || (ro.isSome && !isSeqSlot ro)) = right at L4
  have hne : (Value.ref C == Value.type T) = false := Bool.eq_false_iff.mpr fun q => by cases beq_iff_eq.mp q
  simp only [binaryOp, hi]
  refine wpAny_holding (wpAny_bind ?_)
  unfold binaryOp1
  refine wpAny_bind (L1.at (wpAny_bind (L2.at (wpAny_bind (L3.at ?_)))))
  simp only [hne, Bool.false_eq_true, if_false]
  cases right
  all_goals
    ksp_lk
    refine wpAny_mono one (fun rv s2 hr2 => ?_) fun _ _ z => z
    obtain ⟨v, rfl, hq⟩ := hr2
    ksp_lk
    exact hq
/-- a built-in's on the left, own instance on the right -/
theorem tm_right {op : Operator} {b : Value} {fo ro : Option Value} {right : Bool} {Q : Value → Shared → Prop} (X : K.In s.heap) (I : InstAt s.heap x ox C od) (hb : Looks (model prog w) s.heap (typeOf b) (.type T)) (hc : selfFirst K C = true)
    (hd : ∃ g : Addr, findIn K (.ref C) (PySem.dunder op.info.2) = some (some (.ref g))) (hs : findIn K (.ref C) (dunderR op.info.2) = some (some (.ref f))) (hf : isFn K (.ref f) = true) (OT : OtherTy K C op.info.2 T fo ro)
    (hl : ((fo.isSome && !isSeqSlot fo) || (ro.isSome && !isSeqSlot ro)) = right)
    (try1 : right = true → ∀ (A : Around) (E : Value → Shared → Prop) (Q : Option Value → Shared → Prop), (∀ tk, Q none { s with toks := tk }) → wpAny (model prog w) A (tryMethod b (PySem.dunder op.info.2) (.ref x)) Q E s)
    (h : ∀ tk, wpAny (model prog w) A (call (.ref f) [.ref x, b]) (CmpBack Q) E { s with toks := tk }) : wpAny (model prog w) A (binaryOp op b (.ref x)) Q E s := by
  obtain ⟨cd, rest, hcd, hm⟩ := ksp_first hc
  obtain ⟨h1, h2, _, hsub⟩ := OT
  obtain ⟨g0, hd⟩ := hd
  rcases hi : op.info with ⟨sym, nm'⟩
  rw [hi] at hs hd h1 h2 try1
  dsimp only at hs hd h1 h2 try1
  have one : ∀ tk, wpAny (model prog w) A (tryMethod (.ref x) (dunderR nm') b) (fun rv s2 => ∃ v, rv = some v ∧ Q v s2) E { s with toks := tk } := fun tk => ksp_try (s := { s with toks := tk }) X I hs hf (h tk)
  obtain ⟨hh, gs, dr, tt, oss⟩ := s
  have L1 : Looks (model prog w) hh (typeOf (.ref x)) (.ref C) := I.type
  have L2 := hb
  have L3 : Looks (model prog w) hh (fillsNumberSlot (.ref C) nm') true := fills_K X hcd hm hd
  have L4 : Looks (model prog w) hh (fillsNumberSlot (.type T) nm') ((fo.isSome && !isSeqSlot fo) || (ro.isSome && !isSeqSlot ro)) := ksp_fillsT X h1 h2
  have L5 : Looks (model prog w) hh (isSubtype (.ref C) (.type T)) false := looks_subIn X hsub
  have L7 : Looks (model prog w) hh (numberSlotInPython (.type T) nm') false := Looks.of_pure rfl
  rw [hl] at L4
  have hne : (Value.type T == Value.ref C) = false := Bool.eq_false_iff.mpr fun q => by cases beq_iff_eq.mp q
  simp only [binaryOp, hi]
  refine wpAny_holding (wpAny_bind ?_)
  unfold binaryOp1
  refine wpAny_bind (L2.at (wpAny_bind (L1.at (wpAny_bind (L4.at ?_)))))
  simp only [hne, Bool.false_eq_true, if_false]
  refine wpAny_bind (L3.at ?_)
  cases right with
  | false =>
    simp only [Bool.false_and, Bool.false_eq_true, if_false, Bool.not_false, Bool.and_true, if_true]
    ksp_lk
    refine wpAny_mono (one tt) (fun rv s2 hr2 => ?_) fun _ _ z => z
    obtain ⟨v, rfl, hq⟩ := hr2
    ksp_lk
    exact hq
  | true =>
    ksp_lk
    refine try1 rfl _ _ _ fun tk => ?_
    ksp_lk
    refine wpAny_mono (one tk) (fun rv s2 hr2 => ?_) fun _ _ z => z
    obtain ⟨v, rfl, hq⟩ := hr2
    ksp_lk
    exact hq
end
end PySem.W
namespace TM
open PySem L2
section
open PyProof.Rows
/-- int.__add__ and its like decline an instance -/
theorem int_declines {nm : String} {f : Int → Int → Sem Fin} (i : Int) (t : Tok) (l C dx : Addr) : Meets (Builtin.Int.intBinary nm f false ⟨[.int i t, .ref l], []⟩) (fun _ R s => s.heap.get? l = some (PySem.W.instObj C dx) ∧ R (.ok (.ret Value.notImplemented)) s) :=
  .of_wp fun prog w A R st hyp => by
    obtain ⟨hp, gs, dr, tk, oss⟩ := st
    obtain ⟨hl, hR⟩ := hyp
    wp_walk using AutoSeq1.wpAny_loadPart' hl
    exact ⟨_, rfl, hR⟩
end

/-- what the written part says of the class and an operator -/
structure DunC (Kf : PySem.W.Frag) (C : Addr) (op : Operator) : Prop where
  sf : PySem.W.selfFirst Kf C = true
  oi : ∃ fo ro, PySem.W.OtherTy Kf C op.info.2 "int" fo ro ∧ ((fo.isSome && !isSeqSlot fo) || (ro.isSome && !isSeqSlot ro)) = true
  ot : ∃ fo ro, PySem.W.OtherTy Kf C op.info.2 "tuple" fo ro ∧ ((fo.isSome && !isSeqSlot fo) || (ro.isSome && !isSeqSlot ro)) = false
/-- the method m of the class keeps sp -/
structure MFn (P : Program) (w : World) (K : PySem.W.Frag) (mg : Str → Option Value) (base : Heap) (CX : CXT) (k : Nat) (C : Addr) (m : Str) (sp : Sp) : Prop where
  ex : ∃ (f : Addr) (fd : FuncData) (ps : List Str), FnOk P w K mg base CX k f fd ps sp ∧ Meth K C m f ∧ Binds K fd ps []
section
variable {C : Addr} {X : Cx} {O : Addr → Prop} {ρ : Env} {I J K L : Asr} {Φ Φa Ψ : D → Prop} {e a b c : Expr} {es : List Expr} {pos p p2 : Pos} {x : Str} {d d1 d2 d3 r : D} {ds es1 : List D}
def IsIns (C : Addr) (H : Hp) (x : V) : Prop := ∃ a dx fs, x = .ref a ∧ H a = some (.ins C dx fs)
def IsOth (H : Hp) (y : V) : Prop := (∃ i, y = .int i) ∨ ∃ b xs, y = .ref b ∧ H b = some (.tup xs)
theorem ep_back {pins : List (Addr × Obj)} {σ : L2.St} {Q : VK} {u : Value} {s : Shared} (h : EP X pins σ Q u s) : PySem.W.CmpBack (EP X pins σ Q) u s := by
  obtain ⟨v, H, I, r, q⟩ := h
  unfold PySem.W.CmpBack
  split
  · exfalso
    cases v with
    | non => cases r
    | bl _ => cases r
    | int _ => obtain ⟨_, z⟩ := r; cases z
    | str _ => obtain ⟨_, z⟩ := r; cases z
    | byt _ => obtain ⟨_, z⟩ := r; cases z
    | flt _ => obtain ⟨_, z⟩ := r; cases z
    | ref _ => cases r
    | ty _ => cases r
  · exact ⟨v, H, I, r, q⟩
theorem inst_of {pins : List (Addr × Obj)} {σ : L2.St} {H : Hp} {s : Shared} {a dx : Addr} {fs : List (Str × V)} (I : Inv X pins σ H s) (h : H a = some (.ins C dx fs)) : ∃ od, PySem.W.InstAt s.heap a (PySem.W.instObj C dx) C (some od) := by
  obtain ⟨mA, Ob, _⟩ := ins_get I.hok h
  obtain ⟨od, J, _⟩ := Ob.look
  exact ⟨od, J⟩
def rOwnL (C : Addr) (sp : Sp) : R2 := fun x y H Q => IsIns C H x ∧ (IsIns C H y ∨ IsOth H y) ∧ sp [x, y] H Q E0
theorem op_ownL {op : Operator} {k : Nat} {m : Str} {sp : Sp} (DC : DunC X.K C op) (F : MFn X.prog X.w X.K X.mg X.base CX0 k C m sp) (Fr : MFn X.prog X.w X.K X.mg X.base CX0 k C (dunderR op.info.2) sp2) (hm : PySem.dunder op.info.2 = m) (hr : Room k X.A) : OpR X (binaryOp op) (rOwnL C sp) := by
  obtain ⟨f, fd, ps, ok, M, hb⟩ := F.ex
  obtain ⟨g, _, _, _, M2, _⟩ := Fr.ex
  subst hm
  intro pins s σ H x y v u Q I rx ry h
  obtain ⟨⟨a, dx, fs, rfl, ha⟩, hy, hs⟩ := h
  have ev : v = Value.ref a := rx
  subst ev
  obtain ⟨od, J⟩ := inst_of I ha
  have rv : Vals [V.ref a, y] [Value.ref a, u] := .cons rx (.cons ry .nil)
  have go := thn (run_fn (dvs := []) ok hr hb .nil pass0 I rv hs) fun u s' q => ep_back q
  rcases hy with ⟨b, dx2, fs2, rfl, hb2⟩ | ⟨i, rfl⟩ | ⟨b, xs, rfl, hb2⟩
  · have eu : u = Value.ref b := ry
    subst eu
    obtain ⟨m0, fr⟩ := I.fr
    obtain ⟨od2, J2⟩ := inst_of I hb2
    exact PySem.W.binop_K fr I.ok.mod.kin J J2.type DC.sf M.at_ M.fn go
  · obtain ⟨t, eu⟩ := ry
    subst eu
    obtain ⟨fo, ro, OT, _⟩ := DC.oi
    exact PySem.W.tm_left I.kIn J (PySem.W.Looks.of_pure rfl) DC.sf M.at_ M.fn M2.at_ (.inr ⟨_, rfl⟩) OT go
  · have eu : u = Value.ref b := ry
    subst eu
    obtain ⟨fo, ro, OT, _⟩ := DC.ot
    obtain ⟨_, its, _, ⟨ob, h1, h2, _⟩⟩ := (show ObjOk X.prog X.w H s.heap b (.tup xs) from I.hok b _ hb2)
    refine PySem.W.tm_left I.kIn J (fun A Q E s k q => wpAny_typeOf_ref (k _ _ h1) (by rw [h2]; exact q)) DC.sf M.at_ M.fn M2.at_ (.inr ⟨_, rfl⟩) OT go

def rOwnR (C : Addr) (sp : Sp) : R2 := fun x y H Q => IsOth H x ∧ IsIns C H y ∧ sp [y, x] H Q E0
theorem op_ownR {op : Operator} {k : Nat} {m id : String} {ff : Int → Int → Sem Fin} {sp sp2 : Sp} (DC : DunC X.K C op) (F : MFn X.prog X.w X.K X.mg X.base CX0 k C (dunderR op.info.2) sp) (Fl : MFn X.prog X.w X.K X.mg X.base CX0 k C (PySem.dunder op.info.2) sp2)
    (hsl : Slot "int" (PySem.dunder op.info.2) id) (hen : entryFor table id = some (Builtin.Int.intBinary m ff false)) (har : ∀ a b : Value, argsOk id ⟨[a, b], []⟩) (hr : Room k X.A) : OpR X (binaryOp op) (rOwnR C sp) := by
  obtain ⟨f, fd, ps, ok, M, hb⟩ := F.ex
  obtain ⟨g, _, _, _, M2, _⟩ := Fl.ex
  intro pins s σ H x y v u Q I rx ry h
  obtain ⟨hx, ⟨a, dx, fs, rfl, ha⟩, hs⟩ := h
  have eu : u = Value.ref a := ry
  subst eu
  obtain ⟨od, J⟩ := inst_of I ha
  have go : ∀ tk, wpAny (model X.prog X.w) X.A (call (.ref f) [.ref a, v]) (PySem.W.CmpBack (EP X pins σ Q)) X.xe { s with toks := tk } := fun tk => by
    have rv : Vals [V.ref a, x] [Value.ref a, v] := .cons ry (.cons rx .nil)
    exact thn (run_fn (dvs := []) ok hr hb .nil pass0 (I.tok tk) rv hs) fun u s' q => ep_back q
  rcases hx with ⟨i, rfl⟩ | ⟨b, xs, rfl, hb2⟩
  · obtain ⟨t, ev⟩ := rx
    subst ev
    obtain ⟨fo, ro, OT, hl⟩ := DC.oi
    refine PySem.W.tm_right I.kIn J (PySem.W.Looks.of_pure rfl) DC.sf ⟨g, M2.at_⟩ M.at_ M.fn OT hl (fun _ A E Q' kk => ?_) go
    have hT : s.TypeIs (.int i t) "int" := typeIs_int s i t
    obtain ⟨mA, Ob, _⟩ := ins_get I.hok ha
    exact wpAny_tryMethod_declines hT hsl (call_meets hsl hT hen (har _ _) (int_declines i t a C dx) ⟨Ob.obj, rfl, kk s.toks⟩)
  · have ev : v = Value.ref b := rx
    subst ev
    obtain ⟨fo, ro, OT, hl⟩ := DC.ot
    obtain ⟨_, its, _, ⟨ob, h1, h2, _⟩⟩ := (show ObjOk X.prog X.w H s.heap b (.tup xs) from I.hok b _ hb2)
    exact PySem.W.tm_right I.kIn J (fun A Q E s k q => wpAny_typeOf_ref (k _ _ h1) (by rw [h2]; exact q)) DC.sf ⟨g, M2.at_⟩ M.at_ M.fn OT hl (fun z => nomatch z) go
end
end TM
/-! ## TmPoly -/
set_option Elab.async false
set_option linter.all false
set_option maxRecDepth 100000
set_option maxHeartbeats 4000000
/-! TmPoly: operators of a Poly, making one, its methods; while. -/
namespace TM
open PySem L2
/-- Poly(..) is made by m that keeps sp -/
structure Mkr (P : Program) (w : World) (K : PySem.W.Frag) (mg : Str → Option Value) (base : Heap) (CX : CXT) (k : Nat) (C : Addr) (x : Str) (sp : Sp) : Prop where
  ex : ∃ (f : Addr) (fd : FuncData) (ps : List Str), FnOk P w K mg base CX k f fd ps sp ∧ Mk K C f ∧ mg x = some (.ref C) ∧ Binds K fd ps []
/-- __init__: the instance at x, without fields as yet, gets its numbers -/
def spInit (C : Addr) (R : D → List Rat → Prop) : Sp := fun vs H Q _ => ∃ (O : Addr → Prop) (x dx : Addr) (v : V) (d : D) (ns : List Rat), vs = [.ref x, v] ∧ Wf O H ∧ ¬ O x ∧ ¬ O dx ∧ H x = some (.ins C dx []) ∧ Dn C O H v d ∧ R d ns ∧
  ∀ H' t xs, (∀ b o, b ≠ x → H b = some o → H' b = some o) → H' x = some (.ins C dx [(numF, .ref t)]) → ¬ O t → H' t = some (.tup xs) → Paired (PrAt O H') xs ns → Q .non H'
section
variable {C : Addr} {X : Cx} {O : Addr → Prop} {ρ : Env} {I J K L : Asr} {Φ Φa Ψ : D → Prop} {e a b c : Expr} {es : List Expr} {pos p p2 : Pos} {x : Str} {d d1 d2 d3 r : D} {ds es1 : List D} {ns ms : List Rat}
/-- what stands on the other side -/
def isOth : D → Prop
  | .int _ => True
  | .tup _ => True
  | _ => False
theorem ins_dn {H : Hp} {v : V} (h : Dn C O H v (.poly ns)) : IsIns C H v := by
  cases h with
  | poly n h nt r p => exact ⟨_, _, _, rfl, h⟩
theorem oth_dn {H : Hp} {v : V} (h : Dn C O H v d) (o : isOth d) : IsOth H v := by
  cases h with
  | int i => exact .inl ⟨i, rfl⟩
  | tup n h t => exact .inr ⟨_, _, rfl, h⟩
  | _ => exact o.elim
theorem op2_ownL {R : List D → D → Prop} (hd : (∃ ms, d2 = .poly ms) ∨ isOth d2) (hR : R [.poly ns, d2] r) : Op2 C O (rOwnL C (spP C R)) (.poly ns) d2 (Is r) := fun H v1 v2 Q w n1 n2 k =>
  ⟨ins_dn n1, hd.elim (fun ⟨ms, e⟩ => .inl (ins_dn (e ▸ n2))) fun o => .inr (oth_dn n2 o), O, _, r, w, .cons n1 (.cons n2 .nil), hR, fun v H' s n => k v H' r s rfl n⟩
theorem op2_ownR {R : List D → D → Prop} (hd : isOth d1) (hR : R [.poly ns, d1] r) : Op2 C O (rOwnR C (spP C R)) d1 (.poly ns) (Is r) := fun H v1 v2 Q w n1 n2 k =>
  ⟨oth_dn n1 hd, ins_dn n2, O, _, r, w, .cons n2 (.cons n1 .nil), hR, fun v H' s n => k v H' r s rfl n⟩
theorem ge_opL {op : Operator} {k : Nat} {m : Str} {R : List D → D → Prop} {sp2 : Sp} (DC : DunC X.K C op) (F : MFn X.prog X.w X.K X.mg X.base CX0 k C m (spP C R)) (Fr : MFn X.prog X.w X.K X.mg X.base CX0 k C (dunderR op.info.2) sp2) (hm : PySem.dunder op.info.2 = m) (hr : Room k X.A)
    (ha : GE C X O ρ I a J (Is (.poly ns))) (hb : GE C X O ρ J b K (Is d2)) (hd : (∃ ms, d2 = .poly ms) ∨ isOth d2) (hR : R [.poly ns, d2] r) : GE C X O ρ I (.BinOp a op b pos) K (Is r) := ge_bin (op_ownL DC F Fr hm hr) ha hb (op2_ownL hd hR)
theorem ge_addR {k : Nat} {R : List D → D → Prop} {sp2 : Sp} (DC : DunC X.K C .Add) (F : MFn X.prog X.w X.K X.mg X.base CX0 k C "__radd__" (spP C R)) (Fl : MFn X.prog X.w X.K X.mg X.base CX0 k C "__add__" sp2) (hr : Room k X.A)
    (ha : GE C X O ρ I a J (Is d1)) (hb : GE C X O ρ J b K (Is (.poly ns))) (hd : isOth d1) (hR : R [.poly ns, d1] r) : GE C X O ρ I (.BinOp a .Add b pos) K (Is r) :=
  ge_bin (op_ownR DC F Fl PySem.F.slot_int_add PySem.F.entry_int_add (fun a b => PySem.F.args_int_add_2 a b) hr) ha hb (op2_ownR hd hR)
theorem ge_subR {k : Nat} {R : List D → D → Prop} {sp2 : Sp} (DC : DunC X.K C .Sub) (F : MFn X.prog X.w X.K X.mg X.base CX0 k C "__rsub__" (spP C R)) (Fl : MFn X.prog X.w X.K X.mg X.base CX0 k C "__sub__" sp2) (hr : Room k X.A)
    (ha : GE C X O ρ I a J (Is d1)) (hb : GE C X O ρ J b K (Is (.poly ns))) (hd : isOth d1) (hR : R [.poly ns, d1] r) : GE C X O ρ I (.BinOp a .Sub b pos) K (Is r) :=
  ge_bin (op_ownR DC F Fl PySem.F.slot_int_sub PySem.F.entry_int_sub (fun a b => PySem.F.args_int_sub_2 a b) hr) ha hb (op2_ownR hd hR)
theorem ge_mulR {k : Nat} {R : List D → D → Prop} {sp2 : Sp} (DC : DunC X.K C .Mult) (F : MFn X.prog X.w X.K X.mg X.base CX0 k C "__rmul__" (spP C R)) (Fl : MFn X.prog X.w X.K X.mg X.base CX0 k C "__mul__" sp2) (hr : Room k X.A)
    (ha : GE C X O ρ I a J (Is d1)) (hb : GE C X O ρ J b K (Is (.poly ns))) (hd : isOth d1) (hR : R [.poly ns, d1] r) : GE C X O ρ I (.BinOp a .Mult b pos) K (Is r) :=
  ge_bin (op_ownR DC F Fl PySem.F.slot_int_mul PySem.F.entry_int_mul (fun a b => PySem.F.args_int_mul_2 a b) hr) ha hb (op2_ownR hd hR)
/-- -poly -/
def rNegO (C : Addr) (sp : Sp) : V → Hp → VK → Prop := fun x H Q => IsIns C H x ∧ sp [x] H Q E0
theorem un_negO {k : Nat} {sp : Sp} (F : MFn X.prog X.w X.K X.mg X.base CX0 k C "__neg__" sp) (hr : Room k X.A) : UnR X (unaryOp .USub) (rNegO C sp) := by
  obtain ⟨f, fd, ps, ok, M, hb⟩ := F.ex
  intro pins s σ H x v Q I rx h
  obtain ⟨⟨a, dx, fs, rfl, ha⟩, hs⟩ := h
  have ev : v = Value.ref a := rx
  subst ev
  obtain ⟨od, J⟩ := inst_of I ha
  obtain ⟨m0, fr⟩ := I.fr
  exact PySem.W.ksp_neg fr I.ok.mod.kin J M.at_ M.fn (run_fn (dvs := []) (us := [.ref a]) (vs := [.ref a]) ok hr hb .nil pass0 I (.cons rfl .nil) hs)
theorem ge_negO {k : Nat} {R : List D → D → Prop} (F : MFn X.prog X.w X.K X.mg X.base CX0 k C "__neg__" (spP C R)) (hr : Room k X.A) (ha : GE C X O ρ I a J (Is (.poly ns))) (hR : R [.poly ns] r) : GE C X O ρ I (.UnaryOp .USub a pos) J (Is r) :=
  ge_of (pe_un (un_negO F hr) pe_tw) (ev_un ha fun H v Q w n k => ⟨ins_dn n, O, _, r, w, .cons n .nil, hR, fun v H' s n => k v H' r s rfl n⟩)
/-- poly == .. -/
structure EqC (Kf : PySem.W.Frag) (C : Addr) : Prop where
  n1 : PySem.W.notFirst Kf C (.ref C) = true
  n2 : PySem.W.notFirst Kf C (.type "int") = true
  n3 : PySem.W.notFirst Kf C (.type "tuple") = true
def rEqO (C : Addr) (sp : Sp) : R2 := fun x y H Q => IsIns C H x ∧ (IsIns C H y ∨ IsOth H y) ∧ sp [x, y] H Q E0
theorem op_eqO {k : Nat} {sp : Sp} (EC : EqC X.K C) (F : MFn X.prog X.w X.K X.mg X.base CX0 k C "__eq__" sp) (hr : Room k X.A) : OpR X (compareOp .Eq) (rEqO C sp) := by
  obtain ⟨f, fd, ps, ok, M, hb⟩ := F.ex
  intro pins s σ H x y v u Q I rx ry h
  obtain ⟨⟨a, dx, fs, rfl, ha⟩, hy, hs⟩ := h
  have ev : v = Value.ref a := rx
  subst ev
  obtain ⟨od, J⟩ := inst_of I ha
  obtain ⟨m0, fr⟩ := I.fr
  have rv : Vals [V.ref a, y] [Value.ref a, u] := .cons rx (.cons ry .nil)
  have go := thn (run_fn (dvs := []) ok hr hb .nil pass0 I rv hs) fun u s' q => ep_back q
  show wpAny (model X.prog X.w) X.A (richCompare .Eq (.ref a) u) (EP X pins σ Q) X.xe s
  rcases hy with ⟨b, dx2, fs2, rfl, hb2⟩ | ⟨i, rfl⟩ | ⟨b, xs, rfl, hb2⟩
  · have eu : u = Value.ref b := ry
    subst eu
    obtain ⟨od2, J2⟩ := inst_of I hb2
    exact PySem.W.cmp_K (op := .Eq) (tb := .ref C) hr.units0 fr I.ok.mod.kin J J2.type EC.n1 M.at_ M.fn go
  · obtain ⟨t, eu⟩ := ry
    subst eu
    exact PySem.W.cmp_K (op := .Eq) (tb := .type "int") hr.units0 fr I.ok.mod.kin J (PySem.W.Looks.of_pure rfl) EC.n2 M.at_ M.fn go
  · have eu : u = Value.ref b := ry
    subst eu
    obtain ⟨_, its, _, ⟨ob, h1, h2, _⟩⟩ := (show ObjOk X.prog X.w H s.heap b (.tup xs) from I.hok b _ hb2)
    exact PySem.W.cmp_K (op := .Eq) (tb := .type "tuple") hr.units0 fr I.ok.mod.kin J (fun A Q E s k q => wpAny_typeOf_ref (k _ _ h1) (by rw [h2]; exact q)) EC.n3 M.at_ M.fn go
theorem ge_eqO {k : Nat} {R : List D → D → Prop} {kb : Bool} (EC : EqC X.K C) (F : MFn X.prog X.w X.K X.mg X.base CX0 k C "__eq__" (spP C R)) (hr : Room k X.A) (ha : GE C X O ρ I a J (Is (.poly ns))) (hb : GE C X O ρ J b K (Is d2)) (hd : (∃ ms, d2 = .poly ms) ∨ isOth d2) (hR : R [.poly ns, d2] (.bl kb))
    (hm : behindInMarks .Eq b = false := by exact nomark _) : GE C X O ρ I (.Compare a [.Eq] [b] pos) K (Is (.bl kb)) := ge_cmp (op_eqO EC F hr) ha hb (fun H v1 v2 Q w n1 n2 k =>
  ⟨ins_dn n1, hd.elim (fun ⟨ms, e⟩ => .inl (ins_dn (e ▸ n2))) fun o => .inr (oth_dn n2 o), O, _, _, w, .cons n1 (.cons n2 .nil), hR, fun v H' s n => k v H' _ s rfl n⟩) hm
/-- Poly(e) -/
theorem ge_make {k : Nat} {R : D → List Rat → Prop} (F : Mkr X.prog X.w X.K X.mg X.base CX0 k C x (spInit C R)) (hr : Room (k + 1) X.A) (ha : GE C X O ρ I e J (Is d)) (hR : R d ns) (hg : Gl X x := by rfl)
    (hdb : (x == ("__debug__" : Str)) = false := by decide) (he : starEach [e] X.env = (false, eval e X.env) :: starEach [] X.env := by rfl) (hpl : (backTo pos (starEach [] X.env)).any (·.1) = false := by rfl) :
    GE C X O ρ I (.Call (.Name x p) [e] [] pos) J (Is (.poly ns)) := by
  obtain ⟨f, fd, ps, ok, M, hm, hb⟩ := F.ex
  refine ge_of (pe_make M ok hr hg hm hb .nil pass0 (pa_cons pe_tw pa_nil he) hdb he hpl) fun σ H Q w dn i k => ha σ H _ w dn i fun v H1 d1 e1 w1 j1 p1 n1 => ?_
  cases p1
  intro x dx hx hd hne
  have hx1 : (upd H1 dx (.own x)) x = none := by rw [upd_ne (Ne.symm hne)]; exact hx
  have s1 : Same H1 (upd H1 dx (.own x)) := same_new hd
  have s2 : Same (upd H1 dx (.own x)) (upd (upd H1 dx (.own x)) x (.ins C dx [])) := same_new hx1
  have s12 := s1.trans s2
  refine ⟨O, x, dx, v, d, ns, rfl, w1.same s12, own_not w1 hx, own_not w1 hd, upd_same, n1.ext (Ext.of s12), hR, fun H' t xs keep hx' nt ht pr => ⟨rfl, ?_⟩⟩
  have sm : Same H1 H' := fun c o hc => keep c o (ne_of_none hc hx) (s12 c o hc)
  exact k _ H' _ (e1.trans (Ext.of sm)) (w1.same sm) (J.st sm j1) rfl (.poly (own_not w1 hx) hx' nt ht pr)
/-- o.m(e, ..) -/
theorem ge_meth {k : Nat} {m : Str} {R : List D → D → Prop} {pl : Sem Bool} {apos : Pos} {o : Expr} (hc : Cls X.K C) (F : MFn X.prog X.w X.K X.mg X.base CX0 k C m (spP C R)) (hr : Room k X.A) (ho : GE C X O ρ I o J (Is (.poly ns))) (ha : GA C X O ρ J (e :: es) K (· = ds)) (hR : R (.poly ns :: ds) r) (hmn : (m == numF) = false := by decide)
    (hst : starEach (e :: es) X.env = (false, eval e X.env) :: starEach es X.env := by rfl) (hpl : (backTo pos (starEach es X.env)).any (·.1) = false := by rfl)
    (ht : eval (.Call (.Attribute o m apos) (e :: es) [] pos) X.env = (do
      let ov ← eval o X.env
      standAt apos.atName
      let (f, first) ← holding [ov] (getMethod ov m pl)
      callWith pos f first (backTo pos (starEach (e :: es) X.env)) (backToKw pos (keywordEach [] X.env))) := by rfl) : GE C X O ρ I (.Call (.Attribute o m apos) (e :: es) [] pos) K (Is r) := by
  obtain ⟨f, fd, ps, ok, M, hb⟩ := F.ex
  refine ge_of (pe_meth pe_tw hc M ok hr hb .nil pass0 pa_tw hst hpl ht) fun σ H Q w dn i k => ho σ H _ w dn i fun v H1 d1 e1 w1 j1 p1 n1 => ?_
  cases p1
  have n1' := n1
  cases n1 with
  | poly n h nt rr pr =>
    refine ⟨_, _, _, rfl, h, ?_, ha σ H1 _ w1 (dn.ext e1) j1 fun vs H2 zs e2 w2 j2 p2 n2 => ?_⟩
    · show List.lookup m [(numF, _)] = none
      unfold List.lookup
      rw [hmn]
      rfl
    · cases p2
      rw [List.append_nil]
      exact ⟨O, _, r, w2, .cons (n1'.ext e2) n2, hR, fun v H' s n => k v H' r ((e1.trans e2).trans (Ext.of s)) (w2.same s) (K.st s j2) rfl n⟩
theorem ge_meth0 {k : Nat} {m : Str} {R : List D → D → Prop} {pl : Sem Bool} {apos : Pos} {o : Expr} (hc : Cls X.K C) (F : MFn X.prog X.w X.K X.mg X.base CX0 k C m (spP C R)) (hr : Room k X.A) (ho : GE C X O ρ I o J (Is (.poly ns))) (hR : R [.poly ns] r) (hmn : (m == numF) = false := by decide)
    (ht : eval (.Call (.Attribute o m apos) [] [] pos) X.env = (do
      let ov ← eval o X.env
      standAt apos.atName
      let (f, first) ← holding [ov] (getMethod ov m pl)
      callWith pos f first (backTo pos (starEach [] X.env)) (backToKw pos (keywordEach [] X.env))) := by rfl) : GE C X O ρ I (.Call (.Attribute o m apos) [] [] pos) J (Is r) := by
  obtain ⟨f, fd, ps, ok, M, hb⟩ := F.ex
  refine ge_of (pe_meth0 pe_tw hc M ok hr hb .nil pass0 ht) fun σ H Q w dn i k => ho σ H _ w dn i fun v H1 d1 e1 w1 j1 p1 n1 => ?_
  cases p1
  have n1' := n1
  cases n1 with
  | poly n h nt rr pr =>
    refine ⟨_, _, _, rfl, h, ?_, O, _, r, w1, .cons n1' .nil, hR, fun v H' s n => k v H' r (e1.trans (Ext.of s)) (w1.same s) (J.st s j1) rfl n⟩
    show List.lookup m [(numF, _)] = none
    unfold List.lookup
    rw [hmn]
    rfl
end
end TM
/-! ## TmRev -/
set_option Elab.async false
set_option linter.all false
set_option maxRecDepth 100000
set_option maxHeartbeats 4000000
/-! TmRev: a tuple backwards; a tuple no times, once, more often; while. -/
namespace HT
open PySem PySem.Spec PyProof.Rows
section
variable {prog : Program} {w : World} {A : Around} {E : Value → Shared → Prop} {s : Shared}
theorem adjust_bw (n : Nat) : Builtin.Slice.sliceAdjust none none (-1) (n : Int) = ((n : Int) - 1, -1) := by
  unfold Builtin.Slice.sliceAdjust
  rfl
theorem fm_congr {α β : Type} {f g : α → Option β} : ∀ {l : List α}, (∀ a ∈ l, f a = g a) → l.filterMap f = l.filterMap g
  | [], _ => rfl
  | a :: l, h => by
    rw [List.filterMap_cons, List.filterMap_cons, h a List.mem_cons_self, fm_congr fun b hb => h b (List.mem_cons_of_mem _ hb)]
theorem places_bw (n : Nat) : Builtin.Slice.slicePlaces ((n : Int) - 1) (-1) (-1) = n := by
  unfold Builtin.Slice.slicePlaces
  have h1 : ¬ ((-1 : Int) > 0) := by omega
  rw [if_neg h1]
  have e : (- -1 : Int) = 1 := by decide
  rw [e, Int.ediv_one]
  split <;> omega
theorem applied_bw {sl : Addr} {vl vu vs : Value} {n : Nat} {Q : Int × Int × Nat → Shared → Prop} (hs : s.heap.IsSliceOf sl vl vu vs) (pl : IsPart vl none) (pu : IsPart vu none) (ps : IsPart vs (some (-1)))
    (h : Q ((n : Int) - 1, -1, n) s) : wpAny (model prog w) A (Builtin.Slice.sliceApplied (.ref sl) (pure (n : Int))) Q E s := by
  obtain ⟨os, hos, hcs, hds⟩ := id hs
  unfold Builtin.Slice.sliceApplied Builtin.Slice.sliceFields
  refine wpAny_bind (wpAny_bind (wpAny_field hos hds (x := vl) rfl (wpAny_bind (wpAny_field hos hds (x := vu) rfl (wpAny_bind (wpAny_field hos hds (x := vs) rfl (wpAny_pure ?_)))))))
  refine wpAny_bind (slicePart_ ps ?_)
  show wpAny _ _ (if ((-1 : Int) == 0) = true then _ else _) _ _ s
  rw [if_neg (by decide)]
  refine wpAny_bind (slicePart_ pl (wpAny_bind (slicePart_ pu (wpAny_bind (wpAny_pure ?_)))))
  show wpAny _ _ (match Builtin.Slice.sliceAdjust none none (-1) (n : Int) with | (lo, hi) => pure (lo, (-1 : Int), Builtin.Slice.slicePlaces lo hi (-1))) _ _ s
  rw [adjust_bw n]
  show wpAny _ _ (pure ((n : Int) - 1, (-1 : Int), Builtin.Slice.slicePlaces ((n : Int) - 1) (-1) (-1))) _ _ s
  rw [places_bw]
  exact wpAny_pure h
theorem pick_bw (xs : List Value) : ((List.range xs.toArray.size).filterMap fun (m : Nat) => xs.toArray[(((xs.toArray.size : Int) - 1) + (m : Int) * (-1)).toNat]?).toArray = xs.reverse.toArray := by
  congr 1
  have e1 : ((List.range xs.toArray.size).filterMap fun (m : Nat) => xs.toArray[(((xs.toArray.size : Int) - 1) + (m : Int) * (-1)).toNat]?) = (List.range xs.reverse.length).filterMap fun (m : Nat) => xs.reverse[m]? := by
    have hz : xs.toArray.size = xs.length := by simp
    rw [hz, List.length_reverse]
    refine fm_congr fun m hm => ?_
    have hm := List.mem_range.mp hm
    have e : (((xs.length : Int) - 1) + (m : Int) * (-1)).toNat = xs.length - 1 - m := by omega
    rw [e, List.getElem?_reverse (by omega)]
    simp
  rw [e1]
  generalize xs.reverse = r
  induction r with
  | nil => rfl
  | cons a r ih =>
    rw [List.length_cons, List.range_succ_eq_map, List.filterMap_cons]
    simp only [List.getElem?_cons_zero, List.filterMap_map]
    congr 1
theorem getItem_tuple_bw {t sl : Addr} {its : List Value} {vl vu vs : Value} {Q : Value → Shared → Prop} (ht : IsTup s.heap t its.toArray) (hs : s.heap.IsSliceOf sl vl vu vs) (pl : IsPart vl none) (pu : IsPart vu none) (ps : IsPart vs (some (-1)))
    (h : Q (.ref s.heap.objs.size) { s with heap := s.heap.push { cls := .type "tuple", data := .seq its.reverse.toArray } })
    (hsz : its.length ≤ sizeLine) : wpAny (model prog w) A (getItem (.ref t) (.ref sl)) Q E s := by
  have htake : sizeOk (.seq its.reverse.toArray) := by
    show its.reverse.toArray.size ≤ sizeLine
    rw [List.size_toArray, List.length_reverse]
    exact hsz
  obtain ⟨os, hos, hcs, hds⟩ := id hs
  have hTs : s.TypeIs (.ref sl) "slice" := ⟨os, hos, hcs⟩
  unfold getItem
  try with_reducible refine wpAny_holding ?_
  first | refine wpAny_bind (wpAny_pure ?_) | skip
  refine wpAny_bind (wpAny_sequenceKey ht.typeIs (by decide) ?_)
  refine wpAny_bind (wpAny_callSpecial?_slot (name := Str.ofString "__getitem__") ht.typeIs PyProof.Rows.slot_tuple_getitem
    (wpAny_call_entry PyProof.Rows.slot_tuple_getitem ht.typeIs entry_tuple_getitem ?_ (args_tuple_getitem _ _)))
  show wpAny _ _ (Builtin.Tuple.tupleItemsOf (.ref t) >>= _) _ _ s
  refine wpAny_bind (tupleItemsOf_ ht ?_)
  refine wpAny_bind (wpAny_typeOf hTs ?_)
  rw [if_pos (by decide)]
  refine wpAny_bind (applied_bw hs pl pu ps ?_)
  have hno : ¬ (((its.toArray.size : Int) - 1 == 0 && (-1 : Int) == 1 && its.toArray.size == its.toArray.size) = true) := by
    intro q
    rw [Bool.and_eq_true, Bool.and_eq_true] at q
    exact absurd q.1.2 (by decide)
  show wpAny _ _ (if ((its.toArray.size : Int) - 1 == 0 && (-1 : Int) == 1 && its.toArray.size == its.toArray.size) = true then _ else _) _ _ s
  rw [if_neg hno, pick_bw]
  first
    | exact wpAny_bind (m := Builtin.Tuple.tupleExact _) (wpAny_newObj_type (wpAny_pure ⟨_, rfl, wpAny_pure h⟩) htake)
    | exact wpAny_bind (m := Builtin.Tuple.tupleExact _) (wpAny_newObj_type (wpAny_bind (wpAny_pure (wpAny_pure ⟨_, rfl, wpAny_pure h⟩))) htake)
    | exact wpAny_bind (wpAny_bind (m := Builtin.Tuple.tupleExact _) (wpAny_newObj_type (wpAny_pure (wpAny_pure ⟨_, rfl, wpAny_pure h⟩)) htake))
    | exact wpAny_bind (wpAny_bind (m := Builtin.Tuple.tupleExact _) (wpAny_newObj_type (wpAny_pure ⟨_, rfl, wpAny_pure h⟩) htake))
end
end HT
namespace TM
open PySem L2 PySem.Spec PyProof.Rows
section
variable {X : Cx}
def tRevT (K : PySem.W.Frag) (te : TE) : TE := fun σ H Q => te σ H fun x H1 => ∃ a xs, x = .ref a ∧ SqT K H1 a xs ∧ ∀ p, H1 p = none → Q (.ref p) (upd H1 p (.tup xs.reverse))
theorem pe_revT {e : Expr} {te : TE} {k : Nat} {p1 p2 p3 pos : Pos} (he : PE X e te) : PE X (.Subscript e (.Slice none none (some (.UnaryOp .USub (.Constant (.int 1) k p1) p2)) p3) pos) (tRevT X.K te) := by
  refine ⟨fun pins s σ H Q I h => ?_⟩
  refine Subscript_ (thn (he.run pins s σ H _ I h) fun v s1 ⟨x, H1, I1, r1, q1⟩ => ?_)
  obtain ⟨a, xs, ex, hx, q⟩ := q1
  subst ex
  cases r1
  have hst : PO X (some (.UnaryOp .USub (.Constant (.int 1) k p1) p2)) (tPart (tUn (rU fun i => .int (-i)) (tC (.int 1)))) := po_some (pe_un un_neg pe_int)
  refine wpAny_Slice (thn (po_none.run pins s1 σ H1 (fun o H2 => o = none ∧ H2 = H1) I1 ⟨rfl, rfl⟩) fun vl s2 ⟨l, H2, I2, pl, el, e2⟩ => ?_)
  subst el e2
  refine thn (po_none.run pins s2 σ H2 (fun o H3 => o = none ∧ H3 = H2) I2 ⟨rfl, rfl⟩) fun vu s3 ⟨u, H3, I3, pu, eu, e3⟩ => ?_
  subst eu e3
  refine thn (hst.run pins s3 σ H3 (fun o H4 => o = some (-1) ∧ H4 = H3) I3 ⟨1, rfl, -1, rfl, rfl, rfl⟩) fun vs s4 ⟨o, H4, I4, ps, eo, e4⟩ => ?_
  subst eo e4
  have I5 : Inv X pins σ H4 { s4 with heap := s4.heap.push { cls := .type "slice", data := .fields #[vl, vu, vs] } } := I4.kept (t' := s4.toks) fun b ob q => Heap.get?_push_of_some _ q
  obtain ⟨its, r, ht, hz⟩ := I5.tuple hx
  show wpAny (model X.prog X.w) X.A (subscriptTail e (.Slice none none (some (.UnaryOp .USub (.Constant (.int 1) k p1) p2)) p3) (.ref a) (.ref s4.heap.objs.size)) (EP X pins σ Q) X.xe { s4 with heap := s4.heap.push { cls := .type "slice", data := .fields #[vl, vu, vs] } }
  refine tail_any (ops := [.ref a, .ref s4.heap.objs.size]) ht.typeIs (PyProof.Rows.slot_tuple_getitem.lookup) ?_ (by with_unfolding_all rfl)
  refine HT.getItem_tuple_bw ht (Heap.IsSliceOf.new _ vl vu vs) pl pu ps ?_ (by rw [← r.length]; exact hz)
  refine ⟨.ref _, _, I5.laid (t' := s4.toks) (o := .tup xs.reverse) (fun b ob q => Heap.get?_push_of_some _ q) (Nat.le_refl _) ?_, rfl, q _ (I5.hok.fresh (Nat.le_refl _))⟩
  exact ⟨by rw [List.length_reverse]; exact hz, _, r.reverse, IsTup.new _ _⟩
end
/-! ### tuple * n -/
theorem tuple_mul1 (l : Addr) (items : Array Value) (n : Nat) (dd : Option Addr) (sl : Array (Option Value)) (u : Tok) :
    Meets (Builtin.«tuple.__mul__» ⟨[.ref l, .int 1 u], []⟩) (fun _ R s => s.heap.get? l = some { cls := .type "tuple", dict := dd, data := .seq items n, slots := sl } ∧ R (.ok (.ret (Value.ref l))) s) :=
  .of_wp fun prog w A R s h => by
    obtain ⟨hp, g, d, tk, os⟩ := s
    obtain ⟨hl, h⟩ := h
    have f1 := AutoSeq1.idx_int
    wp_walk using wpAny_loadPart' hl
    repeat (first
      | (refine wpAny_ite_false (decide_eq_false (by decide)) ?_; wp_walk using wpAny_loadPart' hl)
      | (refine wpAny_ite_true (decide_eq_true (by simp)) ?_; wp_walk using wpAny_loadPart' hl))
    exact ⟨_, rfl, h⟩
theorem tuple_mul0 (l : Addr) (items : Array Value) (n : Nat) (dd : Option Addr) (sl : Array (Option Value)) (k : Int) (u : Tok) (h0 : k ≤ 0) (h1 : -(2 ^ 63) ≤ k) (hi : items.isEmpty = false) :
    Meets (Builtin.«tuple.__mul__» ⟨[.ref l, .int k u], []⟩) (fun _ R s => s.heap.get? l = some { cls := .type "tuple", dict := dd, data := .seq items n, slots := sl } ∧
      R (.ok (.ret (Value.ref s.heap.objs.size))) { s with heap := s.heap.push { cls := Value.type "tuple", data := Data.seq #[] }, toks := s.toks }) :=
  .of_wp fun prog w A R s h => by
    obtain ⟨hp, g, d, tk, os⟩ := s
    obtain ⟨hl, h⟩ := h
    have f1 := AutoSeq1.idx_int
    have c0 : (decide (k < -(2 ^ 63)) || decide (k ≥ 2 ^ 63)) = false := by
      rw [decide_eq_false (by omega), decide_eq_false (by omega)] <;> rfl
    have c1 : (items.isEmpty || k == 1) = false := by
      rw [hi, Bool.false_or]
      exact beq_eq_false_iff_ne.mpr (by omega)
    have c2 : (decide (k ≤ 0) || items.isEmpty) = true := by
      rw [decide_eq_true h0] <;> rfl
    wp_walk using wpAny_loadPart' hl
    repeat (first
      | (refine wpAny_ite_false (decide_eq_false (by rw [c0]; exact Bool.false_ne_true)) ?_; wp_walk using wpAny_loadPart' hl)
      | (refine wpAny_ite_false (decide_eq_false (by rw [c1]; exact Bool.false_ne_true)) ?_; wp_walk using wpAny_loadPart' hl)
      | (refine wpAny_ite_true (decide_eq_true c2) ?_; wp_walk using wpAny_loadPart' hl))
    exact ⟨_, rfl, h⟩
def rRep1 (K : PySem.W.Frag) : R2 := fun x y H Q => ∃ l xs, x = .ref l ∧ y = .int 1 ∧ SqT K H l xs ∧ Q (.ref l) H
def rRep0 (K : PySem.W.Frag) : R2 := fun x y H Q => ∃ l k xs, x = .ref l ∧ y = .int k ∧ SqT K H l xs ∧ xs ≠ [] ∧ k ≤ 0 ∧ -1000 ≤ k ∧ ∀ p, H p = none → Q (.ref p) (upd H p (.tup []))
section
variable {X : Cx}
theorem op_rep1 : OpR X (binaryOp .Mult) (rRep1 X.K) := by
  intro pins s σ H x y v u Q I rx ry h
  obtain ⟨l, xs, rfl, rfl, hT, q⟩ := h
  cases rx
  obtain ⟨t, rfl⟩ := ry
  obtain ⟨its, r, ⟨⟨cls, dd, data, sl⟩, ho, hc, n, hd⟩, hs⟩ := I.tuple hT
  simp only at hc hd
  subst hc hd
  refine wpAny_binaryOp_repeat_ref (T := "tuple") (U := "int") (by decide) ⟨_, ho, rfl⟩ (fun s' => typeIs_int s' 1 t) noFill_tuple_mul F.fills_int_mul F.slot_int_rmul repeat_tuple F.slot_int_index.lookup
    (call_meets F.slot_int_rmul (typeIs_int s 1 t) F.entry_int_rmul (F.args_int_rmul_2 _ _) (int_rmul_tuple 1 t l its.toArray n dd sl)
      ⟨ho, rfl, ⟨_, ho, rfl⟩, call_meets F.slot_tuple_mul ⟨_, ho, rfl⟩ F.entry_tuple_mul (F.args_tuple_mul_2 _ _) (tuple_mul1 l its.toArray n dd sl t) ⟨ho, ?_⟩⟩)
  exact ⟨.ref l, H, I, rfl, q⟩
theorem op_rep0 : OpR X (binaryOp .Mult) (rRep0 X.K) := by
  intro pins s σ H x y v u Q I rx ry h
  obtain ⟨l, k, xs, rfl, rfl, hT, hne, h1, h2, q⟩ := h
  cases rx
  obtain ⟨t, rfl⟩ := ry
  obtain ⟨its, r, ⟨⟨cls, dd, data, sl⟩, ho, hc, n, hd⟩, hs⟩ := I.tuple hT
  simp only at hc hd
  subst hc hd
  have hi : its.toArray.isEmpty = false := by
    cases its with
    | nil =>
      cases r
      exact absurd rfl hne
    | cons a b => rfl
  refine wpAny_binaryOp_repeat_ref (T := "tuple") (U := "int") (by decide) ⟨_, ho, rfl⟩ (fun s' => typeIs_int s' k t) noFill_tuple_mul F.fills_int_mul F.slot_int_rmul repeat_tuple F.slot_int_index.lookup
    (call_meets F.slot_int_rmul (typeIs_int s k t) F.entry_int_rmul (F.args_int_rmul_2 _ _) (int_rmul_tuple k t l its.toArray n dd sl)
      ⟨ho, rfl, ⟨_, ho, rfl⟩, call_meets F.slot_tuple_mul ⟨_, ho, rfl⟩ F.entry_tuple_mul (F.args_tuple_mul_2 _ _) (tuple_mul0 l its.toArray n dd sl k t h1 (by omega) hi) ⟨ho, ?_⟩⟩)
  refine ⟨.ref s.heap.objs.size, _, I.laid (t' := s.toks) (o := .tup []) (fun b ob q => Heap.get?_push_of_some _ q) (Nat.le_refl _) ?_, rfl, q _ (I.hok.fresh (Nat.le_refl _))⟩
  exact ⟨Nat.zero_le _, _, .nil, IsTup.new _ _⟩
end
section
variable {C : Addr} {X : Cx} {O : Addr → Prop} {ρ : Env} {I J K L : Asr} {Φ Φa Ψ : D → Prop} {e a b c : Expr} {es : List Expr} {pos p p2 : Pos} {x : Str} {d d1 d2 d3 r : D} {ds es1 : List D}
theorem ge_revT {k : Nat} {p1 p2 p3 : Pos} (ha : GE C X O ρ I a J (Is (.tup ds))) : GE C X O ρ I (.Subscript a (.Slice none none (some (.UnaryOp .USub (.Constant (.int 1) k p1) p2)) p3) pos) J (Is (.tup ds.reverse)) :=
  ge_of (pe_revT pe_tw) fun σ H Q w dn i kk => ha σ H _ w dn i fun v H1 z e1 w1 j1 pp n1 => by
    cases pp
    cases n1 with
    | tup n r t =>
      refine ⟨_, _, rfl, SqT.of r, fun q hq => ?_⟩
      exact kk _ _ _ (e1.trans (Ext.of (same_new hq))) (wf_new w1 hq) (J.st (same_new hq) j1) rfl (.tup (own_not w1 hq) upd_same (t.reverse.ext (Ext.of (same_new hq))))
theorem ge_repT {n : Int} (ha : GE C X O ρ I a J (Is (.tup ds))) (hb : GE C X O ρ J b K (Is (.int n))) (h0 : -1000 ≤ n) (h1 : n ≤ 1000) (hl : ds.length ≤ 1000) (hne : ds ≠ []) : GE C X O ρ I (.BinOp a .Mult b pos) K (Is (.tup (List.replicate n.toNat ds).flatten)) := by
  by_cases c0 : n ≤ 0
  · have e : (List.replicate n.toNat ds).flatten = [] := by
      have : n.toNat = 0 := by omega
      rw [this]
      rfl
    rw [e]
    refine ge_bin op_rep0 ha hb fun H x y Q w h1' h2 k => ?_
    cases h2
    cases h1' with
    | tup nn r t =>
      refine ⟨_, n, _, rfl, rfl, SqT.of r, fun z => ?_, c0, h0, fun q hq => k _ _ _ (same_new hq) rfl (.tup (own_not w hq) upd_same .nil)⟩
      subst z
      cases t
      exact hne rfl
  · by_cases c1 : n = 1
    · subst c1
      have e : (List.replicate (1 : Int).toNat ds).flatten = ds := by simp
      rw [e]
      refine ge_bin op_rep1 ha hb fun H x y Q w h1' h2 k => ?_
      cases h2
      have h1'' := h1'
      cases h1' with
      | tup nn r t => exact ⟨_, _, rfl, rfl, SqT.of r, k _ H _ (Same.refl H) rfl h1''⟩
    · refine ge_bin op_repT ha hb fun H x y Q w h1' h2 k => ?_
      cases h2
      cases h1' with
      | tup nn r t =>
        refine ⟨_, n, _, rfl, rfl, SqT.of r, fun z => ?_, by omega, h1, by rw [t.length]; exact hl, fun q hq => k _ _ _ (same_new hq) rfl (.tup (own_not w hq) upd_same ((t.replicate n.toNat).ext (Ext.of (same_new hq))))⟩
        subst z
        cases t
        exact hne rfl
end
end TM
/-! ## TmEq -/
set_option Elab.async false
set_option linter.all false
set_option maxRecDepth 100000
set_option maxHeartbeats 4000000
/-! TmEq: data as PyData; == and != of data; while. -/
namespace TM
open PySem L2
mutual
def D.py : D → PyData
  | .non => .none
  | .bl b => .bool b
  | .int i => .int i
  | .str x => .str x
  | .lst xs => .list (D.pys xs)
  | .tup xs => .tuple (D.pys xs)
  | .dic => .dict [(.str "a", .int 1)]
  | .poly _ => .none
  | .val _ => .none
def D.pys : List D → List PyData
  | [] => []
  | d :: ds => D.py d :: D.pys ds
end
mutual
/-- no dict, no Poly, nothing else -/
def D.pl : D → Bool
  | .non => true
  | .bl _ => true
  | .int _ => true
  | .str x => PyData.strOk x
  | .lst xs => D.pls xs
  | .tup xs => D.pls xs
  | .dic => false
  | .poly _ => false
  | .val _ => false
def D.pls : List D → Bool
  | [] => true
  | d :: ds => D.pl d && D.pls ds
end
mutual
def D.dep : D → Nat
  | .lst xs => D.deps xs + 1
  | .tup xs => D.deps xs + 1
  | .dic => 1
  | _ => 0
def D.deps : List D → Nat
  | [] => 0
  | d :: ds => max (D.dep d) (D.deps ds)
end
mutual
theorem D.pl_lay : ∀ d : D, d.pl = true → d.py.canLay0 = true
  | .non, _ => rfl
  | .bl _, _ => rfl
  | .int _, _ => rfl
  | .str x, h => by unfold D.pl at h; unfold D.py PyData.canLay0; exact h
  | .lst xs, h => by unfold D.pl at h; unfold D.py PyData.canLay0; exact D.pls_lay xs h
  | .tup xs, h => by unfold D.pl at h; unfold D.py PyData.canLay0; exact D.pls_lay xs h
  | .dic, h => by unfold D.pl at h; cases h
  | .poly _, h => by unfold D.pl at h; cases h
  | .val _, h => by unfold D.pl at h; cases h
theorem D.pls_lay : ∀ ds : List D, D.pls ds = true → PyData.canLayAll0 (D.pys ds) = true
  | [], _ => rfl
  | d :: ds, h => by
    unfold D.pls at h
    obtain ⟨h1, h2⟩ := Bool.and_eq_true_iff.mp h
    unfold D.pys PyData.canLayAll0
    rw [D.pl_lay d h1, D.pls_lay ds h2]
    rfl
end
mutual
theorem D.dep_py : ∀ d : D, d.py.depth = d.dep
  | .non => by simp [D.py, D.dep, PyData.depth]
  | .bl _ => by simp [D.py, D.dep, PyData.depth]
  | .int _ => by simp [D.py, D.dep, PyData.depth]
  | .str _ => by simp [D.py, D.dep, PyData.depth]
  | .lst xs => by simp [D.py, D.dep, PyData.depth, D.deps_pys xs]
  | .tup xs => by simp [D.py, D.dep, PyData.depth, D.deps_pys xs]
  | .dic => by simp [D.py, D.dep, PyData.depth, PyData.depthKv]
  | .poly _ => by simp [D.py, D.dep, PyData.depth]
  | .val _ => by simp [D.py, D.dep, PyData.depth]
theorem D.deps_pys : ∀ ds : List D, PyData.depthAll (D.pys ds) = D.deps ds
  | [] => by simp [D.pys, D.deps, PyData.depthAll]
  | d :: ds => by simp [D.pys, D.deps, PyData.depthAll, D.dep_py d, D.deps_pys ds]
end
def D.fit (d : D) : Bool := d.pl && decide (d.dep ≤ 64)
theorem D.fit_shaped {d : D} (h : d.fit = true) : SeqAt.shaped d.py = true := by
  obtain ⟨h1, h2⟩ := Bool.and_eq_true_iff.mp h
  unfold SeqAt.shaped
  rw [D.pl_lay d h1, D.dep_py]
  exact h2
mutual
theorem Dn.dp {C : Addr} {O : Addr → Prop} {H : Hp} {Kf : PySem.W.Frag} : ∀ {v : V} {d : D}, Dn C O H v d → d.pl = true → Dp Kf H v d.py
  | _, _, .non, _ => .non
  | _, _, .bl b, _ => .bl b
  | _, _, .int i, _ => .int i
  | _, _, .str x, _ => .str x
  | _, .lst ds, .lst n r t, h => by
    unfold D.py
    exact .lst (SqL.of r) (DnAll.dp t (by unfold D.pl at h; exact h))
  | _, .tup ds, .tup n r t, h => by
    unfold D.py
    exact .tup (SqT.of r) (DnAll.dp t (by unfold D.pl at h; exact h))
  | _, _, .dic n r, h => by unfold D.pl at h; cases h
  | _, _, .poly .., h => by unfold D.pl at h; cases h
  | _, _, .val v, h => by unfold D.pl at h; cases h
theorem DnAll.dp {C : Addr} {O : Addr → Prop} {H : Hp} {Kf : PySem.W.Frag} : ∀ {vs : List V} {ds : List D}, DnAll C O H vs ds → D.pls ds = true → DpAll Kf H vs (D.pys ds)
  | _, _, .nil, _ => .nil
  | _, _, .cons h t, e => by
    unfold D.pls at e
    obtain ⟨h1, h2⟩ := Bool.and_eq_true_iff.mp e
    unfold D.pys
    exact .cons (Dn.dp h h1) (DnAll.dp t h2)
end
def D.eqv (d e : D) : Bool := PyData.eqv d.py e.py
section
variable {C : Addr} {X : Cx} {O : Addr → Prop} {ρ : Env} {I J K L : Asr} {Φ Φa Ψ : D → Prop} {e a b c : Expr} {es : List Expr} {pos p p2 : Pos} {x : Str} {d d1 d2 d3 r : D} {ds es1 : List D} {k : Nat}
theorem op2_eqD (h1 : d1.fit = true) (h2 : d2.fit = true) : Op2 C O (rEqD X.K) d1 d2 (Is (.bl (d1.eqv d2))) := fun H x y Q w n1 n2 k =>
  ⟨_, _, n1.dp (Bool.and_eq_true_iff.mp h1).1, n2.dp (Bool.and_eq_true_iff.mp h2).1, D.fit_shaped h1, D.fit_shaped h2, k _ H _ (Same.refl H) rfl (.bl _)⟩
theorem op2_neD (h1 : d1.fit = true) (h2 : d2.fit = true) : Op2 C O (rNeD X.K) d1 d2 (Is (.bl (!d1.eqv d2))) := fun H x y Q w n1 n2 k =>
  ⟨_, _, n1.dp (Bool.and_eq_true_iff.mp h1).1, n2.dp (Bool.and_eq_true_iff.mp h2).1, D.fit_shaped h1, D.fit_shaped h2, k _ H _ (Same.refl H) rfl (.bl _)⟩
theorem ge_eqD (hr : Room k X.A) (ha : GE C X O ρ I a J (Is d1)) (hb : GE C X O ρ J b K (Is d2)) (h1 : d1.fit = true) (h2 : d2.fit = true) (hm : behindInMarks .Eq b = false := by exact nomark _) : GE C X O ρ I (.Compare a [.Eq] [b] pos) K (Is (.bl (d1.eqv d2))) := ge_cmp (op_eqD hr.units) ha hb (op2_eqD h1 h2) hm
theorem ge_neD (hr : Room k X.A) (ha : GE C X O ρ I a J (Is d1)) (hb : GE C X O ρ J b K (Is d2)) (h1 : d1.fit = true) (h2 : d2.fit = true) (hm : behindInMarks .NotEq b = false := by exact nomark _) : GE C X O ρ I (.Compare a [.NotEq] [b] pos) K (Is (.bl (!d1.eqv d2))) := ge_cmp (op_neD hr.units) ha hb (op2_neD h1 h2) hm
theorem gt_eqD (hr : Room k X.A) (ha : GE C X O ρ I a J (Is d1)) (hb : GE C X O ρ J b K (Is d2)) (h1 : d1.fit = true) (h2 : d2.fit = true) (hm : behindInMarks .Eq b = false := by exact nomark _) : GT C X O ρ I (.Compare a [.Eq] [b] pos) K (· = d1.eqv d2) := gt_cmp (op_eqD hr.units) ha hb (op2_eqD h1 h2) hm
theorem gt_neD (hr : Room k X.A) (ha : GE C X O ρ I a J (Is d1)) (hb : GE C X O ρ J b K (Is d2)) (h1 : d1.fit = true) (h2 : d2.fit = true) (hm : behindInMarks .NotEq b = false := by exact nomark _) : GT C X O ρ I (.Compare a [.NotEq] [b] pos) K (· = !d1.eqv d2) := gt_cmp (op_neD hr.units) ha hb (op2_neD h1 h2) hm
end
/-! ### what == says -/
theorem prs_cons {q : Rat} {ns : List Rat} : prs (q :: ns) = pair q :: prs ns := rfl
theorem prs_pls : ∀ ns : List Rat, D.pls (prs ns) = true
  | [] => rfl
  | q :: ns => by
    rw [prs_cons]
    unfold D.pls
    rw [prs_pls ns]
    rfl
theorem prs_deps : ∀ ns : List Rat, D.deps (prs ns) ≤ 1
  | [] => by simp [prs, D.deps]
  | q :: ns => by
    have := prs_deps ns
    rw [prs_cons]
    simp only [pair, D.deps, D.dep]
    omega
theorem fit_prsL (ns : List Rat) : (D.lst (prs ns)).fit = true := by
  have := prs_deps ns
  unfold D.fit D.pl D.dep
  rw [prs_pls, decide_eq_true (by omega)]
  rfl
theorem fit_prsT (ns : List Rat) : (D.tup (prs ns)).fit = true := by
  have := prs_deps ns
  unfold D.fit D.pl D.dep
  rw [prs_pls, decide_eq_true (by omega)]
  rfl
theorem fit_pair (q : Rat) : (pair q).fit = true := rfl
theorem eqv_pair (q r : Rat) : (pair q).eqv (pair r) = decide (q = r) := by
  unfold D.eqv pair
  simp only [D.py, D.pys, PyData.eqv, PyData.eqvAll, Bool.and_true]
  by_cases h : q = r
  · subst h
    simp
  · rw [decide_eq_false h]
    cases h1 : (q.num == r.num) with
    | false => rfl
    | true =>
      rw [Bool.true_and]
      refine beq_eq_false_iff_ne.mpr fun h2 => h ?_
      have h1 := beq_iff_eq.mp h1
      exact Rat.ext h1 (by omega)
theorem eqvs_prs : ∀ (as bs : List Rat), PyData.eqvAll (D.pys (prs as)) (D.pys (prs bs)) = decide (as = bs)
  | [], [] => by simp [prs, D.pys, PyData.eqvAll]
  | [], b :: bs => by simp [prs, D.pys, PyData.eqvAll]
  | a :: as, [] => by simp [prs, D.pys, PyData.eqvAll]
  | a :: as, b :: bs => by
    rw [prs_cons, prs_cons]
    unfold D.pys PyData.eqvAll
    have h := eqv_pair a b
    unfold D.eqv at h
    rw [h, eqvs_prs as bs, ← Bool.decide_and]
    congr 1
    simp
theorem eqv_prsT (as bs : List Rat) : (D.tup (prs as)).eqv (.tup (prs bs)) = decide (as = bs) := by
  unfold D.eqv
  simp only [D.py, PyData.eqv]
  exact eqvs_prs as bs
theorem eqv_nilL : ∀ (ds : List D), (D.lst ds).eqv (.lst []) = ds.isEmpty
  | [] => rfl
  | d :: ds => rfl
section
variable {C : Addr} {X : Cx} {O : Addr → Prop} {ρ : Env} {I J K L : Asr} {H0 H : Hp} {σ : L2.St} {De : Ends} {rest body els : List Stmt} {st : Stmt} {pos : Pos}
/-- while -/
theorem gq_while {c : Expr} (S : Stt C O H0 H σ ρ I) (hp : PassesOwn (model X.prog X.w) X.A X.env X.xe) (P : Nat → Env → Prop) (m0 : Nat) (h0 : P m0 ρ)
    (turn : ∀ m ρ', P m ρ' → ∃ k, GT C X O ρ' I c I (· = k) ∧
      (k = true → ∀ σ' H', Stt C O H0 H' σ' ρ' I → ssw X body { De with nx := fun σ2 H2 => ∃ m' ρ2, m' < m ∧ P m' ρ2 ∧ Stt C O H0 H2 σ2 ρ2 I, ct := fun σ2 H2 => ∃ m' ρ2, m' < m ∧ P m' ρ2 ∧ Stt C O H0 H2 σ2 ρ2 I, bk := ssw X rest De } σ' H') ∧
      (k = false → ∀ σ' H', Stt C O H0 H' σ' ρ' I → ssw X rest De σ' H')) : ssw X (.While c body [] pos :: rest) De σ H := by
  refine gq_of (ps_while hp pt_tw pss_tw) ⟨fun m σ' H' => ∃ ρ', P m ρ' ∧ Stt C O H0 H' σ' ρ' I, ⟨m0, ρ, h0, S⟩, ?_⟩
  rintro m σ1 H1 ⟨ρ', pp, S1⟩
  obtain ⟨k, hg, ht, hf⟩ := turn m ρ' pp
  refine S1.gt hg fun b H2 pk S2 => ?_
  cases pk
  cases k with
  | true =>
    rw [if_pos rfl]
    exact ⟨fun σ2 H2 => ∃ m' ρ2, m' < m ∧ P m' ρ2 ∧ Stt C O H0 H2 σ2 ρ2 I, fun σ' H' ⟨m', ρ2, hm, p2, S3⟩ => ⟨m', hm, ρ2, p2, S3⟩, ht rfl σ1 H2 S2⟩
  | false =>
    rw [if_neg Bool.false_ne_true]
    exact hf rfl σ1 H2 S2
end
end TM
/-! ## TmDef -/
set_option Elab.async false
set_option linter.all false
set_option maxRecDepth 100000
set_option maxHeartbeats 4000000
/-! TmDef: the text's defs by place; a pure def by its body. -/
namespace TM
open PySem L2 PySem.Spec PyProof.Rows
abbrev FnP (K : PySem.W.Frag) (x q : Str) (st : Stmt) (f : Addr) (fd : FuncData) : Prop := FunD K x q (defArgs st) (defBody st) (defScope st) [] [] f fd
/-- what O owns is as it was in H0 -/
def ownA (O : Addr → Prop) (H0 : Hp) : Asr := ⟨fun H => ∀ a o, O a → H0 a = some o → H a = some o, fun e h a o w q => e _ _ (h a o w q)⟩
theorem same_of {O : Addr → Prop} {H0 H : Hp} (e : Ext O H0 H) (h : (ownA O H0).P H) : Same H0 H := fun b o q => by
  by_cases w : O b
  · exact h b o w q
  · exact e b o w q
/-- a body that gives r of ds and changes nothing -/
def PB (C : Addr) (X : Cx) (body : List Stmt) (ds : List D) (r : D) : Prop := ∀ (O : Addr → Prop) (H0 : Hp) (vs : List V) (De : Ends), Wf O H0 → DnAll C O H0 vs ds →
  (∀ v H', Ext O H0 H' → (ownA O H0).P H' → Dn C O H' v r → De.rt v H') → (∀ σ H', r = .non → Ext O H0 H' → (ownA O H0).P H' → De.nx σ H') → ssw X body De (start X.N vs) H0
theorem den_start {C : Addr} {O : Addr → Prop} {H : Hp} {vs : List V} {ds : List D} {N : List Str} (h : DnAll C O H vs ds) : Den C O H (start N vs) (ds.map some ++ List.replicate (N.length - ds.length) Option.none) := by
  unfold L2.start
  rw [h.length]
  refine ⟨by simp [h.length], fun i d hi => ?_⟩
  by_cases hl : i < ds.length
  · rw [List.getElem?_append_left (by simpa using hl), List.getElem?_map] at hi
    rw [List.getElem?_append_left (by simpa [h.length] using hl), List.getElem?_map]
    cases q : ds[i]? with
    | none => rw [q] at hi; cases hi
    | some d0 =>
      rw [q] at hi
      obtain ⟨v, e1, e2⟩ := h.get q
      have e3 : d0 = d := by simpa using hi
      subst e3
      exact ⟨v, by rw [e1]; rfl, e2⟩
  · rw [List.getElem?_append_right (by simpa using hl), List.getElem?_replicate] at hi
    split at hi <;> cases hi
theorem Stt.start {C : Addr} {O : Addr → Prop} {H : Hp} {vs : List V} {ds : List D} {N : List Str} {I : Asr} (w : Wf O H) (h : DnAll C O H vs ds) (i : I.P H) : Stt C O H H (L2.start N vs) (ds.map some ++ List.replicate (N.length - ds.length) Option.none) I := ⟨w, den_start h, i, Ext.refl⟩
theorem ownA_refl {O : Addr → Prop} {H : Hp} : (ownA O H).P H := fun _ _ _ h => h
section
variable {C : Addr} {X : Cx} {O : Addr → Prop} {ρ : Env} {I J K : Asr} {a b : Expr} {pos : Pos} {i j : Int}
theorem op2_eqI : Op2 C O rEq (.int i) (.int j) (Is (.bl (decide (i = j)))) := fun H x y Q w h1 h2 k => by
  cases h1
  cases h2
  refine ⟨rfl, ?_⟩
  rw [dec_V]
  exact k _ H _ (Same.refl H) rfl (.bl _)
theorem op2_neI : Op2 C O rNe (.int i) (.int j) (Is (.bl (!decide (i = j)))) := fun H x y Q w h1 h2 k => by
  cases h1
  cases h2
  refine ⟨rfl, ?_⟩
  rw [dec_V]
  exact k _ H _ (Same.refl H) rfl (.bl _)
theorem gt_eqI (ha : GE C X O ρ I a J (Is (.int i))) (hb : GE C X O ρ J b K (Is (.int j))) : GT C X O ρ I (.Compare a [.Eq] [b] pos) K (· = decide (i = j)) := gt_cmp op_eq ha hb op2_eqI
theorem gt_neI (ha : GE C X O ρ I a J (Is (.int i))) (hb : GE C X O ρ J b K (Is (.int j))) : GT C X O ρ I (.Compare a [.NotEq] [b] pos) K (· = !decide (i = j)) := gt_cmp op_ne ha hb op2_neI
theorem gt_lt (ha : GE C X O ρ I a J (Is (.int i))) (hb : GE C X O ρ J b K (Is (.int j))) : GT C X O ρ I (.Compare a [.Lt] [b] pos) K (· = decide (i < j)) := gt_cmp op_lt ha hb (op2_I0 fun _ => .bl _)
theorem gt_gt (ha : GE C X O ρ I a J (Is (.int i))) (hb : GE C X O ρ J b K (Is (.int j))) : GT C X O ρ I (.Compare a [.Gt] [b] pos) K (· = decide (j < i)) := gt_cmp op_gt ha hb (op2_I0 fun _ => .bl _)
theorem gt_ge (ha : GE C X O ρ I a J (Is (.int i))) (hb : GE C X O ρ J b K (Is (.int j))) : GT C X O ρ I (.Compare a [.GtE] [b] pos) K (· = decide (j ≤ i)) := gt_cmp op_ge ha hb (op2_I0 fun _ => .bl _)
theorem gt_le (ha : GE C X O ρ I a J (Is (.int i))) (hb : GE C X O ρ J b K (Is (.int j))) : GT C X O ρ I (.Compare a [.LtE] [b] pos) K (· = decide (i ≤ j)) := gt_cmp op_le ha hb (op2_I0 fun _ => .bl _)
end
section
variable {P : Program} {w : World} {K : PySem.W.Frag} {mg : Str → Option Value} {base : Heap} {x q : Str} {f : Addr} {fd : FuncData} {N ps : List Str} {k : Nat} {C : Addr} {R : List D → D → Prop} {st : Stmt}
/-- the context of a def's body -/
abbrev bX (P : Program) (w : World) (K : PySem.W.Frag) (mg : Str → Option Value) (base : Heap) (N : List Str) (q : Str) (st : Stmt) (f : Addr) (cdv : Value) (A : Around) (outer : List PySem.Env) (s : Shared) (H : Hp) (E : XK) : Cx := (cxOf CX0 P w K mg base N q (defScope st) f cdv A outer s H E).nox
/-- the body keeps R, in every context of it -/
def BodyOk (P : Program) (w : World) (K : PySem.W.Frag) (mg : Str → Option Value) (base : Heap) (C : Addr) (N : List Str) (q : Str) (st : Stmt) (f : Addr) (k : Nat) (R : List D → D → Prop) : Prop :=
  ∀ (cdv : Value) (A : Around) (outer : List PySem.Env) (s : Shared) (H : Hp) (E : XK) (ds : List D) (r : D), Room k (A.deeper (envOfC q (defScope st) s.heap.objs.size f cdv)) → R ds r → PB C (bX P w K mg base N q st f cdv A outer s H E) (defBody st) ds r
theorem ok_pure {R : List D → D → Prop} (F : FnP K x q st f fd) (S : FnScope N ps (defScope st)) (hl : ∀ ds r, R ds r → ds.length = ps.length)
    (body : BodyOk P w K mg base C N q st f k R) :
    FnOk P w K mg base CX0 (k + 1) f fd ps (spP C R) := by
  refine F.ok S (fun vs H Q E h => ?_) fun cdv A outer s H vs Q E hr h => ?_
  · obtain ⟨O, ds, r, _, hn, hR, _⟩ := h
    rw [hn.length]
    exact hl ds r hR
  · obtain ⟨O, ds, r, hw, hn, hR, hQ⟩ := h
    refine ⟨_, PSs.nox pss_tw, ?_⟩
    refine body cdv A outer s H E ds r hr hR O H vs _ hw hn (fun v H' e i n => hQ v H' (same_of e i) n) fun σ H' e0 e i => ?_
    subst e0
    exact hQ .non H' (same_of e i) .non
theorem fn_pure {R : List D → D → Prop} (F : FnP K x q st f fd) (hm : mg x = some (.ref f)) (S : FnScope N ps (defScope st)) (hb : Binds K fd ps []) (hl : ∀ ds r, R ds r → ds.length = ps.length)
    (body : BodyOk P w K mg base C N q st f k R) :
    Fn P w K mg base CX0 (k + 1) x (spP C R) := ⟨f, fd, ps, ok_pure F S hl body, hm, F.kp, hb⟩
theorem mf_pure {R : List D → D → Prop} (F : FnP K x q st f fd) (hm : Meth K C x f) (S : FnScope N ps (defScope st)) (hb : Binds K fd ps []) (hl : ∀ ds r, R ds r → ds.length = ps.length)
    (body : BodyOk P w K mg base C N q st f k R) :
    MFn P w K mg base CX0 (k + 1) C x (spP C R) := ⟨f, fd, ps, ok_pure F S hl body, hm, hb⟩
end
theorem Fn.mono {P : Program} {w : World} {K : PySem.W.Frag} {mg : Str → Option Value} {base : Heap} {CX : CXT} {j k : Nat} {x : Str} {sp : Sp} (F : Fn P w K mg base CX j x sp) (h : j ≤ k) : Fn P w K mg base CX k x sp := by
  obtain ⟨f, fd, ps, ok, a, b, c⟩ := F.ex
  exact ⟨f, fd, ps, ok.mono h, a, b, c⟩
theorem MFn.mono {P : Program} {w : World} {K : PySem.W.Frag} {mg : Str → Option Value} {base : Heap} {CX : CXT} {j k : Nat} {C : Addr} {x : Str} {sp : Sp} (F : MFn P w K mg base CX j C x sp) (h : j ≤ k) : MFn P w K mg base CX k C x sp := by
  obtain ⟨f, fd, ps, ok, a, b⟩ := F.ex
  exact ⟨f, fd, ps, ok.mono h, a, b⟩
section
variable {C : Addr} {X : Cx} {O : Addr → Prop} {ρ : Env} {H0 H : Hp} {σ : L2.St} {De : Ends} {rest body els : List Stmt} {st : Stmt} {e : Expr} {pos : Pos} {r : D} {J : Asr}
theorem Stt.geE {te : TE} {I : Asr} {Φ : D → Prop} (S : Stt C O H0 H σ ρ I) (h : Ev C O ρ I te J Φ) {Q : VK} (k : ∀ v H' d, Φ d → Dn C O H' v d → Ext O H H' → Stt C O H0 H' σ ρ J → Q v H') : te σ H Q :=
  h σ H Q S.wf S.den S.asr fun v H' d e w j p n => k v H' d p n e ⟨w, S.den.ext e, j, S.ext.trans e⟩
/-- the assertion stays -/
theorem gq_ifP {k : Bool} {c : Expr} {I : Asr} (S : Stt C O H0 H σ ρ I) (h : GT C X O ρ I c I (· = k)) (h1 : k = true → ∀ H', Stt C O H0 H' σ ρ I → ssw X body { De with nx := ssw X rest De } σ H') (h2 : k = false → ∀ H', Stt C O H0 H' σ ρ I → ssw X els { De with nx := ssw X rest De } σ H') :
    ssw X (.If c body els pos :: rest) De σ H := gq_if S h h1 h2
theorem gq_setP {x : Str} {p' : Pos} {d : D} {I : Asr} (i : Nat) (S : Stt C O H0 H σ ρ I) (hN : X.N.Nodup) (h : GE C X O ρ I e I (Is d)) (k : ∀ σ' H', Stt C O H0 H' σ' (ρ.set i (some d)) I → ssw X rest De σ' H') (hi : X.N[i]? = some x := by rfl) (hx : Loc X.env.scope x := by first | exact .inl rfl | exact .inr rfl)
    (hs : swapsWith e (some (.Name x p')) pos.line X.env = pure false := by rfl) (hf : X.fn x = true ∨ X.env.scope.names.lookup x = some .local := by first | exact .inl rfl | exact .inr rfl | assumption) :
    ssw X (.Assign [.Name x p'] e pos :: rest) De σ H := gq_set i S hN h (fun σ' H' d' e S' => k σ' H' (by cases e; exact S')) hi hx hs hf
theorem gq_retP (S : Stt C O H0 H σ ρ (ownA O H0)) (hrt : ∀ v H', Ext O H0 H' → (ownA O H0).P H' → Dn C O H' v r → De.rt v H') (h : GE C X O ρ (ownA O H0) e (ownA O H0) (Is r)) : ssw X (.Return (some e) pos :: rest) De σ H :=
  gq_ret S h fun v H' d pd n ex j _ => hrt v H' ex j (by cases pd; exact n)
end
end TM
/-! ## PgBase -/
set_option Elab.async false
set_option linter.all false
set_option maxRecDepth 100000
set_option maxHeartbeats 4000000
/-! PgBase: the module's names; is_whole, is_ratio, divisor, lowest. -/
namespace TM
open PySem L2 PySem.Spec PyProof.Rows
/-- the built-in names that the module leaves alone -/
def freeNames : List Str := ["isinstance", "int", "bool", "tuple", "list", "len", "str", "all", "max", "min", "enumerate", "zip", "range", "abs", "repr", "ValueError"]
structure Gs (K : PySem.W.Frag) (mg : Str → Option Value) (C : Addr) : Prop where
  free : ∀ x ∈ freeNames, mg x = none
  gcd : mg "gcd" = some (.builtin "math.gcd")
  poly : mg "Poly" = some (.ref C)
  pc : PolyC K C
section
variable {K : PySem.W.Frag} {mg : Str → Option Value} {C : Addr}
theorem Gs.f (g : Gs K mg C) (x : Str) (h : x ∈ freeNames := by decide) : mg x = none := g.free x h
end
section
variable {C : Addr} {X : Cx} {O : Addr → Prop} {ρ : Env} {I J K L : Asr} {pos : Pos}
theorem ge_int_ty (hm : X.mg "int" = none) (hg : Gl X "int" := by rfl) : GE C X O ρ I (.Name "int" pos) I (Is (.val (.ty "int"))) := ge_blt hm PyProof.Rows.boot_int rfl hg
theorem ge_bool_ty (hm : X.mg "bool" = none) (hg : Gl X "bool" := by rfl) : GE C X O ρ I (.Name "bool" pos) I (Is (.val (.ty "bool"))) := ge_blt hm PyProof.Rows.boot_bool rfl hg
theorem ge_tuple_ty (hm : X.mg "tuple" = none) (hg : Gl X "tuple" := by rfl) : GE C X O ρ I (.Name "tuple" pos) I (Is (.val (.ty "tuple"))) := ge_blt hm PyProof.Rows.boot_tuple rfl hg
theorem ge_list_ty (hm : X.mg "list" = none) (hg : Gl X "list" := by rfl) : GE C X O ρ I (.Name "list" pos) I (Is (.val (.ty "list"))) := ge_blt hm PyProof.Rows.boot_list rfl hg
end
/-! ### what the program's defs say -/
def isInt : D → Bool
  | .int _ => true
  | _ => false
/-- no value of another kind -/
def isDat (d : D) : Prop := ∃ T, tyN d = some T
def isPos : D → Bool
  | .int j => decide (0 < j)
  | _ => false
def isRat (d : D) : Bool := isInt d || match items d with
  | some [x, y] => isInt x && (isInt y && isPos y)
  | _ => false
/-- data whose items are data -/
def isDat2 (d : D) : Prop := isDat d ∧ ∀ ds, items d = some ds → ∀ x ∈ ds, isDat x
section
variable {P : Program} {w : World} {K : PySem.W.Frag} {mg : Str → Option Value} {base : Heap} {f : Addr} {fd : FuncData} {C : Addr} {k : Nat}
abbrev FnS (P : Program) (w : World) (K : PySem.W.Frag) (mg : Str → Option Value) (base : Heap) (k : Nat) (C : Addr) (x : Str) (R : List D → D → Prop) : Prop := Fn P w K mg base CX0 k x (spP C R)
def RisWhole : List D → D → Prop := fun ds r => ∃ d, ds = [d] ∧ isDat d ∧ r = .bl (isInt d)
theorem sc_is_whole : FnScope ["value"] ["value"] (defScope (top 8)) := ⟨rfl, rfl, rfl, by decide +kernel, rfl, by decide +kernel, by decide +kernel⟩
theorem fn_is_whole (g : Gs K mg C) (F : FnP K "is_whole" "is_whole" (top 8) f fd) (hm : mg "is_whole" = some (.ref f)) : Fn P w K mg base CX0 (k + 1) "is_whole" (spP C RisWhole) := by
  refine fn_pure F hm sc_is_whole (F.bindsN fun _ _ _ _ _ _ us hl => match us, hl with | [_], _ => rfl) (fun ds r h => by obtain ⟨d, rfl, _⟩ := h; rfl) ?_
  rintro cdv A outer s H E ds r hr ⟨d, rfl, ⟨T, hT⟩, rfl⟩
  intro O H0 vs De hw hn hrt hnx
  have S : Stt C O H0 H0 (start ["value"] vs) [some d] (ownA O H0) := Stt.start hw hn ownA_refl
  refine gq_retP S hrt ?_
  cases d <;> cases hT
  all_goals
    refine (ge_and (ge_isi (g.f "isinstance") (ge_var 0) (ge_int_ty (g.f "int")) rfl (by rfl)) (fun h => ge_not (ge_isi (g.f "isinstance") (ge_var 0) (ge_bool_ty (g.f "bool")) rfl (by rfl)))).is ?_
    rfl
def RisRatio : List D → D → Prop := fun ds r => ∃ d, ds = [d] ∧ isDat2 d ∧ r = .bl (isRat d)
theorem sc_is_ratio : FnScope ["value"] ["value"] (defScope (top 9)) := ⟨rfl, rfl, rfl, by decide +kernel, rfl, by decide +kernel, by decide +kernel⟩
theorem fn_is_ratio (g : Gs K mg C) (hW : FnS P w K mg base k C "is_whole" RisWhole) (F : FnP K "is_ratio" "is_ratio" (top 9) f fd) (hm : mg "is_ratio" = some (.ref f)) : FnS P w K mg base (k + 1) C "is_ratio" RisRatio := by
  refine fn_pure F hm sc_is_ratio (F.bindsN fun _ _ _ _ _ _ us hl => match us, hl with | [_], _ => rfl) (fun ds r h => by obtain ⟨d, rfl, _⟩ := h; rfl) ?_
  rintro cdv A outer s H E ds r hr ⟨d, rfl, hd, rfl⟩
  intro O H0 vs De hw hn hrt hnx
  have S : Stt C O H0 H0 (start ["value"] vs) [some d] (ownA O H0) := Stt.start hw hn ownA_refl
  refine gq_if S (gt_val (ge_call hW hr (ga_one (ge_var 0)) ⟨d, rfl, hd.1, rfl⟩)) (fun h H1 S1 => ?_) (fun h H1 S1 => gq_nil ?_)
  · refine gq_retP S1 hrt (ge_bl.is ?_)
    unfold isRat
    rw [h]
    rfl
  · obtain ⟨T, hT⟩ := hd.1
    cases hi : items d with
    | none =>
      refine gq_ifP S1 (k := true) ?_ (fun _ H2 S2 => ?_) (fun z => by cases z)
      · refine (gt_or (k1 := true) (k2 := true) (gt_not (k := false) (gt_val (ge_isi2 (g.f "isinstance") (ge_var 0) (ge_tup (ga_two (ge_tuple_ty (g.f "tuple")) (ge_list_ty (g.f "list")))) hT (k1 := false) (k2 := false) ?_ ?_))) (fun z => by cases z)).is rfl
        all_goals
          cases d <;> cases hT <;> first | rfl | cases hi
      · refine gq_retP S2 hrt (ge_bl.is ?_)
        unfold isRat
        rw [h, hi]
        rfl
    | some ds =>
      refine gq_ifP S1 (k := !decide ((ds.length : Int) = 2)) (gt_or (k1 := false) (gt_not (k := true) (gt_val ((ge_isi2 (g.f "isinstance") (ge_var 0) (ge_tup (ga_two (ge_tuple_ty (g.f "tuple")) (ge_list_ty (g.f "list")))) hT (k1 := decide (T = "tuple")) (k2 := decide (T = "list")) (by cases d <;> cases hT <;> first | rfl | cases hi) (by cases d <;> cases hT <;> first | rfl | cases hi)).is
          (by cases d <;> cases hT <;> first | rfl | cases hi)))) (fun _ => gt_neI (ge_len (g.f "len") (ge_var 0) hi) ge_int)) (fun z H2 S2 => ?_) (fun z H2 S2 => gq_nil ?_)
      · refine gq_retP S2 hrt (ge_bl.is ?_)
        have hne : ds.length ≠ 2 := fun e => by rw [e] at z; simp at z
        unfold isRat
        rw [h, hi]
        match ds, hne with
        | [], _ => rfl
        | [_], _ => rfl
        | _ :: _ :: _ :: _, _ => rfl
        | [_, _], hne => exact absurd rfl hne
      · have hl : ds.length = 2 := by
          have : (ds.length : Int) = 2 := by simpa using z
          omega
        match ds, hl, hi with
        | [x, y], _, hi =>
          have dx := hd.2 _ hi x (by simp)
          have dy := hd.2 _ hi y (by simp)
          refine gq_retP S2 hrt ((ge_and3 (k1 := isInt x) (k2 := isInt y) (k3 := isPos y) (ge_call hW hr (ga_one (ge_ix (ge_var 0) ge_int hi rfl)) ⟨x, rfl, dx, rfl⟩) (fun _ => ge_call hW hr (ga_one (ge_ix (ge_var 0) ge_int hi rfl)) ⟨y, rfl, dy, rfl⟩) (fun _ z2 => ?_)).is ?_)
          · cases y with
            | int j => exact (ge_gt (ge_ix (ge_var 0) ge_int hi rfl) ge_int).is rfl
            | _ => cases z2
          · unfold isRat
            rw [h, hi]
            rfl
end
end TM
/-! ## PgRat -/
set_option Elab.async false
set_option linter.all false
set_option maxRecDepth 100000
set_option maxHeartbeats 4000000
/-! PgRat: divisor, lowest, told, parts, plus, minus, times, share, lower, floor_of, bottom_of, ratio_text on ratios. -/
namespace TM
open PySem L2 PySem.Spec PyProof.Rows
/-! ### exact division by a divisor of any sign -/
def CDivS (_ j : Int) : Prop := j ≠ 0 ∧ j.natAbs.log2 < 9000
theorem op_fdivS {X : Cx} : OpR X (binaryOp .FloorDiv) (rI CDivS fun i j => .int (i.fdiv j)) := opI fun i j _ _ _ _ _ hc q => floordiv_int hc.1 q (.inl (PyProof.noPylong_of_log2 hc.2))
section
variable {C : Addr} {X : Cx} {O : Addr → Prop} {ρ : Env} {I J K L : Asr} {a b : Expr} {pos : Pos} {i j : Int}
theorem ge_fdivS (ha : GE C X O ρ I a J (Is (.int i))) (hb : GE C X O ρ J b K (Is (.int j))) (hc : CDivS i j) : GE C X O ρ I (.BinOp a .FloorDiv b pos) K (Is (.int (i.fdiv j))) := ge_bin op_fdivS ha hb (op2_I hc fun _ => .int _)
end
/-! ### lowest terms -/
theorem gcd_comm_int (a b : Int) : ((Nat.gcd a.natAbs b.natAbs : Nat) : Int) = (b.gcd a : Int) := by
  unfold Int.gcd
  rw [Nat.gcd_comm]
def byOf (a b : Int) : Int := if 0 < b then ((Nat.gcd a.natAbs b.natAbs : Nat) : Int) else -((Nat.gcd a.natAbs b.natAbs : Nat) : Int)
theorem gcd_pos {a b : Int} (h : b ≠ 0) : 0 < Nat.gcd a.natAbs b.natAbs := Nat.gcd_pos_of_pos_right _ (by omega)
theorem byOf_ne {a b : Int} (h : b ≠ 0) : byOf a b ≠ 0 := by
  have := gcd_pos (a := a) h
  unfold byOf
  split <;> omega
theorem byOf_abs {a b : Int} : (byOf a b).natAbs = Nat.gcd a.natAbs b.natAbs := by
  unfold byOf
  split <;> simp
theorem log2_mono' {a b : Nat} (h : a ≤ b) : a.log2 ≤ b.log2 := by
  by_cases ha : a = 0
  · subst ha
    simp
  · rw [Nat.le_log2 (by omega)]
    exact Nat.le_trans (Nat.log2_self_le ha) h
theorem byOf_log {a b : Int} (h : b ≠ 0) {n : Nat} (hb : b.natAbs.log2 < n) : (byOf a b).natAbs.log2 < n := by
  rw [byOf_abs]
  have h1 : Nat.gcd a.natAbs b.natAbs ≤ b.natAbs := Nat.gcd_le_right _ (by omega)
  exact Nat.lt_of_le_of_lt (log2_mono' h1) hb
theorem fdiv_neg_dvd {a g : Int} (hg : 0 < g) (h : g ∣ a) : a.fdiv (-g) = (-a) / g := by
  obtain ⟨c, rfl⟩ := h
  have e : g * c = (-g) * (-c) := by grind
  rw [e, Int.mul_fdiv_cancel_left _ (by omega)]
  have e2 : -(-g * -c) = g * (-c) := by grind
  rw [e2, Int.mul_ediv_cancel_left _ (by omega)]
theorem low_num (a b : Int) (h : b ≠ 0) : a.fdiv (byOf a b) = (Rat.divInt a b).num := by
  have hg : (0 : Int) < (Nat.gcd a.natAbs b.natAbs : Nat) := by have := gcd_pos (a := a) h; omega
  rw [Rat.num_divInt, ← gcd_comm_int]
  unfold byOf
  by_cases hb : 0 < b
  · rw [if_pos hb, Int.sign_eq_one_of_pos hb, Int.one_mul, Int.fdiv_eq_ediv_of_nonneg _ (by omega)]
  · rw [if_neg hb, Int.sign_eq_neg_one_of_neg (by omega), fdiv_neg_dvd hg (Int.ofNat_dvd_left.mpr (Nat.gcd_dvd_left _ _))]
    congr 1
    omega
theorem low_den (a b : Int) (h : b ≠ 0) : b.fdiv (byOf a b) = ((Rat.divInt a b).den : Int) := by
  have hg : (0 : Int) < (Nat.gcd a.natAbs b.natAbs : Nat) := by have := gcd_pos (a := a) h; omega
  rw [Rat.den_divInt, if_neg h]
  have e : (b.gcd a : Nat) = Nat.gcd a.natAbs b.natAbs := by
    unfold Int.gcd
    exact Nat.gcd_comm _ _
  rw [e]
  unfold byOf
  by_cases hb : 0 < b
  · rw [if_pos hb, Int.fdiv_eq_ediv_of_nonneg _ (by omega), Int.natCast_ediv]
    congr 1
    omega
  · rw [if_neg hb, fdiv_neg_dvd hg (Int.ofNat_dvd_left.mpr (Nat.gcd_dvd_right _ _)), Int.natCast_ediv]
    congr 1
    omega
/-! ### written ratios -/
/-- d is written as a over b -/
def Wr (d : D) (a b : Int) : Prop := 0 < b ∧ ((d = .int a ∧ b = 1) ∨ items d = some [.int a, .int b])
theorem Wr.rat {d : D} {a b : Int} (h : Wr d a b) : isRat d = true := by
  obtain ⟨hb, ⟨rfl, _⟩ | h⟩ := h
  · rfl
  · unfold isRat
    rw [h]
    simp [isInt, isPos, hb]
theorem Wr.dat {d : D} {a b : Int} (h : Wr d a b) : isDat2 d := by
  obtain ⟨hb, ⟨rfl, _⟩ | h⟩ := h
  · exact ⟨⟨_, rfl⟩, fun ds e => by cases e⟩
  · refine ⟨?_, fun ds e x hx => ?_⟩
    · cases d <;> first | exact ⟨_, rfl⟩ | cases h
    · rw [h] at e
      cases e
      rcases List.mem_cons.mp hx with rfl | hx
      · exact ⟨_, rfl⟩
      · rcases List.mem_cons.mp hx with rfl | hx
        · exact ⟨_, rfl⟩
        · cases hx
theorem wr_pair (q : Rat) : Wr (pair q) q.num q.den := ⟨by have := q.den_pos; omega, .inr rfl⟩
theorem wr_tup {a b : Int} (h : 0 < b) : Wr (.tup [.int a, .int b]) a b := ⟨h, .inr rfl⟩
theorem wr_lst {a b : Int} (h : 0 < b) : Wr (.lst [.int a, .int b]) a b := ⟨h, .inr rfl⟩
theorem wr_int (a : Int) : Wr (.int a) a 1 := ⟨by omega, .inl ⟨rfl, rfl⟩⟩
/-- what they are -/
abbrev rt (a b : Int) : Rat := Rat.divInt a b
theorem rt_self (q : Rat) : rt q.num q.den = q := Rat.num_divInt_den q
section
variable {P : Program} {w : World} {K : PySem.W.Frag} {mg : Str → Option Value} {base : Heap} {f : Addr} {fd : FuncData} {C : Addr} {k : Nat}
def Rdivisor : List D → D → Prop := fun ds r => ∃ a b : Int, ds = [.int a, .int b] ∧ r = .int ((Nat.gcd a.natAbs b.natAbs : Nat) : Int)
theorem sc_divisor : FnScope ["one", "other"] ["one", "other"] (defScope (top 10)) := ⟨rfl, rfl, rfl, by decide +kernel, rfl, by decide +kernel, by decide +kernel⟩
theorem fn_divisor (g : Gs K mg C) (F : FnP K "divisor" "divisor" (top 10) f fd) (hm : mg "divisor" = some (.ref f)) : FnS P w K mg base (k + 1) C "divisor" Rdivisor := by
  refine fn_pure F hm sc_divisor (F.bindsN fun _ _ _ _ _ _ us hl => match us, hl with | [_, _], _ => rfl) (fun ds r h => by obtain ⟨a, b, rfl, _⟩ := h; rfl) ?_
  rintro cdv A outer s H E ds r hr ⟨a, b, rfl, rfl⟩
  intro O H0 vs De hw hn hrt hnx
  have S : Stt C O H0 H0 (start ["one", "other"] vs) [some (.int a), some (.int b)] (ownA O H0) := Stt.start hw hn ownA_refl
  exact gq_retP S hrt (ge_gcd g.gcd (ge_var 0) (ge_var 1))
def Rlowest : List D → D → Prop := fun ds r => ∃ a b : Int, ds = [.int a, .int b] ∧ b ≠ 0 ∧ b.natAbs.log2 < 9000 ∧ r = pair (rt a b)
theorem sc_lowest : FnScope ["top", "bottom", "by"] ["top", "bottom"] (defScope (top 11)) := ⟨rfl, rfl, rfl, by decide +kernel, rfl, by decide +kernel, by decide +kernel⟩
theorem fn_lowest (hD : FnS P w K mg base k C "divisor" Rdivisor) (F : FnP K "lowest" "lowest" (top 11) f fd) (hm : mg "lowest" = some (.ref f)) : FnS P w K mg base (k + 1) C "lowest" Rlowest := by
  refine fn_pure F hm sc_lowest (F.bindsN fun _ _ _ _ _ _ us hl => match us, hl with | [_, _], _ => rfl) (fun ds r h => by obtain ⟨a, b, rfl, _⟩ := h; rfl) ?_
  rintro cdv A outer s H E ds r hr ⟨a, b, rfl, hb, hl, rfl⟩
  intro O H0 vs De hw hn hrt hnx
  have S : Stt C O H0 H0 (start ["top", "bottom", "by"] vs) [some (.int a), some (.int b), none] (ownA O H0) := Stt.start hw hn ownA_refl
  refine gq_setP (d := .int (byOf a b)) 2 S sc_lowest.nd ?_ (fun σ1 H1 S1 => ?_)
  · refine ge_if (gt_gt (ge_var 1) ge_int) (fun h => (ge_call hD hr (ga_two (ge_var 0) (ge_var 1)) ⟨a, b, rfl, rfl⟩).is ?_) (fun h => (ge_neg (ge_call hD hr (ga_two (ge_var 0) (ge_var 1)) ⟨a, b, rfl, rfl⟩)).is ?_)
    · unfold byOf
      rw [if_pos (of_decide_eq_true h)]
    · unfold byOf
      rw [if_neg (of_decide_eq_false h)]
  · have c1 : ∀ i, CDivS i (byOf a b) := fun _ => ⟨byOf_ne hb, byOf_log hb hl⟩
    refine gq_retP S1 hrt ((ge_tup (ga_two (ge_fdivS (ge_var 0) (ge_var 2) (c1 _)) (ge_fdivS (ge_var 1) (ge_var 2) (c1 _)))).is ?_)
    unfold pair
    rw [← low_num a b hb, ← low_den a b hb]

/-! ### told, parts -/
/-- what parts gives of d -/
def partsD (d : D) : D := if isInt d then .tup [d, .int 1] else d
theorem partsD_items {d : D} {a b : Int} (h : Wr d a b) : items (partsD d) = some [.int a, .int b] := by
  obtain ⟨hb, ⟨rfl, rfl⟩ | h⟩ := h
  · rfl
  · unfold partsD
    cases d with
    | lst xs => exact h
    | tup xs => exact h
    | _ => cases h
theorem isInt_items {d : D} {a b : Int} (h : items d = some [.int a, .int b]) : isInt d = false := by cases d <;> first | rfl | cases h
def Rparts : List D → D → Prop := fun ds r => ∃ (d : D) (a b : Int), ds = [d] ∧ Wr d a b ∧ r = partsD d
theorem sc_parts : FnScope ["value"] ["value"] (defScope (top 13)) := ⟨rfl, rfl, rfl, by decide +kernel, rfl, by decide +kernel, by decide +kernel⟩
theorem fn_parts (hR : FnS P w K mg base k C "is_ratio" RisRatio) (hW : FnS P w K mg base k C "is_whole" RisWhole) (F : FnP K "parts" "parts" (top 13) f fd) (hm : mg "parts" = some (.ref f)) : FnS P w K mg base (k + 1) C "parts" Rparts := by
  refine fn_pure F hm sc_parts (F.bindsN fun _ _ _ _ _ _ us hl => match us, hl with | [_], _ => rfl) (fun ds r h => by obtain ⟨d, a, b, rfl, _⟩ := h; rfl) ?_
  rintro cdv A outer s H E ds r hr ⟨d, a, b, rfl, wd, rfl⟩
  intro O H0 vs De hw hn hrt hnx
  have S : Stt C O H0 H0 (start ["value"] vs) [some d] (ownA O H0) := Stt.start hw hn ownA_refl
  refine gq_ifP S (gt_not (gt_val (ge_call hR hr (ga_one (ge_var 0)) ⟨d, rfl, wd.dat, rfl⟩))) (fun z => by rw [wd.rat] at z; cases z) (fun _ H1 S1 => gq_nil ?_)
  refine gq_retP S1 hrt (ge_if (gt_val (ge_call hW hr (ga_one (ge_var 0)) ⟨d, rfl, wd.dat.1, rfl⟩)) (fun h => (ge_tup (ga_two (ge_var 0) ge_int)).is ?_) (fun h => (ge_var 0).is ?_))
  · unfold partsD
    rw [if_pos h]
  · unfold partsD
    rw [if_neg (by rw [h]; exact Bool.false_ne_true)]
def Rtold : List D → D → Prop := fun ds r => ∃ (d x : D) (a b : Int), ds = [d, x] ∧ Wr d a b ∧ b.natAbs.log2 < 9000 ∧ r = pair (rt a b)
theorem sc_told : FnScope ["value", "what"] ["value", "what"] (defScope (top 12)) := ⟨rfl, rfl, rfl, by decide +kernel, rfl, by decide +kernel, by decide +kernel⟩
theorem rt_one (a : Int) : pair (rt a 1) = .tup [.int a, .int 1] := by
  have e : rt a 1 = (a : Rat) := by rw [rt, Rat.divInt_eq_div]; grind
  rw [e]
  rfl
theorem fn_told (hR : FnS P w K mg base k C "is_ratio" RisRatio) (hW : FnS P w K mg base k C "is_whole" RisWhole) (hL : FnS P w K mg base k C "lowest" Rlowest) (F : FnP K "told" "told" (top 12) f fd) (hm : mg "told" = some (.ref f)) : FnS P w K mg base (k + 1) C "told" Rtold := by
  refine fn_pure F hm sc_told (F.bindsN fun _ _ _ _ _ _ us hl => match us, hl with | [_, _], _ => rfl) (fun ds r h => by obtain ⟨d, x, a, b, rfl, _⟩ := h; rfl) ?_
  rintro cdv A outer s H E ds r hr ⟨d, x, a, b, rfl, wd, hl, rfl⟩
  intro O H0 vs De hw hn hrt hnx
  have S : Stt C O H0 H0 (start ["value", "what"] vs) [some d, some x] (ownA O H0) := Stt.start hw hn ownA_refl
  refine gq_ifP S (gt_not (gt_val (ge_call hR hr (ga_one (ge_var 0)) ⟨d, rfl, wd.dat, rfl⟩))) (fun z => by rw [wd.rat] at z; cases z) (fun _ H1 S1 => gq_nil ?_)
  have hb := wd.1
  refine gq_retP S1 hrt (ge_if (gt_val (ge_call hW hr (ga_one (ge_var 0)) ⟨d, rfl, wd.dat.1, rfl⟩)) (fun h => (ge_tup (ga_two (ge_var 0) ge_int)).is ?_) (fun h => ?_))
  · obtain ⟨_, ⟨rfl, rfl⟩ | hi⟩ := wd
    · exact (rt_one a).symm
    · rw [isInt_items hi] at h
      cases h
  · obtain ⟨_, ⟨rfl, rfl⟩ | hi⟩ := wd
    · cases h
    · exact ge_call hL hr (ga_two (ge_ix (ge_var 0) ge_int hi rfl) (ge_ix (ge_var 0) ge_int hi rfl)) ⟨a, b, rfl, by omega, hl, rfl⟩
/-! ### plus, minus, times, share -/
def B4 (a b : Int) : Prop := a.natAbs.log2 < 4490 ∧ b.natAbs.log2 < 4490
def Rbin (op : Rat → Rat → Rat) : List D → D → Prop := fun ds r => ∃ (x y : D) (a b c d : Int), ds = [x, y] ∧ Wr x a b ∧ Wr y c d ∧ B4 a b ∧ B4 c d ∧ r = pair (op (rt a b) (rt c d))
theorem log2_mul_lt {a b : Int} {n m : Nat} (ha : a.natAbs.log2 < n) (hb : b.natAbs.log2 < m) (h : 0 < n + m) : (a * b).natAbs.log2 < n + m := by
  by_cases h0 : (a * b).natAbs = 0
  · rw [h0]
    simp
    omega
  · rw [Nat.log2_lt h0, Int.natAbs_mul, Nat.pow_add]
    rw [Int.natAbs_mul] at h0
    have h1 : a.natAbs ≠ 0 := fun z => h0 (by rw [z, Nat.zero_mul])
    have h2 : b.natAbs ≠ 0 := fun z => h0 (by rw [z, Nat.mul_zero])
    exact Nat.mul_lt_mul'' ((Nat.log2_lt h1).mp ha) ((Nat.log2_lt h2).mp hb)
theorem log2_mul4 {a b : Int} (ha : a.natAbs.log2 < 4490) (hb : b.natAbs.log2 < 4490) : (a * b).natAbs.log2 < 9000 := Nat.lt_of_lt_of_le (log2_mul_lt ha hb (by omega)) (by omega)
theorem cmul4 {a b : Int} (ha : a.natAbs.log2 < 4490) (hb : b.natAbs.log2 < 4490) : CMulW a b := by
  unfold CMulW
  omega

theorem sc_plus : FnScope ["one", "other", "first", "second"] ["one", "other"] (defScope (top 14)) := ⟨rfl, rfl, rfl, by decide +kernel, rfl, by decide +kernel, by decide +kernel⟩
theorem fn_plus (hP : FnS P w K mg base k C "parts" Rparts) (hL : FnS P w K mg base k C "lowest" Rlowest) (F : FnP K "plus" "plus" (top 14) f fd) (hm : mg "plus" = some (.ref f)) : FnS P w K mg base (k + 1) C "plus" (Rbin (· + ·)) := by
  refine fn_pure F hm sc_plus (F.bindsN fun _ _ _ _ _ _ us hl => match us, hl with | [_, _], _ => rfl) (fun ds r h => by obtain ⟨x, y, a, b, c, d, rfl, _⟩ := h; rfl) ?_
  rintro cdv A outer s H E ds r hr ⟨x, y, a, b, c, d, rfl, wx, wy, b1, b2, rfl⟩
  intro O H0 vs De hw hn hrt hnx
  have S : Stt C O H0 H0 (start ["one", "other", "first", "second"] vs) [some x, some y, none, none] (ownA O H0) := Stt.start hw hn ownA_refl
  have i1 := partsD_items wx
  have i2 := partsD_items wy
  have hb := wx.1
  have hd := wy.1
  refine gq_par 2 3 S rfl sc_plus.nd (ga_two (ge_call hP hr (ga_one (ge_var 0)) ⟨x, a, b, rfl, wx, rfl⟩) (ge_call hP hr (ga_one (ge_var 1)) ⟨y, c, d, rfl, wy, rfl⟩)) (fun σ1 H1 S1 => ?_)
  refine gq_retP S1 hrt (ge_call hL hr (ga_two (ge_add (ge_mul (ge_ix (ge_var 2) ge_int i1 rfl) (ge_ix (ge_var 3) ge_int i2 rfl) (cmul4 b1.1 b2.2)) (ge_mul (ge_ix (ge_var 3) ge_int i2 rfl) (ge_ix (ge_var 2) ge_int i1 rfl) (cmul4 b2.1 b1.2))) (ge_mul (ge_ix (ge_var 2) ge_int i1 rfl) (ge_ix (ge_var 3) ge_int i2 rfl) (cmul4 b1.2 b2.2))) ⟨_, _, rfl, Int.mul_ne_zero (by omega) (by omega), log2_mul4 b1.2 b2.2, ?_⟩)
  show pair (rt a b + rt c d) = _
  rw [rt, rt, Rat.divInt_add_divInt _ _ (by omega) (by omega)]

theorem sc_minus : FnScope ["one", "other", "first", "second"] ["one", "other"] (defScope (top 15)) := ⟨rfl, rfl, rfl, by decide +kernel, rfl, by decide +kernel, by decide +kernel⟩
theorem fn_minus (hP : FnS P w K mg base k C "parts" Rparts) (hL : FnS P w K mg base k C "lowest" Rlowest) (F : FnP K "minus" "minus" (top 15) f fd) (hm : mg "minus" = some (.ref f)) : FnS P w K mg base (k + 1) C "minus" (Rbin (· - ·)) := by
  refine fn_pure F hm sc_minus (F.bindsN fun _ _ _ _ _ _ us hl => match us, hl with | [_, _], _ => rfl) (fun ds r h => by obtain ⟨x, y, a, b, c, d, rfl, _⟩ := h; rfl) ?_
  rintro cdv A outer s H E ds r hr ⟨x, y, a, b, c, d, rfl, wx, wy, b1, b2, rfl⟩
  intro O H0 vs De hw hn hrt hnx
  have S : Stt C O H0 H0 (start ["one", "other", "first", "second"] vs) [some x, some y, none, none] (ownA O H0) := Stt.start hw hn ownA_refl
  have i1 := partsD_items wx
  have i2 := partsD_items wy
  have hb := wx.1
  have hd := wy.1
  refine gq_par 2 3 S rfl sc_minus.nd (ga_two (ge_call hP hr (ga_one (ge_var 0)) ⟨x, a, b, rfl, wx, rfl⟩) (ge_call hP hr (ga_one (ge_var 1)) ⟨y, c, d, rfl, wy, rfl⟩)) (fun σ1 H1 S1 => ?_)
  refine gq_retP S1 hrt (ge_call hL hr (ga_two (ge_sub (ge_mul (ge_ix (ge_var 2) ge_int i1 rfl) (ge_ix (ge_var 3) ge_int i2 rfl) (cmul4 b1.1 b2.2)) (ge_mul (ge_ix (ge_var 3) ge_int i2 rfl) (ge_ix (ge_var 2) ge_int i1 rfl) (cmul4 b2.1 b1.2))) (ge_mul (ge_ix (ge_var 2) ge_int i1 rfl) (ge_ix (ge_var 3) ge_int i2 rfl) (cmul4 b1.2 b2.2))) ⟨_, _, rfl, Int.mul_ne_zero (by omega) (by omega), log2_mul4 b1.2 b2.2, ?_⟩)
  show pair (rt a b - rt c d) = _
  rw [rt, rt, Rat.divInt_sub_divInt _ _ (by omega) (by omega)]

theorem sc_times : FnScope ["one", "other", "first", "second"] ["one", "other"] (defScope (top 16)) := ⟨rfl, rfl, rfl, by decide +kernel, rfl, by decide +kernel, by decide +kernel⟩
theorem fn_times (hP : FnS P w K mg base k C "parts" Rparts) (hL : FnS P w K mg base k C "lowest" Rlowest) (F : FnP K "times" "times" (top 16) f fd) (hm : mg "times" = some (.ref f)) : FnS P w K mg base (k + 1) C "times" (Rbin (· * ·)) := by
  refine fn_pure F hm sc_times (F.bindsN fun _ _ _ _ _ _ us hl => match us, hl with | [_, _], _ => rfl) (fun ds r h => by obtain ⟨x, y, a, b, c, d, rfl, _⟩ := h; rfl) ?_
  rintro cdv A outer s H E ds r hr ⟨x, y, a, b, c, d, rfl, wx, wy, b1, b2, rfl⟩
  intro O H0 vs De hw hn hrt hnx
  have S : Stt C O H0 H0 (start ["one", "other", "first", "second"] vs) [some x, some y, none, none] (ownA O H0) := Stt.start hw hn ownA_refl
  have i1 := partsD_items wx
  have i2 := partsD_items wy
  have hb := wx.1
  have hd := wy.1
  refine gq_par 2 3 S rfl sc_times.nd (ga_two (ge_call hP hr (ga_one (ge_var 0)) ⟨x, a, b, rfl, wx, rfl⟩) (ge_call hP hr (ga_one (ge_var 1)) ⟨y, c, d, rfl, wy, rfl⟩)) (fun σ1 H1 S1 => ?_)
  refine gq_retP S1 hrt (ge_call hL hr (ga_two (ge_mul (ge_ix (ge_var 2) ge_int i1 rfl) (ge_ix (ge_var 3) ge_int i2 rfl) (cmul4 b1.1 b2.1)) (ge_mul (ge_ix (ge_var 2) ge_int i1 rfl) (ge_ix (ge_var 3) ge_int i2 rfl) (cmul4 b1.2 b2.2))) ⟨_, _, rfl, Int.mul_ne_zero (by omega) (by omega), log2_mul4 b1.2 b2.2, ?_⟩)
  show pair (rt a b * rt c d) = _
  rw [rt, rt, Rat.divInt_mul_divInt]

def Rshare : List D → D → Prop := fun ds r => ∃ (x y : D) (a b c d : Int), ds = [x, y] ∧ Wr x a b ∧ Wr y c d ∧ B4 a b ∧ B4 c d ∧ c ≠ 0 ∧ r = pair (rt a b / rt c d)

theorem sc_share : FnScope ["one", "other", "first", "second"] ["one", "other"] (defScope (top 17)) := ⟨rfl, rfl, rfl, by decide +kernel, rfl, by decide +kernel, by decide +kernel⟩
theorem fn_share (hP : FnS P w K mg base k C "parts" Rparts) (hL : FnS P w K mg base k C "lowest" Rlowest) (F : FnP K "share" "share" (top 17) f fd) (hm : mg "share" = some (.ref f)) : FnS P w K mg base (k + 1) C "share" Rshare := by
  refine fn_pure F hm sc_share (F.bindsN fun _ _ _ _ _ _ us hl => match us, hl with | [_, _], _ => rfl) (fun ds r h => by obtain ⟨x, y, a, b, c, d, rfl, _⟩ := h; rfl) ?_
  rintro cdv A outer s H E ds r hr ⟨x, y, a, b, c, d, rfl, wx, wy, b1, b2, hc, rfl⟩
  intro O H0 vs De hw hn hrt hnx
  have S : Stt C O H0 H0 (start ["one", "other", "first", "second"] vs) [some x, some y, none, none] (ownA O H0) := Stt.start hw hn ownA_refl
  have i1 := partsD_items wx
  have i2 := partsD_items wy
  have hb := wx.1
  have hd := wy.1
  refine gq_par 2 3 S rfl sc_share.nd (ga_two (ge_call hP hr (ga_one (ge_var 0)) ⟨x, a, b, rfl, wx, rfl⟩) (ge_call hP hr (ga_one (ge_var 1)) ⟨y, c, d, rfl, wy, rfl⟩)) (fun σ1 H1 S1 => ?_)
  refine gq_ifP S1 (gt_eqI (ge_ix (ge_var 3) ge_int i2 rfl) ge_int) (fun z => absurd (of_decide_eq_true z) hc) (fun _ H2 S2 => gq_nil ?_)
  refine gq_retP S2 hrt (ge_call hL hr (ga_two (ge_mul (ge_ix (ge_var 2) ge_int i1 rfl) (ge_ix (ge_var 3) ge_int i2 rfl) (cmul4 b1.1 b2.2)) (ge_mul (ge_ix (ge_var 2) ge_int i1 rfl) (ge_ix (ge_var 3) ge_int i2 rfl) (cmul4 b1.2 b2.1))) ⟨_, _, rfl, Int.mul_ne_zero (by omega) hc, log2_mul4 b1.2 b2.1, ?_⟩)
  rw [rt, rt, Rat.div_def, Rat.inv_divInt, Rat.divInt_mul_divInt]

def Rlower : List D → D → Prop := fun ds r => ∃ (x y : D) (a b c d : Int), ds = [x, y] ∧ Wr x a b ∧ Wr y c d ∧ B4 a b ∧ B4 c d ∧ r = .bl (decide (a * d < c * b))

theorem sc_lower : FnScope ["one", "other", "first", "second"] ["one", "other"] (defScope (top 18)) := ⟨rfl, rfl, rfl, by decide +kernel, rfl, by decide +kernel, by decide +kernel⟩
theorem fn_lower (hP : FnS P w K mg base k C "parts" Rparts) (hL : FnS P w K mg base k C "lowest" Rlowest) (F : FnP K "lower" "lower" (top 18) f fd) (hm : mg "lower" = some (.ref f)) : FnS P w K mg base (k + 1) C "lower" Rlower := by
  refine fn_pure F hm sc_lower (F.bindsN fun _ _ _ _ _ _ us hl => match us, hl with | [_, _], _ => rfl) (fun ds r h => by obtain ⟨x, y, a, b, c, d, rfl, _⟩ := h; rfl) ?_
  rintro cdv A outer s H E ds r hr ⟨x, y, a, b, c, d, rfl, wx, wy, b1, b2, rfl⟩
  intro O H0 vs De hw hn hrt hnx
  have S : Stt C O H0 H0 (start ["one", "other", "first", "second"] vs) [some x, some y, none, none] (ownA O H0) := Stt.start hw hn ownA_refl
  have i1 := partsD_items wx
  have i2 := partsD_items wy
  have hb := wx.1
  have hd := wy.1
  refine gq_par 2 3 S rfl sc_lower.nd (ga_two (ge_call hP hr (ga_one (ge_var 0)) ⟨x, a, b, rfl, wx, rfl⟩) (ge_call hP hr (ga_one (ge_var 1)) ⟨y, c, d, rfl, wy, rfl⟩)) (fun σ1 H1 S1 => ?_)
  exact gq_retP S1 hrt (ge_lt (ge_mul (ge_ix (ge_var 2) ge_int i1 rfl) (ge_ix (ge_var 3) ge_int i2 rfl) (cmul4 b1.1 b2.2)) (ge_mul (ge_ix (ge_var 3) ge_int i2 rfl) (ge_ix (ge_var 2) ge_int i1 rfl) (cmul4 b2.1 b1.2)))
end
end TM
/-! ## PgRat2 -/
set_option Elab.async false
set_option linter.all false
set_option maxRecDepth 100000
set_option maxHeartbeats 4000000
/-! PgRat2: floor_of, bottom_of, ratio_text. -/
namespace TM
open PySem L2 PySem.Spec PyProof.Rows
section
variable {C : Addr} {X : Cx} {O : Addr → Prop} {ρ : Env} {I J K L : Asr} {a b : Expr} {pos : Pos} {s t : Str}
theorem ge_catS (ha : GE C X O ρ I a J (Is (.str s))) (hb : GE C X O ρ J b K (Is (.str t))) (hl : s.length + t.length ≤ 100000) : GE C X O ρ I (.BinOp a .Add b pos) K (Is (.str (s ++ t))) := ge_bin op_add_str ha hb fun H x y Q w h1 h2 k => by
  cases h1
  cases h2
  exact ⟨s, t, rfl, rfl, Nat.le_trans hl (by decide), k _ H _ (Same.refl H) rfl (.str _)⟩
end
/-- the text of q -/
def txtQ (q : Rat) : Str := if q.den = 1 then Str.ofString (toString q.num) else Str.ofString (toString q.num) ++ "/" ++ Str.ofString (toString (q.den : Int))
def lcmF (ns : List Rat) : Nat := ns.foldl (fun n q => Nat.lcm n q.den) 1
theorem lcmF_pos (ns : List Rat) : 0 < lcmF ns := by
  unfold lcmF
  have : ∀ (l : List Rat) (n : Nat), 0 < n → 0 < l.foldl (fun n q => Nat.lcm n q.den) n := by
    intro l
    induction l with
    | nil => intro n h; exact h
    | cons q l ih => intro n h; exact ih _ (Nat.lcm_pos h q.den_pos)
  exact this ns 1 (by omega)
theorem lcmF_snoc (ns : List Rat) (q : Rat) : lcmF (ns ++ [q]) = Nat.lcm (lcmF ns) q.den := by
  unfold lcmF
  rw [List.foldl_append]
  rfl
theorem prs_len {ns : List Rat} : (prs ns).length = ns.length := by unfold prs; rw [List.length_map]
theorem prs_get {ns : List Rat} {i : Nat} (h : i < ns.length) : (prs ns).getD i .non = pair (ns[i]) := by
  unfold prs
  rw [List.getD_eq_getElem?_getD, List.getElem?_map, List.getElem?_eq_getElem h]
  rfl
section
variable {P : Program} {w : World} {K : PySem.W.Frag} {mg : Str → Option Value} {base : Heap} {f : Addr} {fd : FuncData} {C : Addr} {k : Nat}
def Rfloor : List D → D → Prop := fun ds r => ∃ (x : D) (a b : Int), ds = [x] ∧ Wr x a b ∧ b.natAbs.log2 < 9000 ∧ r = .int (a / b)
theorem sc_floor : FnScope ["value", "top", "bottom"] ["value"] (defScope (top 19)) := ⟨rfl, rfl, rfl, by decide +kernel, rfl, by decide +kernel, by decide +kernel⟩
theorem fn_floor (hP : FnS P w K mg base k C "parts" Rparts) (F : FnP K "floor_of" "floor_of" (top 19) f fd) (hm : mg "floor_of" = some (.ref f)) : FnS P w K mg base (k + 1) C "floor_of" Rfloor := by
  refine fn_pure F hm sc_floor (F.bindsN fun _ _ _ _ _ _ us hl => match us, hl with | [_], _ => rfl) (fun ds r h => by obtain ⟨x, a, b, rfl, _⟩ := h; rfl) ?_
  rintro cdv A outer s H E ds r hr ⟨x, a, b, rfl, wx, hl, rfl⟩
  intro O H0 vs De hw hn hrt hnx
  have S : Stt C O H0 H0 (start ["value", "top", "bottom"] vs) [some x, none, none] (ownA O H0) := Stt.start hw hn ownA_refl
  have i1 := partsD_items wx
  refine gq_two (Φ := Is (partsD x)) S (tg_two (i := 1) (j := 2) (vs := [1, 2]) rfl sc_floor.nd rfl (.inl rfl) rfl (.inl rfl) (by simp) (by simp)) (ge_call hP hr (ga_one (ge_var 0)) ⟨x, a, b, rfl, wx, rfl⟩) (fun d e => ?_) (fun σ1 H1 d e S1 => ?_)
  · cases e
    exact two_items i1
  · cases e
    rw [f2_items i1] at S1
    exact gq_retP S1 hrt (ge_fdiv (ge_var 1) (ge_var 2) ⟨wx.1, hl⟩)
def Rbottom : List D → D → Prop := fun ds r => ∃ ns : List Rat, ds = [.tup (prs ns)] ∧ ns.length ≤ 20 ∧ (∀ q ∈ ns, q.den < 2 ^ 400) ∧ r = .int (lcmF ns : Nat)
theorem sc_bottom : FnScope ["ratios", "found", "top", "bottom"] ["ratios"] (defScope (top 20)) := ⟨rfl, rfl, rfl, by decide +kernel, rfl, by decide +kernel, by decide +kernel⟩
theorem lcm_le (a b : Nat) (ha : 0 < a) (hb : 0 < b) : Nat.lcm a b ≤ a * b := Nat.le_of_dvd (Nat.mul_pos ha hb) (Nat.lcm_dvd (Nat.dvd_mul_right ..) (Nat.dvd_mul_left ..))
theorem lcmF_le (M : Nat) (ns : List Rat) (h : ∀ q ∈ ns, q.den < M) : lcmF ns ≤ M ^ ns.length := by
  unfold lcmF
  have : ∀ (l : List Rat) (n : Nat), (∀ q ∈ l, q.den < M) → 0 < n → l.foldl (fun n q => Nat.lcm n q.den) n ≤ n * M ^ l.length := by
    intro l
    induction l with
    | nil => intro n _ _; simp
    | cons q l ih =>
      intro n h hn
      have h1 := ih (Nat.lcm n q.den) (fun r hr => h r (List.mem_cons_of_mem _ hr)) (Nat.lcm_pos hn q.den_pos)
      refine Nat.le_trans h1 ?_
      have h2 : Nat.lcm n q.den ≤ n * M := Nat.le_trans (lcm_le _ _ hn q.den_pos) (Nat.mul_le_mul_left _ (Nat.le_of_lt (h q List.mem_cons_self)))
      rw [List.length_cons, Nat.pow_succ, Nat.mul_comm (M ^ l.length) M, ← Nat.mul_assoc]
      exact Nat.mul_le_mul_right _ h2
  have h1 := this ns 1 h (by omega)
  rwa [Nat.one_mul] at h1
theorem log2_of_le {a n : Nat} (h : a ≤ 2 ^ n) : a.log2 ≤ n := by
  by_cases h0 : a = 0
  · subst h0
    simp
  · have h1 := log2_mono' h
    rw [Nat.log2_two_pow] at h1
    exact h1
theorem lcmF_log {ns : List Rat} (hl : ns.length ≤ 20) (h : ∀ q ∈ ns, q.den < 2 ^ 400) : (lcmF ns).log2 ≤ 8000 := by
  have h1 := lcmF_le (2 ^ 400) ns h
  generalize e : (400 : Nat) = m at h1
  rw [← Nat.pow_mul] at h1
  refine log2_of_le (Nat.le_trans h1 (Nat.pow_le_pow_right (by omega) ?_))
  rw [← e]
  omega
theorem fn_bottom (hD : FnS P w K mg base k C "divisor" Rdivisor) (F : FnP K "bottom_of" "bottom_of" (top 20) f fd) (hm : mg "bottom_of" = some (.ref f)) : FnS P w K mg base (k + 1) C "bottom_of" Rbottom := by
  refine fn_pure F hm sc_bottom (F.bindsN fun _ _ _ _ _ _ us hl => match us, hl with | [_], _ => rfl) (fun ds r h => by obtain ⟨x, rfl, _⟩ := h; rfl) ?_
  rintro cdv A outer s H E ds r hr ⟨ns, rfl, hlen, hns, rfl⟩
  intro O H0 vs De hw hn hrt hnx
  have S : Stt C O H0 H0 (start ["ratios", "found", "top", "bottom"] vs) [some (.tup (prs ns)), none, none, none] (ownA O H0) := Stt.start hw hn ownA_refl
  refine gq_setP 1 S sc_bottom.nd ge_int (fun σ1 H1 S1 => ?_)
  refine gq_for S1 PassesOwn.never rfl (gi_tup (ge_var 0)) (tg_two (i := 2) (j := 3) (vs := [2, 3]) rfl sc_bottom.nd rfl (.inl rfl) rfl (.inl rfl) (by simp) (by simp)) (fun i hi => ?_)
    (fun i ρ I => I = ownA O H0 ∧ ∃ x y, ρ = [some (.tup (prs ns)), some (.int (lcmF (ns.take i) : Nat)), x, y]) ⟨rfl, none, none, rfl⟩ ?_ ?_
  · rw [prs_len] at hi
    rw [prs_get hi]
    exact ⟨_, _, rfl⟩
  · rintro H2 e2 i ρ' I' σ' H' hi ⟨rfl, x, y, rfl⟩ S2
    rw [prs_len] at hi
    rw [prs_get hi] at S2
    have dp : (0 : Int) < (ns[i].den : Int) := by have := ns[i].den_pos; omega
    have lp := lcmF_pos (ns.take i)
    have sub : ∀ q ∈ ns.take i, q.den < 2 ^ 400 := fun q hq => hns q (List.mem_of_mem_take hq)
    have lg := lcmF_log (by rw [List.length_take]; omega) sub
    have dl : (ns[i].den).log2 ≤ 400 := log2_of_le (Nat.le_of_lt (hns _ (List.getElem_mem hi)))
    have gp := Nat.gcd_pos_of_pos_left ns[i].den lp
    have gl : (Nat.gcd (lcmF (ns.take i)) ns[i].den).log2 ≤ 400 := Nat.le_trans (log2_mono' (Nat.gcd_le_right _ ns[i].den_pos)) dl
    have q1 : ((lcmF (ns.take i) / Nat.gcd (lcmF (ns.take i)) ns[i].den : Nat)).log2 ≤ 8000 := Nat.le_trans (log2_mono' (Nat.div_le_self _ _)) lg
    refine gq_setP (d := .int (lcmF (ns.take (i + 1)) : Nat)) 1 S2 sc_bottom.nd ((ge_mul (ge_fdiv (ge_var 1) (ge_call hD hr (ga_two (ge_var 1) (ge_var 3)) ⟨_, _, rfl, rfl⟩) ⟨?_, ?_⟩) (ge_var 3) ?_).is ?_) (fun σ3 H3 S3 => gq_nil ⟨_, _, ⟨rfl, _, _, rfl⟩, S3⟩)
    · simp only [Int.natAbs_natCast]
      omega
    · simp only [Int.natAbs_natCast]
      omega
    · unfold CMulW
      simp only [Int.natAbs_natCast]
      rw [← Int.natCast_ediv, Int.natAbs_natCast]
      omega
    · simp only [Int.natAbs_natCast]
      have e : ns.take (i + 1) = ns.take i ++ [ns[i]] := by rw [List.take_add_one, List.getElem?_eq_getElem hi]; rfl
      rw [e, lcmF_snoc, ← Int.natCast_ediv, ← Int.natCast_mul]
      congr 2
      unfold Nat.lcm
      rw [Nat.div_mul_right_comm (Nat.gcd_dvd_left _ _)]
  · rintro ρ' I' σ' H' ⟨rfl, x, y, rfl⟩ S2
    rw [prs_len, List.take_length] at S2
    exact gq_retP S2 hrt (ge_var 1)
def RratioText : List D → D → Prop := fun ds r => ∃ (x : D) (a b : Int), ds = [x] ∧ Wr x a b ∧ a.natAbs.log2 < 1920 ∧ b.natAbs.log2 < 1920 ∧ r = .str (txtQ (rt a b))
theorem sc_ratio_text : FnScope ["value", "top", "bottom"] ["value"] (defScope (top 21)) := ⟨rfl, rfl, rfl, by decide +kernel, rfl, by decide +kernel, by decide +kernel⟩
theorem rt_num_le {a b : Int} (hb : 0 < b) : (rt a b).num.natAbs ≤ a.natAbs := by
  rw [← low_num a b (by omega)]
  unfold byOf
  have hg : (0 : Int) < (Nat.gcd a.natAbs b.natAbs : Nat) := by have := gcd_pos (a := a) (b := b) (by omega); omega
  rw [if_pos hb, Int.fdiv_eq_ediv_of_nonneg _ (by omega), Int.natAbs_ediv_of_dvd (Int.ofNat_dvd_left.mpr (Nat.gcd_dvd_left _ _))]
  exact Nat.div_le_self _ _
theorem rt_den_le {a b : Int} (hb : 0 < b) : (rt a b).den ≤ b.natAbs := by
  have h := low_den a b (by omega)
  have hg : (0 : Int) < (Nat.gcd a.natAbs b.natAbs : Nat) := by have := gcd_pos (a := a) (b := b) (by omega); omega
  unfold byOf at h
  rw [if_pos hb, Int.fdiv_eq_ediv_of_nonneg _ (by omega)] at h
  have h2 : (b / ((Nat.gcd a.natAbs b.natAbs : Nat) : Int)).natAbs ≤ b.natAbs := by
    rw [Int.natAbs_ediv_of_dvd (Int.ofNat_dvd_left.mpr (Nat.gcd_dvd_right _ _))]
    exact Nat.div_le_self _ _
  rw [h] at h2
  simpa using h2
theorem fn_ratio_text (g : Gs K mg C) (hT : FnS P w K mg base k C "told" Rtold) (F : FnP K "ratio_text" "ratio_text" (top 21) f fd) (hm : mg "ratio_text" = some (.ref f)) : FnS P w K mg base (k + 1) C "ratio_text" RratioText := by
  refine fn_pure F hm sc_ratio_text (F.bindsN fun _ _ _ _ _ _ us hl => match us, hl with | [_], _ => rfl) (fun ds r h => by obtain ⟨x, a, b, rfl, _⟩ := h; rfl) ?_
  rintro cdv A outer s H E ds r hr ⟨x, a, b, rfl, wx, la, lb, rfl⟩
  intro O H0 vs De hw hn hrt hnx
  have S : Stt C O H0 H0 (start ["value", "top", "bottom"] vs) [some x, none, none] (ownA O H0) := Stt.start hw hn ownA_refl
  have i1 : items (pair (rt a b)) = some [.int (rt a b).num, .int (rt a b).den] := rfl
  refine gq_two (Φ := Is (pair (rt a b))) S (tg_two (i := 1) (j := 2) (vs := [1, 2]) rfl sc_ratio_text.nd rfl (.inl rfl) rfl (.inl rfl) (by simp) (by simp)) (ge_call hT hr (ga_two (ge_var 0) ge_str) ⟨x, _, a, b, rfl, wx, by omega, rfl⟩) (fun d e => ?_) (fun σ1 H1 d e S1 => ?_)
  · cases e
    exact two_items i1
  · cases e
    rw [f2_items i1] at S1
    have l1 : (rt a b).num.natAbs.log2 < 1920 := Nat.lt_of_le_of_lt (log2_mono' (rt_num_le wx.1)) la
    have l2 : ((rt a b).den : Int).natAbs.log2 < 1920 := Nat.lt_of_le_of_lt (log2_mono' (by simpa using rt_den_le wx.1)) lb
    have t1 := PyProof.Rows.int_text_len_1921 l1
    have t2 := PyProof.Rows.int_text_len_1921 l2
    refine gq_retP S1 hrt (ge_if (gt_eqI (ge_var 2) ge_int) (fun z => (ge_strOf (g.f "str") (ge_var 1) l1).is ?_) (fun z => (ge_catS (ge_catS (ge_strOf (g.f "str") (ge_var 1) l1) ge_str ?_) (ge_strOf (g.f "str") (ge_var 2) l2) ?_).is ?_))
    · unfold txtQ
      rw [if_pos (by have := of_decide_eq_true z; omega)]
    · rw [PySem.ofString_length "/"]
      have : "/".length = 1 := rfl
      omega
    · rw [PySem.strLen_append, PySem.ofString_length "/"]
      have : "/".length = 1 := rfl
      omega
    · unfold txtQ
      rw [if_neg (by have := of_decide_eq_false z; omega)]
end
end TM
/-! ## MtPoly -/
set_option Elab.async false
set_option linter.all false
/-! MtPoly: rows of rationals; zeros at the end left out. -/
namespace TM
/-- without the zeros at the end -/
def trim : List Rat → List Rat
  | [] => []
  | q :: qs => if trim qs = [] ∧ q = 0 then [] else q :: trim qs
theorem trim_nil : trim [] = [] := rfl
theorem trim_cons_nil {q : Rat} {qs : List Rat} (h : trim qs = []) (hq : q = 0) : trim (q :: qs) = [] := by
  unfold trim
  rw [if_pos ⟨h, hq⟩]
theorem trim_cons {q : Rat} {qs : List Rat} (h : ¬ (trim qs = [] ∧ q = 0)) : trim (q :: qs) = q :: trim qs := by
  rw [trim, if_neg h]
theorem trim_take : ∀ qs : List Rat, trim qs = qs.take (trim qs).length
  | [] => rfl
  | q :: qs => by
    by_cases h : trim qs = [] ∧ q = 0
    · rw [trim_cons_nil h.1 h.2]
      rfl
    · rw [trim_cons h, List.length_cons, List.take_succ_cons, ← trim_take qs]
theorem trim_len : ∀ qs : List Rat, (trim qs).length ≤ qs.length
  | [] => Nat.le_refl _
  | q :: qs => by
    by_cases h : trim qs = [] ∧ q = 0
    · rw [trim_cons_nil h.1 h.2]
      simp
    · rw [trim_cons h]
      have := trim_len qs
      simp only [List.length_cons]
      omega
/-- behind the end: zeros -/
theorem trim_zero : ∀ (qs : List Rat) (i : Nat) (q : Rat), qs[i]? = some q → (trim qs).length ≤ i → q = 0
  | [], i, q, h, _ => by simp at h
  | p :: qs, i, q, h, hl => by
    by_cases hz : trim qs = [] ∧ p = 0
    · cases i with
      | zero =>
        simp at h
        rw [← h]
        exact hz.2
      | succ i => exact trim_zero qs i q (by simpa using h) (by rw [hz.1]; simp)
    · rw [trim_cons hz] at hl
      cases i with
      | zero => simp at hl
      | succ i => exact trim_zero qs i q (by simpa using h) (by simpa using hl)
/-- the last is none -/
theorem trim_last : ∀ (qs : List Rat) (q : Rat), (trim qs).getLast? = some q → q ≠ 0
  | [], q, h => by simp [trim] at h
  | p :: qs, q, h => by
    by_cases hz : trim qs = [] ∧ p = 0
    · rw [trim_cons_nil hz.1 hz.2] at h
      simp at h
    · rw [trim_cons hz] at h
      cases ht : trim qs with
      | nil =>
        rw [ht] at h
        simp at h
        rw [← h]
        exact fun e => hz ⟨ht, e⟩
      | cons a t =>
        rw [ht, List.getLast?_cons_cons, ← ht] at h
        exact trim_last qs q h
theorem trim_at {qs : List Rat} (h : (trim qs).length ≠ 0) : ∃ q, qs[(trim qs).length - 1]? = some q ∧ q ≠ 0 := by
  cases e : (trim qs).getLast? with
  | none => rw [List.getLast?_eq_none_iff] at e; rw [e] at h; exact absurd rfl h
  | some q =>
    refine ⟨q, ?_, trim_last qs q e⟩
    rw [List.getLast?_eq_getElem?] at e
    rw [trim_take qs, List.getElem?_take] at e
    split at e
    · exact (by simpa [← trim_take] using e)
    · cases e
/-- told by its length -/
theorem trim_of {qs : List Rat} {m : Nat} (hm : m ≤ qs.length) (hz : ∀ (i : Nat) (q : Rat), qs[i]? = some q → m ≤ i → q = 0) (hl : m = 0 ∨ ∃ q, qs[m - 1]? = some q ∧ q ≠ 0) : trim qs = qs.take m := by
  have e : (trim qs).length = m := by
    rcases Nat.lt_trichotomy (trim qs).length m with h | h | h
    · rcases hl with h0 | ⟨q, h1, h2⟩
      · omega
      · exact absurd (trim_zero qs _ q h1 (by omega)) h2
    · exact h
    · obtain ⟨q, h1, h2⟩ := trim_at (qs := qs) (by omega)
      exact absurd (hz _ q h1 (by omega)) h2
  rw [← e]
  exact trim_take qs
theorem trim_trim (qs : List Rat) : trim (trim qs) = trim qs := by
  have h : trim (trim qs) = (trim qs).take (trim qs).length := trim_of (Nat.le_refl _) (fun i q h hl => by
    have := (List.getElem?_eq_some_iff.mp h).1
    omega) (by
    by_cases h0 : (trim qs).length = 0
    · exact .inl h0
    · right
      cases e : (trim qs).getLast? with
      | none => rw [List.getLast?_eq_none_iff] at e; rw [e] at h0; exact absurd rfl h0
      | some q =>
        rw [List.getLast?_eq_getElem?] at e
        exact ⟨q, e, trim_last qs q (by rw [List.getLast?_eq_getElem?]; exact e)⟩)
  rw [h, List.take_length]
end TM
/-! ## PgPoly1 -/
set_option Elab.async false
set_option linter.all false
set_option maxRecDepth 100000
set_option maxHeartbeats 4000000
/-! PgPoly1: without_zeros, Poly's __init__, poly_told, degree, __eq__, added_up. -/
namespace TM
open PySem L2 PySem.Spec PyProof.Rows
section
variable {C : Addr} {X : Cx} {O : Addr → Prop} {ρ : Env} {I J K L : Asr} {e : Expr} {d : D} {ds : List D}
theorem gi_items {tg : Expr} (ha : GE C X O ρ I e J (Is d)) (hi : items d = some ds) : GI C X O ρ I tg e J ds.length (fun i => ds.getD i .non) := by
  cases d with
  | lst xs => cases hi; exact gi_list ha
  | tup xs => cases hi; exact gi_tup ha
  | _ => cases hi
end
theorem range_getD {α β : Type} (f : α → β) (z : α) : ∀ l : List α, (List.range l.length).map (fun i => f (l.getD i z)) = l.map f
  | [] => rfl
  | a :: l => by
    rw [List.length_cons, List.range_succ_eq_map, List.map_cons, List.map_map, List.map_cons, ← range_getD f z l]
    rfl
/-- d is a written ratio, q what it is -/
def Wq (d : D) (q : Rat) : Prop := ∃ a b, Wr d a b ∧ b.natAbs.log2 < 9000 ∧ rt a b = q
theorem wq_pair {q : Rat} (h : q.den.log2 < 9000) : Wq (pair q) q := ⟨_, _, wr_pair q, by simpa using h, rt_self q⟩
theorem wq_at {ds : List D} {qs : List Rat} (h : Paired Wq ds qs) : ∀ i, i < ds.length → Wq (ds.getD i .non) (qs.getD i 0) := by
  induction h with
  | nil => intro i hi; simp at hi
  | cons h t ih =>
    intro i hi
    cases i with
    | zero => exact h
    | succ i => exact ih i (by simpa using hi)
theorem wq_len {ds : List D} {qs : List Rat} (h : Paired Wq ds qs) : ds.length = qs.length := by
  induction h with
  | nil => rfl
  | cons h t ih => simp [ih]
theorem q_num_ne {q : Rat} : (q.num = 0) ↔ q = 0 := Rat.num_eq_zero
section
variable {P : Program} {w : World} {K : PySem.W.Frag} {mg : Str → Option Value} {base : Heap} {f : Addr} {fd : FuncData} {C : Addr} {k : Nat}
def RwithoutZeros : List D → D → Prop := fun ds r => ∃ qs : List Rat, ds = [.tup (prs qs)] ∧ qs.length ≤ 1000 ∧ r = .tup (prs (trim qs))
theorem sc_wz : FnScope ["numbers", "many", "k", "ratio"] ["numbers"] (defScope (top 24)) := ⟨rfl, rfl, rfl, by decide +kernel, rfl, by decide +kernel, by decide +kernel⟩
theorem prs_take (qs : List Rat) (n : Nat) : prs (qs.take n) = (prs qs).take n := by unfold prs; rw [List.map_take]
theorem fn_without_zeros (g : Gs K mg C) (F : FnP K "without_zeros" "without_zeros" (top 24) f fd) (hm : mg "without_zeros" = some (.ref f)) : FnS P w K mg base (k + 1) C "without_zeros" RwithoutZeros := by
  refine fn_pure F hm sc_wz (F.bindsN fun _ _ _ _ _ _ us hl => match us, hl with | [_], _ => rfl) (fun ds r h => by obtain ⟨x, rfl, _⟩ := h; rfl) ?_
  rintro cdv A outer s H E ds r hr ⟨qs, rfl, hlen, rfl⟩
  intro O H0 vs De hw hn hrt hnx
  have S : Stt C O H0 H0 (start ["numbers", "many", "k", "ratio"] vs) [some (.tup (prs qs)), none, none, none] (ownA O H0) := Stt.start hw hn ownA_refl
  have key : ([D.int 0] ++ ((List.range (prs qs).length).filter (fun i => !decide ((qs.getD i 0).num = 0))).map (fun (i : Nat) => D.int ((i : Int) + 1))) = intD (0 :: ((List.range qs.length).filter (fun i => !decide ((qs.getD i 0).num = 0))).map (fun (i : Nat) => (i : Int) + 1)) := by
    unfold intD
    rw [prs_len]
    simp [List.map_map, Function.comp_def]
  have at_ : ∀ i, i < (prs qs).length → (prs qs).getD i .non = pair (qs.getD i 0) := fun i hi => by
    rw [prs_len] at hi
    rw [prs_get hi, List.getD_eq_getElem?_getD, List.getElem?_eq_getElem hi]
    rfl
  refine gq_setP (d := .int ((trim qs).length : Int)) 1 S sc_wz.nd ?_ (fun σ1 H1 S1 => ?_)
  · refine ge_max (ns := 0 :: ((List.range qs.length).filter (fun i => !decide ((qs.getD i 0).num = 0))).map (fun (i : Nat) => (i : Int) + 1)) rfl (g.f "max") ((ge_cat (ge_lst (ga_one ge_int)) (ge_lcif (J := ownA O H0) rfl sc_wz.nd (gi_enumT (g.f "enumerate") (ge_var 0)) (own := [("k", 2), ("ratio", 3)]) (blkOk_by (by rfl)) (fun b O' => tg_two (i := 2) (j := 3) (vs := [2, 3]) rfl sc_wz.nd rfl (.inl rfl) rfl (.inl rfl) (by simp) (by simp)) (fun i hi => ⟨_, _, rfl⟩) (by rw [prs_len]; omega)
      (fun b O' I' _ i hi => (gt_neI (ge_ix (ge_var 3) ge_int (by show items ((prs qs).getD i .non) = _; rw [at_ i hi]; rfl) rfl) ge_int)) (fun b O' I' _ i hi _ => ge_add (ge_var 2) ge_int)) ?_).is (by rw [key])) (by simp) ?_ ?_
    · have h1 := List.length_filter_le (fun i => !decide ((qs.getD i 0).num = 0)) (List.range (prs qs).length)
      rw [List.length_range, prs_len] at h1
      rw [List.length_map, prs_len]
      simp only [List.length_singleton]
      omega
    · by_cases h0 : (trim qs).length = 0
      · rw [h0]
        exact List.mem_cons_self
      · obtain ⟨q, h1, h2⟩ := trim_at h0
        have hlt := (List.getElem?_eq_some_iff.mp h1).1
        refine List.mem_cons_of_mem _ (List.mem_map.mpr ⟨(trim qs).length - 1, List.mem_filter.mpr ⟨List.mem_range.mpr hlt, ?_⟩, by omega⟩)
        rw [List.getD_eq_getElem?_getD, h1]
        simpa [q_num_ne] using h2
    · intro y hy
      rcases List.mem_cons.mp hy with rfl | hy
      · omega
      · obtain ⟨i, hi, rfl⟩ := List.mem_map.mp hy
        obtain ⟨h1, h2⟩ := List.mem_filter.mp hi
        have h1 := List.mem_range.mp h1
        by_cases hc : (trim qs).length ≤ i
        · have h3 := trim_zero qs i qs[i] (List.getElem?_eq_getElem h1) hc
          rw [List.getD_eq_getElem?_getD, List.getElem?_eq_getElem h1] at h2
          simp [h3] at h2
        · omega
  · refine gq_retP S1 hrt ((ge_sliceT (ge_var 0) po_none (po_some pe_tw) evo_none (evo_some (ge_var 1))).is ?_)
    unfold cutD
    rw [HT.sIx_none, HT.sIx_nat, prs_len, List.drop_zero, Nat.sub_zero, Nat.min_eq_left (trim_len qs), ← prs_take, ← trim_take]
/-! ### Poly(numbers) -/
def Rinit : D → List Rat → Prop := fun d ns => ∃ ds qs, items d = some ds ∧ Paired Wq ds qs ∧ ds.length ≤ 1000 ∧ ns = trim qs
theorem sc_init : FnScope ["self", "numbers", "ratio"] ["self", "numbers"] (defScope (pol 0)) := ⟨rfl, rfl, rfl, by decide +kernel, rfl, by decide +kernel, by decide +kernel⟩
theorem fn_init (g : Gs K mg C) (hR : FnS P w K mg base k C "is_ratio" RisRatio) (hT : FnS P w K mg base k C "told" Rtold) (hZ : FnS P w K mg base k C "without_zeros" RwithoutZeros) (F : FnP K "__init__" "Poly.__init__" (pol 0) f fd) (hM : Mk K C f) : Mkr P w K mg base CX0 (k + 1) C "Poly" (spInit C Rinit) := by
  refine ⟨f, fd, ["self", "numbers"], ?_, hM, g.poly, F.bindsN fun _ _ _ _ _ _ us hl => match us, hl with | [_, _], _ => rfl⟩
  refine F.ok sc_init (fun vs H Q E h => ?_) fun cdv A outer s H vs Q E hr h => ?_
  · obtain ⟨O, x, dx, v, d, ns, rfl, _⟩ := h
    rfl
  · obtain ⟨O, x, dx, v, d, ns, rfl, hw, nx, ndx, hx, hn, ⟨ds, qs, hi, pw, hlen, rfl⟩, hQ⟩ := h
    refine ⟨_, PSs.nox (pss_tw (X := bX P w K mg base ["self", "numbers", "ratio"] "Poly.__init__" (pol 0) f cdv A outer s H E) (sts := defBody (pol 0))), ?_⟩
    have S : Stt C O H H (start ["self", "numbers", "ratio"] [.ref x, v]) [some (.val (.ref x)), some d, none] (ownA O H) := Stt.start hw (.cons (.val _) (.cons hn .nil)) ownA_refl
    have hz := wq_len pw
    obtain ⟨T, hT'⟩ : ∃ T, tyN d = some T := by cases d <;> first | exact ⟨_, rfl⟩ | cases hi
    refine gq_ifP S (k := false) ((gt_or (k1 := false) (k2 := false) (gt_not (k := true) (gt_val ((ge_isi2 (g.f "isinstance") (ge_var 1) (ge_tup (ga_two (ge_tuple_ty (g.f "tuple")) (ge_list_ty (g.f "list")))) hT' (k1 := decide (T = "tuple")) (k2 := decide (T = "list")) (by cases d <;> cases hT' <;> first | rfl | cases hi) (by cases d <;> cases hT' <;> first | rfl | cases hi)).is
        (by cases d <;> cases hT' <;> first | rfl | cases hi)))) (fun _ => gt_not (k := true) (gt_val ((ge_all (bs := List.replicate ds.length true) rfl (g.f "all") ((ge_lc (g := fun _ => D.bl true) rfl sc_init.nd (gi_items (ge_var 1) hi) (own := [("ratio", 2)]) (blkOk_by (by rfl)) (fun b O' => tg_name (i := 2) (vs := [2]) sc_init.nd rfl (.inl rfl) (by simp)) (fun i hi => trivial) (by omega)
          (fun b O' I' _ i hi => ?_)).is ?_)).is ?_)))).is rfl) (fun z => by cases z) (fun _ H1 S1 => gq_nil ?_)
    · obtain ⟨a, b', w1, _, _⟩ := wq_at pw i hi
      refine (ge_call hR hr (ga_one (ge_var 2)) ⟨_, rfl, w1.dat, rfl⟩).is ?_
      rw [w1.rat]
    · simp [List.map_const']
    · simp
    · refine gq_of (ps_fld pe_tw pe_tw (by rfl)) ?_
      refine S1.ge (Φ := Is (.tup (prs (trim qs)))) (ge_call hZ hr (ga_one (ge_toTup (g.f "tuple") ((ge_lc (g := fun i => pair (qs.getD i 0)) rfl sc_init.nd (gi_items (ge_var 1) hi) (own := [("ratio", 2)]) (blkOk_by (by rfl)) (fun b O' => tg_name (i := 2) (vs := [2]) sc_init.nd rfl (.inl rfl) (by simp)) (fun i hi => trivial) (by omega)
          (fun b O' I' _ i hi => ?_)).is ?_))) ⟨qs, rfl, by omega, rfl⟩) fun v1 H2 d1 p1 n1 S2 => ?_
      · obtain ⟨a, b', w1, w2, w3⟩ := wq_at pw i hi
        exact (ge_call hT hr (ga_two (ge_var 2) ge_str) ⟨_, _, a, b', rfl, w1, w2, rfl⟩).is (by rw [w3])
      · rw [hz, range_getD (fun q => pair q)]
        rfl
      · cases p1
        refine S2.geE (Φ := Is (.val (.ref x))) (ge_var 0) fun u H3 d2 p2 n2 e3 S3 => ?_
        cases p2
        obtain ⟨rfl⟩ : u = .ref x := by cases n2; rfl
        have sm : Same H H3 := same_of S3.ext S3.asr
        have hx3 := sm _ _ hx
        refine ⟨x, C, dx, [], rfl, hx3, g.pc.cl, g.pc.nn, by decide, gq_nil ?_⟩
        have n3 : Dn C O H3 v1 (.tup (prs (trim qs))) := n1.ext e3
        cases n3 with
        | @tup t xs _ nt ht tt =>
          have ne : t ≠ x := fun z => by rw [z, hx3] at ht; cases ht
          have e1 : (upd H3 x (.ins C dx (putF "numbers" (.ref t) []))) t = some (.tup xs) := by rw [upd_ne ne]; exact ht
          refine hQ _ t xs (fun b o hb q => by rw [upd_ne hb]; exact sm b o q) upd_same nt e1 ?_
          refine paired_imp (fun u q hp => ?_) (DnAll.prs_of tt)
          obtain ⟨b, e, nb, hb⟩ := hp
          exact ⟨b, e, nb, by rw [upd_ne (fun z => by rw [z, hx3] at hb; cases hb)]; exact hb⟩
end
end TM
/-! ## TmOwn -/
set_option Elab.async false
set_option linter.all false
set_option maxRecDepth 100000
set_option maxHeartbeats 4000000
/-! TmOwn: lists that a body makes and changes. -/
namespace TM
open PySem L2 PySem.Spec PyProof.Rows
abbrev Ql : Type := List (Addr × List D)
def owO (O : Addr → Prop) (qs : Ql) : Addr → Prop := fun a => O a ∨ a ∈ qs.map (·.1)
/-- at p.1 a list that means p.2; what O owns is as it was in H0 -/
def owA (C : Addr) (O : Addr → Prop) (H0 : Hp) (qs : Ql) : Asr where
  P H := (∀ a o, O a → H0 a = some o → H a = some o) ∧ ∀ p ∈ qs, ∃ xs, H p.1 = some (.lst xs) ∧ DnAll C (owO O qs) H xs p.2
  st e h := ⟨fun a o w q => e _ _ (h.1 a o w q), fun p hp => let ⟨xs, a, b⟩ := h.2 p hp; ⟨xs, e _ _ a, b.ext (Ext.of e)⟩⟩
/-- the lists are new -/
structure Nq (O : Addr → Prop) (H0 : Hp) (qs : Ql) : Prop where
  nd : (qs.map (·.1)).Nodup
  no : ∀ p ∈ qs, ¬ O p.1
  nw : ∀ p ∈ qs, H0 p.1 = none
mutual
/-- no list inside -/
def lfree : D → Bool
  | .lst _ => false
  | .tup xs => lfrees xs
  | .val _ => false
  | _ => true
def lfrees : List D → Bool
  | [] => true
  | d :: ds => lfree d && lfrees ds
end
mutual
theorem Dn.lf {C : Addr} {O O' : Addr → Prop} {H : Hp} (h : ∀ a, O' a → ¬ O a → ∃ xs, H a = some (.lst xs)) : ∀ {v : V} {d : D}, Dn C O H v d → lfree d = true → Dn C O' H v d
  | _, _, .non, _ => .non
  | _, _, .bl b, _ => .bl b
  | _, _, .int i, _ => .int i
  | _, _, .str x, _ => .str x
  | _, _, .lst .., e => by unfold lfree at e; cases e
  | _, _, .tup n r t, e => .tup (fun z => by obtain ⟨xs, q⟩ := h _ z n; rw [r] at q; cases q) r (DnAll.lf h t (by unfold lfree at e; exact e))
  | _, _, .dic n r, _ => .dic (fun z => by obtain ⟨xs, q⟩ := h _ z n; rw [r] at q; cases q) r
  | _, _, .poly n h1 nt r p, _ => .poly (fun z => by obtain ⟨xs, q⟩ := h _ z n; rw [h1] at q; cases q) h1 (fun z => by obtain ⟨xs, q⟩ := h _ z nt; rw [r] at q; cases q) r
      (paired_imp (fun _ _ ⟨b, e1, n1, r1⟩ => ⟨b, e1, (fun z => by obtain ⟨xs, q⟩ := h _ z n1; rw [r1] at q; cases q), r1⟩) p)
  | _, _, .val v, e => by unfold lfree at e; cases e
theorem DnAll.lf {C : Addr} {O O' : Addr → Prop} {H : Hp} (h : ∀ a, O' a → ¬ O a → ∃ xs, H a = some (.lst xs)) : ∀ {vs : List V} {ds : List D}, DnAll C O H vs ds → lfrees ds = true → DnAll C O' H vs ds
  | _, _, .nil, _ => .nil
  | _, _, .cons a b, e => by
    unfold lfrees at e
    obtain ⟨h1, h2⟩ := Bool.and_eq_true_iff.mp e
    exact .cons (Dn.lf h a h1) (DnAll.lf h b h2)
end
section
variable {C : Addr} {X : Cx} {O O' : Addr → Prop} {ρ : Env} {I J K L : Asr} {H0 H : Hp} {σ : L2.St} {De : Ends} {rest : List Stmt} {a b e : Expr} {pos p p2 : Pos} {q : Addr} {ds : List D} {d : D} {i : Int} {qs pre post : Ql} {te : TE} {es : List Expr} {ta : TA}
theorem owA_at (hp : (q, ds) ∈ qs) {H : Hp} (h : (owA C O H0 qs).P H) : ∃ xs, H q = some (.lst xs) ∧ DnAll C (owO O qs) H xs ds := h.2 _ hp
/-- own[i] -/
theorem ge_ixO (hp : (q, ds) ∈ qs) (ha : GE C X (owO O qs) ρ (owA C O H0 qs) a (owA C O H0 qs) (Is (.val (.ref q)))) (hb : GE C X (owO O qs) ρ (owA C O H0 qs) b (owA C O H0 qs) (Is (.int i))) (h : atI ds i = some d) (hs : PlainIx b := by exact fun _ _ => rfl) :
    GE C X (owO O qs) ρ (owA C O H0 qs) (.Subscript a b pos) (owA C O H0 qs) (Is d) := ge_of (pe_ix ix_seq pe_tw pe_tw hs) fun σ H Q w dn ii k => by
  refine ha σ H _ w dn ii fun v1 H1 z1 e1 w1 j1 p1 n1 => ?_
  cases p1
  cases n1
  refine hb σ H1 _ w1 (dn.ext e1) j1 fun v2 H2 z2 e2 w2 j2 p2 n2 => ?_
  cases p2
  cases n2
  obtain ⟨xs, hq, t⟩ := owA_at hp j2
  obtain ⟨v, hv, n⟩ := atI_dn t h
  exact .inl ⟨q, xs, i, v, rfl, rfl, SqL.of hq, hv, k v H2 d (e1.trans e2) w2 j2 rfl n⟩
theorem owA_ext {H H' : Hp} (ih : (owA C O H0 qs).P H) (e : Ext O H H') (n : ∀ p ∈ qs, ¬ O p.1) (o : ∀ a u, O a → H0 a = some u → H' a = some u) : (owA C O H0 qs).P H' :=
  ⟨o, fun p hp => let ⟨xs, a, b⟩ := ih.2 p hp; ⟨xs, e _ _ (n p hp) a, b.ext fun c u nc hc => e c u (fun z => nc (.inl z)) hc⟩⟩
/-- the lists are read as plain ones -/
theorem den_lend {H : Hp} {σ : L2.St} (i : Nat) (hp : (q, ds) ∈ qs) (n : ∀ p ∈ qs, ¬ O p.1) (dn : Den C (owO O qs) H σ ρ) (ih : (owA C O H0 qs).P H) (hi : ρ[i]? = some (some (.val (.ref q)))) : Den C O H σ (ρ.set i (some (.lst ds))) := by
  have less : Den C O H σ ρ := dn.go Ext.refl fun a na _ z => na (.inl z)
  refine ⟨by rw [List.length_set]; exact dn.len, fun j d hj => ?_⟩
  by_cases hij : i = j
  · subst hij
    have hl : i < ρ.length := (List.getElem?_eq_some_iff.mp hi).1
    rw [List.getElem?_set_self hl] at hj
    cases hj
    obtain ⟨v, e1, e2⟩ := dn.at_ i _ hi
    cases e2
    obtain ⟨xs, hq, t⟩ := owA_at hp ih
    exact ⟨_, e1, .lst (n _ hp) hq (t.less fun a z => .inl z)⟩
  · rw [List.getElem?_set_ne hij] at hj
    exact less.at_ j d hj
theorem wf_less {H : Hp} (w : Wf (owO O qs) H) : Wf O H := fun a z => w a (.inl z)
theorem wf_more {H : Hp} (w : Wf O H) (ih : (owA C O H0 qs).P H) : Wf (owO O qs) H := fun a z => z.elim (w a) fun hm => by
  obtain ⟨p, hp, rfl⟩ := List.mem_map.mp hm
  obtain ⟨xs, h, _⟩ := ih.2 p hp
  rw [h]
  exact fun z => nomatch z
theorem owO_lst {H : Hp} (ih : (owA C O H0 qs).P H) : ∀ a, owO O qs a → ¬ O a → ∃ xs, H a = some (.lst xs) := fun a z na => z.elim (fun z => absurd z na) fun hm => by
  obtain ⟨p, hp, rfl⟩ := List.mem_map.mp hm
  obtain ⟨xs, h, _⟩ := ih.2 p hp
  exact ⟨xs, h⟩
theorem ge_lend (i : Nat) (hp : (q, ds) ∈ qs) (n : Nq O H0 qs) (hi : ρ[i]? = some (some (.val (.ref q)))) (h : GE C X O (ρ.set i (some (.lst ds))) (owA C O H0 qs) e (owA C O H0 qs) (Is d)) (hl : lfree d = true) : GE C X (owO O qs) ρ (owA C O H0 qs) e (owA C O H0 qs) (Is d) := fun σ H Q w dn ii k =>
  h σ H Q (wf_less w) (den_lend i hp n.no dn ii hi) ii fun v H' z e w' j pz nn => by
    cases pz
    exact k v H' d (fun c u nc hc => e c u (fun z => nc (.inl z)) hc) (wf_more w' j) j rfl (nn.lf (owO_lst j) hl)
theorem gt_lend {c : Expr} {k : Bool} (i : Nat) (hp : (q, ds) ∈ qs) (n : Nq O H0 qs) (hi : ρ[i]? = some (some (.val (.ref q)))) (h : GT C X O (ρ.set i (some (.lst ds))) (owA C O H0 qs) c (owA C O H0 qs) (· = k)) : GT C X (owO O qs) ρ (owA C O H0 qs) c (owA C O H0 qs) (· = k) := fun σ H Q w dn ii kk =>
  h σ H Q (wf_less w) (den_lend i hp n.no dn ii hi) ii fun v H' e w' j pz => kk v H' (fun c u nc hc => e c u (fun z => nc (.inl z)) hc) (wf_more w' j) j pz
/-- the lists are owned no more -/
theorem Stt.unown (S : Stt C (owO O qs) H0 H σ ρ (owA C O H0 qs)) (n : Nq O H0 qs) : Stt C O H0 H σ ρ (ownA O H0) ∧ ∀ p ∈ qs, Dn C O H (.ref p.1) (.lst p.2) := by
  refine ⟨⟨wf_less S.wf, S.den.go Ext.refl fun a na _ z => na (.inl z), S.asr.1, fun b o nb hb => ?_⟩, fun p hp => ?_⟩
  · by_cases hm : b ∈ qs.map (·.1)
    · obtain ⟨p, hp, rfl⟩ := List.mem_map.mp hm
      rw [n.nw p hp] at hb
      cases hb
    · exact S.ext b o (fun z => z.elim nb hm) hb
  · obtain ⟨xs, h, t⟩ := S.asr.2 p hp
    exact .lst (n.no p hp) h (t.less fun a z => .inl z)
theorem Stt.reset (S : Stt C O H0 H σ ρ I) (i : Nat) {v : V} (hi : ρ[i]? = some (some (.val v))) (hd : Dn C O H v d) : Stt C O H0 H σ (ρ.set i (some d)) I := by
  refine ⟨S.wf, ⟨by rw [List.length_set]; exact S.den.len, fun j d' hj => ?_⟩, S.asr, S.ext⟩
  by_cases hij : i = j
  · subst hij
    have hl : i < ρ.length := (List.getElem?_eq_some_iff.mp hi).1
    rw [List.getElem?_set_self hl] at hj
    cases hj
    obtain ⟨v', e1, e2⟩ := S.den.at_ i _ hi
    cases e2
    exact ⟨v, e1, hd⟩
  · rw [List.getElem?_set_ne hij] at hj
    exact S.den.at_ j d' hj
/-- what a change of one list leaves -/
theorem owA_put {H : Hp} {xs' : List V} {ds' : List D} (n : ((pre ++ (q, ds) :: post).map (·.1)).Nodup) (no : ¬ O q) (ih : (owA C O H0 (pre ++ (q, ds) :: post)).P H) (t : DnAll C (owO O (pre ++ (q, ds) :: post)) H xs' ds') : (owA C O H0 (pre ++ (q, ds') :: post)).P (upd H q (.lst xs')) := by
  have same : owO O (pre ++ (q, ds') :: post) = owO O (pre ++ (q, ds) :: post) := by
    unfold owO
    simp
  have own : owO O (pre ++ (q, ds) :: post) q := .inr (by simp)
  have ex : Ext (owO O (pre ++ (q, ds) :: post)) H (upd H q (.lst xs')) := fun c u nc hc => by
    rw [upd_ne (fun z => nc (by rw [z]; exact own))]
    exact hc
  refine ⟨fun a u w hu => ?_, fun p hp => ?_⟩
  · rw [upd_ne (fun z => no (by rw [← z]; exact w))]
    exact ih.1 a u w hu
  · rw [same]
    by_cases hq : p.1 = q
    · have hpe : p = (q, ds') := by
        rcases List.mem_append.mp hp with h | h
        · exfalso
          rw [List.map_append, List.nodup_append] at n
          exact n.2.2 p.1 (List.mem_map_of_mem h) q (by simp) hq
        · rcases List.mem_cons.mp h with h | h
          · exact h
          · exfalso
            rw [List.map_append, List.nodup_append, List.map_cons, List.nodup_cons] at n
            exact n.2.1.1 (by rw [← hq]; exact List.mem_map.mpr ⟨p, h, rfl⟩)
      rw [hpe]
      exact ⟨xs', upd_same, t.ext ex⟩
    · have hp2 : p ∈ pre ++ (q, ds) :: post := by
        rcases List.mem_append.mp hp with h | h
        · exact List.mem_append_left _ h
        · rcases List.mem_cons.mp h with h | h
          · exact absurd (by rw [h]) hq
          · exact List.mem_append_right _ (List.mem_cons_of_mem _ h)
      obtain ⟨ys, h1, h2⟩ := ih.2 p hp2
      exact ⟨ys, by rw [upd_ne hq]; exact h1, h2.ext ex⟩
theorem owO_put {ds' : List D} : owO O (pre ++ (q, ds') :: post) = owO O (pre ++ (q, ds) :: post) := by
  unfold owO
  simp
/-! ### a new list -/
def EvN (C : Addr) (O : Addr → Prop) (ρ : Env) (I : Asr) (te : TE) (J : Asr) (ds : List D) : Prop := ∀ (σ : L2.St) (H : Hp) (Q : VK), Wf O H → Den C O H σ ρ → I.P H →
  (∀ q xs H1, Ext O H H1 → H1 q = none → Wf O H1 → J.P H1 → DnAll C O H1 xs ds → Q (.ref q) (upd H1 q (.lst xs))) → te σ H Q
theorem evN_list {x : Str} (hm : X.mg "list" = none) (ha : GE C X O ρ I e J (Is d)) (hi : items d = some ds) (hg : Gl X "list" := by rfl) (he : starEach [e] X.env = (false, eval e X.env) :: starEach [] X.env := by rfl) (hpl : (backTo pos (starEach [] X.env)).any (·.1) = false := by rfl) :
    EvN C O ρ I (tw X (.Call (.Name "list" p) [e] [] pos)) J ds := fun σ H Q w dn ii k => tw_of (pe_callTy call_list_of hg hm PyProof.Rows.boot_list (pa_cons pe_tw pa_nil he) (by decide) (by decide) he hpl) (ha σ H _ w dn ii fun v H1 d1 e1 w1 j1 p1 n1 => by
    cases p1
    obtain ⟨q, xs, rfl, t, r⟩ := items_seq n1 hi
    refine ⟨q, xs, rfl, ?_, fun l hl => ?_⟩
    · rcases r with ⟨_, r⟩ | ⟨_, r⟩
      · exact .inl (SqL.of r)
      · exact .inr (SqT.of r)
    · exact k l xs H1 e1 hl w1 j1 t)
theorem evN_rep {n : Int} (ha : GE C X O ρ I a J (Is (.lst ds))) (hb : GE C X O ρ J b K (Is (.int n))) (h0 : -1000 ≤ n) (h1 : n ≤ 1000) (hl : ds.length ≤ 1000) : EvN C O ρ I (tw X (.BinOp a .Mult b pos)) K (List.replicate n.toNat ds).flatten := fun σ H Q w dn ii k => tw_of (pe_op op_rep pe_tw pe_tw) (by
    refine ha σ H _ w dn ii fun v1 H1 z1 e1 w1 j1 p1 n1 => ?_
    cases p1
    refine hb σ H1 _ w1 (dn.ext e1) j1 fun v2 H2 z2 e2 w2 j2 p2 n2 => ?_
    cases p2
    cases n2
    cases n1.ext e2 with
    | lst nn r t =>
      refine ⟨_, n, _, rfl, rfl, r, by omega, by omega, ?_, fun q hq => k q _ H2 (e1.trans e2) hq w2 j2 (t.replicate n.toNat)⟩
      rw [t.length]
      have : ds.length * n.toNat ≤ 1000 * 1000 := Nat.mul_le_mul hl (by omega)
      exact Nat.le_trans this (by decide))
theorem new_ext {H H1 : Hp} (w1 : Wf O H1) (e : Ext O H H1) {b : Addr} (h : H1 b = none) : H b = none := by
  cases q : H b with
  | none => rfl
  | some o =>
    by_cases hb : O b
    · exact absurd h (w1 b hb)
    · rw [e b o hb q] at h
      cases h
theorem own_add {H1 : Hp} {xs : List V} (w1 : Wf (owO O qs) H1) (dn : Den C (owO O qs) H1 σ ρ) (ih : (owA C O H0 qs).P H1) (n : Nq O H0 qs) (hq : H1 q = none) (h0 : H0 q = none) (t : DnAll C (owO O qs) H1 xs ds) :
    Wf (owO O (qs ++ [(q, ds)])) (upd H1 q (.lst xs)) ∧ Den C (owO O (qs ++ [(q, ds)])) (upd H1 q (.lst xs)) σ ρ ∧ (owA C O H0 (qs ++ [(q, ds)])).P (upd H1 q (.lst xs)) ∧ Nq O H0 (qs ++ [(q, ds)]) := by
  have sm := same_new (o := .lst xs) hq
  have sub : ∀ a, owO O (qs ++ [(q, ds)]) a → owO O qs a ∨ a = q := fun a h => by
    rcases h with h | h
    · exact .inl (.inl h)
    · rw [List.map_append] at h
      rcases List.mem_append.mp h with h | h
      · exact .inl (.inr h)
      · exact .inr (by simpa using h)
  have hn : ∀ a, ¬ owO O qs a → H1 a ≠ none → ¬ owO O (qs ++ [(q, ds)]) a := fun a na ha z => (sub a z).elim na fun e => ha (by rw [e]; exact hq)
  have nO : ¬ O q := fun z => w1 q (.inl z) hq
  refine ⟨fun a h => ?_, dn.go (Ext.of sm) hn, ⟨fun a o w hu => sm _ _ (ih.1 a o w hu), fun p hp => ?_⟩, ⟨?_, fun p hp => ?_, fun p hp => ?_⟩⟩
  · rcases sub a h with h | h
    · exact (w1.same sm) a h
    · rw [h, upd_same]
      exact fun z => nomatch z
  · rcases List.mem_append.mp hp with hp | hp
    · obtain ⟨ys, h1, h2⟩ := ih.2 p hp
      exact ⟨ys, sm _ _ h1, h2.go (Ext.of sm) hn⟩
    · have e : p = (q, ds) := by simpa using hp
      rw [e]
      exact ⟨xs, upd_same, t.go (Ext.of sm) hn⟩
  · rw [List.map_append, List.nodup_append]
    refine ⟨n.nd, by simp, fun a ha b hb e => ?_⟩
    have eb : b = q := by simpa using hb
    obtain ⟨p, hp, rfl⟩ := List.mem_map.mp ha
    obtain ⟨ys, h1, _⟩ := ih.2 p hp
    rw [e, eb, hq] at h1
    cases h1
  · rcases List.mem_append.mp hp with hp | hp
    · exact n.no p hp
    · have e : p = (q, ds) := by simpa using hp
      rw [e]
      exact nO
  · rcases List.mem_append.mp hp with hp | hp
    · exact n.nw p hp
    · have e : p = (q, ds) := by simpa using hp
      rw [e]
      exact h0
theorem owO_nil : owO O [] = O := by
  funext a
  simp [owO]
theorem owA_nil {H : Hp} (h : (ownA O H0).P H) : (owA C O H0 []).P H := ⟨h, fun p hp => by cases hp⟩
theorem nq_nil : Nq O H0 [] := ⟨List.nodup_nil, (fun p hp => by cases hp), (fun p hp => by cases hp)⟩
/-- x = a new list -/
theorem gq_newO {x : Str} {p' : Pos} (i : Nat) (S : Stt C O H0 H σ ρ (ownA O H0)) (hN : X.N.Nodup) (h : EvN C O ρ (ownA O H0) (tw X e) (ownA O H0) ds) (k : ∀ q σ' H', Nq O H0 [(q, ds)] → Stt C (owO O [(q, ds)]) H0 H' σ' (ρ.set i (some (.val (.ref q)))) (owA C O H0 [(q, ds)]) → ssw X rest De σ' H')
    (hi : X.N[i]? = some x := by rfl) (hx : Loc X.env.scope x := by first | exact .inl rfl | exact .inr rfl) (hs : swapsWith e (some (.Name x p')) pos.line X.env = pure false := by rfl) (hf : X.fn x = true ∨ X.env.scope.names.lookup x = some .local := by first | exact .inl rfl | exact .inr rfl | assumption) :
    ssw X (.Assign [.Name x p'] e pos :: rest) De σ H := gq_of (ps_set (i := i) hN hi hx pe_tw hs hf) (h σ H _ S.wf S.den S.asr fun q xs H1 e1 hq w1 j1 t => by
      have h0 : H0 q = none := new_ext w1 (S.ext.trans e1) hq
      have w1' : Wf (owO O []) H1 := by rw [owO_nil]; exact w1
      obtain ⟨a1, a2, a3, a4⟩ := own_add (qs := []) (ds := ds) w1' (by rw [owO_nil]; exact S.den.ext e1) (owA_nil j1) nq_nil hq h0 (by rw [owO_nil]; exact t)
      exact k q _ _ a4 ⟨a1, a2.set i (.val _), a3, fun c u nc hc => same_new hq _ _ ((S.ext.trans e1) c u (fun z => nc (.inl z)) hc)⟩)
/-- x, y = two new lists -/
theorem gq_parO {p1 p2 pt : Pos} {kt k2 : Nat} {pt2 : Pos} {x y : Str} {ds1 ds2 : List D} (i j : Nat) (S : Stt C O H0 H σ ρ (ownA O H0)) (hc : X.calm = true) (hN : X.N.Nodup) (h1 : EvN C O ρ (ownA O H0) (tw X a) (ownA O H0) ds1)
    (h2 : ∀ q1, EvN C (owO O [(q1, ds1)]) ρ (owA C O H0 [(q1, ds1)]) (tw X b) (owA C O H0 [(q1, ds1)]) ds2)
    (k : ∀ q1 q2 σ' H', Nq O H0 [(q1, ds1), (q2, ds2)] → Stt C (owO O [(q1, ds1), (q2, ds2)]) H0 H' σ' ((ρ.set i (some (.val (.ref q1)))).set j (some (.val (.ref q2)))) (owA C O H0 [(q1, ds1), (q2, ds2)]) → ssw X rest De σ' H')
    (hi : X.N[i]? = some x := by rfl) (hj : X.N[j]? = some y := by rfl) (hij : i ≠ j := by decide) (hx : X.env.scope.names.lookup x = some .local := by rfl) (hy : X.env.scope.names.lookup y = some .local := by rfl)
    (hst : starEach [a, b] X.env = (false, eval a X.env) :: starEach [b] X.env := by rfl) (hst2 : starEach [b] X.env = (false, eval b X.env) :: starEach [] X.env := by rfl)
    (hw : swappedStores [.Tuple [.Name x p1, .Name y p2] kt pt] (.Tuple [a, b] k2 pt2) X.env = pure (some [x, y]) := by rfl) (hs : swapsWithSole [.Tuple [.Name x p1, .Name y p2] kt pt] (.Tuple [a, b] k2 pt2) pos.line X.env = pure false := by rfl) :
    ssw X (.Assign [.Tuple [.Name x p1, .Name y p2] kt pt] (.Tuple [a, b] k2 pt2) pos :: rest) De σ H := gq_of (ps_par (i := i) (j := j) hc hN hi hj hij hx hy (pa_cons pe_tw (pa_cons pe_tw pa_nil hst2) hst) hw hs) (by
      refine h1 σ H _ S.wf S.den S.asr fun q1 xs H1 e1 hq1 w1 j1 t1 => ?_
      have h01 : H0 q1 = none := new_ext w1 (S.ext.trans e1) hq1
      obtain ⟨a1, a2, a3, a4⟩ := own_add (qs := []) (ds := ds1) (by rw [owO_nil]; exact w1) (by rw [owO_nil]; exact S.den.ext e1) (owA_nil j1) nq_nil hq1 h01 (by rw [owO_nil]; exact t1)
      have x1 : Ext (owO O [(q1, ds1)]) H0 (upd H1 q1 (.lst xs)) := fun c u nc hc => same_new hq1 _ _ ((S.ext.trans e1) c u (fun z => nc (.inl z)) hc)
      refine h2 q1 σ _ _ a1 a2 a3 fun q2 ys H2 e2 hq2 w2 j2 t2 => ?_
      have h02 : H0 q2 = none := new_ext w2 (x1.trans e2) hq2
      obtain ⟨b1, b2, b3, b4⟩ := own_add (qs := [(q1, ds1)]) (ds := ds2) w2 (a2.ext e2) j2 a4 hq2 h02 t2
      exact ⟨_, _, rfl, k q1 q2 _ _ b4 ⟨b1, (b2.set i (.val _)).set j (.val _), b3, fun c u nc hc => same_new hq2 _ _ ((x1.trans e2) c u (fun z => nc (z.elim .inl fun z => .inr (by simp at z; simp [z]))) hc)⟩⟩)
theorem own_change {B H3 : Hp} {xs' : List V} {ds' : List D} (S3 : Stt C (owO O (pre ++ (q, ds) :: post)) B H3 σ ρ (owA C O H0 (pre ++ (q, ds) :: post))) (n : Nq O H0 (pre ++ (q, ds) :: post)) (t2 : DnAll C (owO O (pre ++ (q, ds) :: post)) H3 xs' ds') :
    Nq O H0 (pre ++ (q, ds') :: post) ∧ Stt C (owO O (pre ++ (q, ds') :: post)) B (upd H3 q (.lst xs')) σ ρ (owA C O H0 (pre ++ (q, ds') :: post)) := by
  have hmem : (q, ds) ∈ pre ++ (q, ds) :: post := by simp
  have own : owO O (pre ++ (q, ds) :: post) q := .inr (by simp)
  have ex : Ext (owO O (pre ++ (q, ds) :: post)) H3 (upd H3 q (.lst xs')) := fun c u nc hc => by
    rw [upd_ne (fun z => nc (by rw [z]; exact own))]
    exact hc
  refine ⟨⟨?_, ?_, ?_⟩, ⟨?_, ?_, ?_, ?_⟩⟩
  · have := n.nd
    simpa using this
  · intro p hp
    rcases List.mem_append.mp hp with hp | hp
    · exact n.no p (List.mem_append_left _ hp)
    · rcases List.mem_cons.mp hp with rfl | hp
      · exact n.no (q, ds) hmem
      · exact n.no p (List.mem_append_right _ (List.mem_cons_of_mem _ hp))
  · intro p hp
    rcases List.mem_append.mp hp with hp | hp
    · exact n.nw p (List.mem_append_left _ hp)
    · rcases List.mem_cons.mp hp with rfl | hp
      · exact n.nw (q, ds) hmem
      · exact n.nw p (List.mem_append_right _ (List.mem_cons_of_mem _ hp))
  · rw [owO_put]
    intro a ha
    by_cases hc : a = q
    · rw [hc, upd_same]
      exact fun z => nomatch z
    · rw [upd_ne hc]
      exact S3.wf a ha
  · rw [owO_put]
    exact S3.den.ext ex
  · exact owA_put n.nd (n.no (q, ds) hmem) S3.asr t2
  · rw [owO_put]
    exact S3.ext.trans ex
/-- own[i] = e -/
theorem gq_storeO {B : Hp} {j : Nat} (pre post : Ql) (S : Stt C (owO O (pre ++ (q, ds) :: post)) B H σ ρ (owA C O H0 (pre ++ (q, ds) :: post))) (n : Nq O H0 (pre ++ (q, ds) :: post))
    (he : GE C X (owO O (pre ++ (q, ds) :: post)) ρ (owA C O H0 (pre ++ (q, ds) :: post)) e (owA C O H0 (pre ++ (q, ds) :: post)) (Is d)) (ha : GE C X (owO O (pre ++ (q, ds) :: post)) ρ (owA C O H0 (pre ++ (q, ds) :: post)) a (owA C O H0 (pre ++ (q, ds) :: post)) (Is (.val (.ref q))))
    (hb : GE C X (owO O (pre ++ (q, ds) :: post)) ρ (owA C O H0 (pre ++ (q, ds) :: post)) b (owA C O H0 (pre ++ (q, ds) :: post)) (Is (.int i))) (hij : i = (j : Int)) (hj : j < ds.length) (hj2 : (j : Int) < 2 ^ 62)
    (k : ∀ H', Nq O H0 (pre ++ (q, ds.set j d) :: post) → Stt C (owO O (pre ++ (q, ds.set j d) :: post)) B H' σ ρ (owA C O H0 (pre ++ (q, ds.set j d) :: post)) → ssw X rest De σ H')
    (hs : swapsWithSole [.Subscript a b p] e pos.line X.env = pure false := by rfl) (hw : swappedStores [.Subscript a b p] e X.env = pure none := by rfl) (h1 : (assignEach [.Subscript a b p] X.env).map (·.2) = [assign (.Subscript a b p) X.env] := by rfl)
    (hsub : ∀ v, assign (.Subscript a b p) X.env v = (do
      let ov ← holding [v] (eval a X.env)
      let iv ← holding [v, ov] (eval b X.env)
      standAt p
      holding [v, ov, iv] (setItem ov iv v)
      release [v, ov, iv] []) := by intro _; rfl) : ssw X (.Assign [.Subscript a b p] e pos :: rest) De σ H := by
  refine gq_of (ps_asg pe_tw (pg_sub pe_tw pe_tw set_list hsub) hs hw h1) ?_
  refine S.geE he fun v H1 d1 p1 n1 e1 S1 => ?_
  cases p1
  refine S1.geE ha fun v2 H2 d2 p2 n2 e2 S2 => ?_
  cases p2
  cases n2
  refine S2.geE hb fun v3 H3 d3 p3 n3 e3 S3 => ?_
  cases p3
  cases n3
  have hmem : (q, ds) ∈ pre ++ (q, ds) :: post := by simp
  obtain ⟨xs, hq, t⟩ := owA_at hmem S3.asr
  have hl : j < xs.length := by rw [t.length]; exact hj
  refine ⟨q, xs, i, j, rfl, rfl, hq, ?_, ?_⟩
  · rw [hij]
    unfold ixN
    rw [if_pos (by omega), if_pos (by omega)]
    simp
  · obtain ⟨n', S'⟩ := own_change S3 n (t.set ((n1.ext e2).ext e3) j)
    exact k _ n' S'
/-- own.pop() -/
theorem gq_popO {B : Hp} {x : Expr} {apos cpos : Pos} (pre post : Ql) (S : Stt C (owO O (pre ++ (q, ds) :: post)) B H σ ρ (owA C O H0 (pre ++ (q, ds) :: post))) (n : Nq O H0 (pre ++ (q, ds) :: post))
    (ha : GE C X (owO O (pre ++ (q, ds) :: post)) ρ (owA C O H0 (pre ++ (q, ds) :: post)) x (owA C O H0 (pre ++ (q, ds) :: post)) (Is (.val (.ref q)))) (hne : ds ≠ [])
    (k : ∀ H', Nq O H0 (pre ++ (q, ds.dropLast) :: post) → Stt C (owO O (pre ++ (q, ds.dropLast) :: post)) B H' σ ρ (owA C O H0 (pre ++ (q, ds.dropLast) :: post)) → ssw X rest De σ H')
    (hbase : attributeBase x "pop" X.env (eval x X.env) = eval x X.env := by rfl) (hline : (apos.endLine == cpos.line) = true := by rfl) (hs : swapsWith (.Call (.Attribute x "pop" apos) [] [] cpos) none pos.line X.env = pure false := by rfl) :
    ssw X (.Expr (.Call (.Attribute x "pop" apos) [] [] cpos) pos :: rest) De σ H := by
  refine gq_of (ps_expr (pe_bm0 PySem.F.plainAttrs_list PySem.F.slot_list_pop PySem.F.type_list_pop mt_pop pe_tw hbase hline) hs) ?_
  refine S.geE ha fun v2 H2 d2 p2 n2 e2 S2 => ?_
  cases p2
  cases n2
  have hmem : (q, ds) ∈ pre ++ (q, ds) :: post := by simp
  obtain ⟨xs, hq, t⟩ := owA_at hmem S2.asr
  have hl : xs.length - 1 < xs.length := by
    rw [t.length]
    have := List.length_pos_iff.mpr hne
    omega
  refine ⟨.inl ⟨rfl, _, SqL.of hq⟩, q, xs, xs[xs.length - 1], rfl, rfl, hq, List.getElem?_eq_getElem hl, ?_⟩
  obtain ⟨n', S'⟩ := own_change S2 n t.dropLast
  exact k _ n' S'
/-- own.append(e) -/
theorem gq_appO {B : Hp} {x : Expr} {apos cpos : Pos} (pre post : Ql) (S : Stt C (owO O (pre ++ (q, ds) :: post)) B H σ ρ (owA C O H0 (pre ++ (q, ds) :: post))) (n : Nq O H0 (pre ++ (q, ds) :: post))
    (ha : GE C X (owO O (pre ++ (q, ds) :: post)) ρ (owA C O H0 (pre ++ (q, ds) :: post)) x (owA C O H0 (pre ++ (q, ds) :: post)) (Is (.val (.ref q))))
    (he : GE C X (owO O (pre ++ (q, ds) :: post)) ρ (owA C O H0 (pre ++ (q, ds) :: post)) e (owA C O H0 (pre ++ (q, ds) :: post)) (Is d)) (hl : ds.length ≤ 1000)
    (k : ∀ H', Nq O H0 (pre ++ (q, ds ++ [d]) :: post) → Stt C (owO O (pre ++ (q, ds ++ [d]) :: post)) B H' σ ρ (owA C O H0 (pre ++ (q, ds ++ [d]) :: post)) → ssw X rest De σ H')
    (hbase : attributeBase x "append" X.env (eval x X.env) = eval x X.env := by rfl)
    (hfew : ((backTo cpos (starEach [e] X.env)).all (fun x => !x.1) && (backToKw cpos (keywordEach [] X.env)).all (fun x => x.1.isSome) && decide ([e].length + ([] : List Keyword).length + (if ([] : List Keyword).isEmpty then 0 else 1) < 30)) = true := by rfl)
    (hline : (apos.endLine == cpos.line) = true := by rfl) (hst : starEach [e] X.env = (false, eval e X.env) :: starEach [] X.env := by rfl) (hplain : (backTo cpos (starEach [] X.env)).any (·.1) = false := by rfl)
    (hs : swapsWith (.Call (.Attribute x "append" apos) [e] [] cpos) none pos.line X.env = pure false := by rfl) :
    ssw X (.Expr (.Call (.Attribute x "append" apos) [e] [] cpos) pos :: rest) De σ H := by
  refine gq_of (ps_expr (pe_bm PySem.F.plainAttrs_list PySem.F.slot_list_append PySem.F.type_list_append mt_append pe_tw (pa_cons pe_tw pa_nil hst) hbase hfew hline hst hplain) hs) ?_
  have hmem : (q, ds) ∈ pre ++ (q, ds) :: post := by simp
  refine S.geE ha fun v2 H2 d2 p2 n2 e2 S2 => ?_
  cases p2
  cases n2
  obtain ⟨xs0, hq0, _⟩ := owA_at hmem S2.asr
  refine ⟨.inl ⟨rfl, _, SqL.of hq0⟩, ?_⟩
  refine S2.geE he fun v1 H1 d1 p1 n1 e1 S1 => ?_
  cases p1
  obtain ⟨xs, hq, t⟩ := owA_at hmem S1.asr
  refine ⟨q, xs, v1, rfl, rfl, hq, ?_, ?_⟩
  · rw [t.length, sizeLine_eq]
    omega
  · obtain ⟨n', S'⟩ := own_change S1 n (t.append (.cons n1 .nil))
    exact k _ n' S'
end
end TM
/-! ## MtPoly2 -/
set_option Elab.async false
set_option linter.all false
set_option exponentiation.threshold 100000
/-! MtPoly2: sums, products, sizes of rows of rationals. -/
namespace TM
def cf (l : List Rat) (i : Nat) : Rat := l.getD i 0
def sumR : Nat → (Nat → Rat) → Rat
  | 0, _ => 0
  | n + 1, f => sumR n f + f n
def addL (s : Rat) (a b : List Rat) : List Rat := trim ((List.range (max a.length b.length)).map fun i => cf a i + s * cf b i)
def convL (a b : List Rat) (k : Nat) : Rat := sumR (k + 1) fun j => cf a j * cf b (k - j)
def mulL (a b : List Rat) : List Rat := trim ((List.range (a.length + b.length)).map (convL a b))
def negL (a : List Rat) : List Rat := trim (a.map fun q => -q)
def slopeL (a : List Rat) : List Rat := trim (((List.range a.length).map fun (k : Nat) => (k : Rat) * cf a k).drop 1)
def areaL (a : List Rat) : List Rat := trim (0 :: (List.range a.length).map fun (k : Nat) => cf a k / ((k : Rat) + 1))
def evalL (a : List Rat) (x : Rat) : Rat := a.foldr (fun c r => r * x + c) 0
def movedL (a : List Rat) (s t : Rat) : List Rat := a.foldr (fun c r => addL 1 (mulL r (trim [s, t])) (trim [c])) []
def plainL (a : List Rat) : List Rat := trim (a.map fun q => q / a.getLastD 0)
theorem sumR_congr {f g : Nat → Rat} : ∀ {n : Nat}, (∀ i, i < n → f i = g i) → sumR n f = sumR n g
  | 0, _ => rfl
  | n + 1, h => by
    unfold sumR
    rw [sumR_congr (n := n) fun i hi => h i (by omega), h n (by omega)]
theorem sumR_zero : ∀ {n : Nat} {f : Nat → Rat}, (∀ i, i < n → f i = 0) → sumR n f = 0
  | 0, _, _ => rfl
  | n + 1, f, h => by
    unfold sumR
    rw [sumR_zero (n := n) fun i hi => h i (by omega), h n (by omega)]
    grind
theorem sumR_add (f : Nat → Rat) : ∀ (n m : Nat), sumR (n + m) f = sumR n f + sumR m fun i => f (n + i)
  | n, 0 => by simp only [Nat.add_zero, sumR]; grind
  | n, m + 1 => by
    rw [← Nat.add_assoc]
    simp only [sumR]
    rw [sumR_add f n m]
    grind
theorem sumR_shift (f : Nat → Rat) (n : Nat) : sumR (n + 1) f = f 0 + sumR n fun i => f (i + 1) := by
  rw [Nat.add_comm, sumR_add]
  simp only [sumR]
  rw [show (fun i => f (1 + i)) = fun i => f (i + 1) from funext fun i => by rw [Nat.add_comm]]
  grind
theorem foldl_add (l : List Rat) (z : Rat) : l.foldl (· + ·) z = z + l.foldl (· + ·) 0 := by
  induction l generalizing z with
  | nil => simp only [List.foldl_nil]; grind
  | cons a l ih =>
    rw [List.foldl_cons, List.foldl_cons, ih, ih (0 + a)]
    grind
theorem foldl_range (f : Nat → Rat) : ∀ n : Nat, ((List.range n).map f).foldl (· + ·) 0 = sumR n f
  | 0 => rfl
  | n + 1 => by
    rw [List.range_succ, List.map_append, List.foldl_append, foldl_range f n]
    rfl
theorem cf_out {l : List Rat} {i : Nat} (h : l.length ≤ i) : cf l i = 0 := by
  unfold cf
  rw [List.getD_eq_getElem?_getD, List.getElem?_eq_none h]
  rfl
theorem cf_in {l : List Rat} {i : Nat} (h : i < l.length) : cf l i = l[i] := by
  unfold cf
  rw [List.getD_eq_getElem?_getD, List.getElem?_eq_getElem h]
  rfl
theorem cf_some {l : List Rat} {i : Nat} {q : Rat} (h : l[i]? = some q) : cf l i = q := by
  unfold cf
  rw [List.getD_eq_getElem?_getD, h]
  rfl
theorem cf_map (f : Nat → Rat) (n i : Nat) : cf ((List.range n).map f) i = if i < n then f i else 0 := by
  by_cases h : i < n
  · rw [if_pos h, cf_in (by simpa using h)]
    simp
  · rw [if_neg h, cf_out (by simpa using h)]
theorem cf_trim (l : List Rat) (i : Nat) : cf (trim l) i = cf l i := by
  by_cases h : i < (trim l).length
  · have h2 : (trim l)[i]? = l[i]? := by
      have e := congrArg (·[i]?) (trim_take l)
      simp only [List.getElem?_take] at e
      rw [e, if_pos h]
    unfold cf
    rw [List.getD_eq_getElem?_getD, List.getD_eq_getElem?_getD, h2]
  · rw [cf_out (by omega)]
    by_cases h2 : i < l.length
    · rw [cf_in h2]
      exact (trim_zero l i _ (List.getElem?_eq_getElem h2) (by omega)).symm
    · rw [cf_out (by omega)]
/-- a row without zeros at the end is told by its numbers -/
def Tr (l : List Rat) : Prop := trim l = l
theorem tr_trim (l : List Rat) : Tr (trim l) := trim_trim l
theorem ext_cf {a b : List Rat} (ha : Tr a) (hb : Tr b) (h : ∀ i, cf a i = cf b i) : a = b := by
  have key : ∀ {a b : List Rat}, Tr a → (∀ i, cf a i = cf b i) → a.length ≤ b.length := by
    intro a b ha h
    refine Decidable.byContradiction fun hn => ?_
    have hl : (trim a).length ≠ 0 := by rw [ha]; omega
    obtain ⟨q, h1, h2⟩ := trim_at hl
    rw [ha] at h1
    have e := h (a.length - 1)
    rw [cf_some h1, cf_out (by omega)] at e
    exact h2 e
  have hl : a.length = b.length := Nat.le_antisymm (key ha h) (key hb fun i => (h i).symm)
  refine List.ext_getElem hl fun i h1 h2 => ?_
  have e := h i
  rwa [cf_in h1, cf_in h2] at e
/-- the product's numbers by the program's bounds -/
theorem convL_range (a b : List Rat) (k : Nat) : sumR (min (k + 1) a.length - (k + 1 - b.length)) (fun i => cf a (k + 1 - b.length + i) * cf b (k - (k + 1 - b.length + i))) = convL a b k := by
  unfold convL
  have z1 : ∀ j, j < k + 1 - b.length → cf a j * cf b (k - j) = 0 := fun j hj => by
    rw [cf_out (l := b) (by omega)]
    grind
  by_cases hc : k + 1 - b.length ≤ min (k + 1) a.length
  · have e : k + 1 = (k + 1 - b.length) + ((min (k + 1) a.length - (k + 1 - b.length)) + (k + 1 - min (k + 1) a.length)) := by omega
    have e2 : sumR (k + 1) (fun j => cf a j * cf b (k - j)) = sumR ((k + 1 - b.length) + ((min (k + 1) a.length - (k + 1 - b.length)) + (k + 1 - min (k + 1) a.length))) (fun j => cf a j * cf b (k - j)) := by rw [← e]
    rw [e2, sumR_add, sumR_zero z1, sumR_add, sumR_zero (n := k + 1 - min (k + 1) a.length)]
    · grind
    · intro i hi
      rw [cf_out (l := a) (by omega)]
      grind
  · have e0 : min (k + 1) a.length - (k + 1 - b.length) = 0 := by omega
    rw [e0]
    unfold sumR
    rw [show sumR k (fun j => cf a j * cf b (k - j)) + cf a k * cf b (k - k) = sumR (k + 1) (fun j => cf a j * cf b (k - j)) from rfl]
    refine (sumR_zero fun j hj => ?_).symm
    by_cases h1 : j < k + 1 - b.length
    · exact z1 j h1
    · rw [cf_out (l := a) (by omega)]
      grind
/-! ### sizes -/
def Hb (n : Nat) (q : Rat) : Prop := q.num.natAbs < 2 ^ n ∧ q.den < 2 ^ n
/-- one bottom for the whole row -/
def CD (n : Nat) (l : List Rat) : Prop := ∃ D : Nat, 0 < D ∧ D < 2 ^ n ∧ ∀ i, ∃ z : Int, z.natAbs < 2 ^ n ∧ cf l i = Rat.divInt z D
theorem num_div_le {z : Int} {D : Nat} (hD : 0 < D) : (Rat.divInt z D).num.natAbs ≤ z.natAbs := by
  rw [Rat.num_divInt, Int.sign_eq_one_of_pos (by omega), Int.one_mul]
  have : ((D : Int).gcd z : Int) ∣ z := Int.gcd_dvd_right ..
  rw [Int.natAbs_ediv_of_dvd this]
  exact Nat.div_le_self _ _
theorem den_div_le {z : Int} {D : Nat} (hD : 0 < D) : (Rat.divInt z D).den ≤ D := by
  rw [Rat.den_divInt, if_neg (by omega)]
  exact Nat.le_trans (Nat.div_le_self _ _) (by simp)
theorem hb_div {z : Int} {D n : Nat} (hD : 0 < D) (h1 : z.natAbs < 2 ^ n) (h2 : D < 2 ^ n) : Hb n (Rat.divInt z D) := ⟨Nat.lt_of_le_of_lt (num_div_le hD) h1, Nat.lt_of_le_of_lt (den_div_le hD) h2⟩
theorem CD.hb {n : Nat} {l : List Rat} (h : CD n l) (i : Nat) : Hb n (cf l i) := by
  obtain ⟨D, h0, h1, h2⟩ := h
  obtain ⟨z, z1, z2⟩ := h2 i
  rw [z2]
  exact hb_div h0 z1 h1
theorem Hb.mono {n m : Nat} {q : Rat} (h : Hb n q) (hm : n ≤ m) : Hb m q := ⟨Nat.lt_of_lt_of_le h.1 (Nat.pow_le_pow_right (by omega) hm), Nat.lt_of_lt_of_le h.2 (Nat.pow_le_pow_right (by omega) hm)⟩
theorem CD.mono {n m : Nat} {l : List Rat} (h : CD n l) (hm : n ≤ m) : CD m l := by
  obtain ⟨D, h0, h1, h2⟩ := h
  refine ⟨D, h0, Nat.lt_of_lt_of_le h1 (Nat.pow_le_pow_right (by omega) hm), fun i => ?_⟩
  obtain ⟨z, z1, z2⟩ := h2 i
  exact ⟨z, Nat.lt_of_lt_of_le z1 (Nat.pow_le_pow_right (by omega) hm), z2⟩
theorem log_lt {a n : Nat} (h : a < 2 ^ n) (h0 : 0 < n) : a.log2 < n := by
  by_cases ha : a = 0
  · subst ha
    simpa using h0
  · exact (Nat.log2_lt ha).mpr h
/-- a sum over one bottom -/
theorem sum_div {f : Nat → Rat} {D : Nat} {M : Nat} (hD : 0 < D) : ∀ (N : Nat), (∀ i, i < N → ∃ z : Int, z.natAbs ≤ M ∧ f i = Rat.divInt z D) → ∃ z : Int, z.natAbs ≤ N * M ∧ sumR N f = Rat.divInt z D
  | 0, _ => ⟨0, by simp, by rw [Rat.divInt_eq_div]; simp [sumR]; grind⟩
  | N + 1, h => by
    obtain ⟨z, z1, z2⟩ := sum_div hD N fun i hi => h i (by omega)
    obtain ⟨y, y1, y2⟩ := h N (by omega)
    refine ⟨z + y, ?_, ?_⟩
    · rw [Nat.succ_mul]
      omega
    · unfold sumR
      have hD' : (D : Rat) ≠ 0 := by
        intro e
        have := Rat.natCast_inj.mp (e.trans (by rfl : (0 : Rat) = ((0 : Nat) : Rat)))
        omega
      rw [z2, y2, Rat.divInt_eq_div, Rat.divInt_eq_div, Rat.divInt_eq_div, Rat.intCast_add]
      grind
theorem dn_ne {D : Nat} (hD : 0 < D) : (D : Rat) ≠ 0 := by
  intro e
  have := Rat.natCast_inj.mp (e.trans (by rfl : (0 : Rat) = ((0 : Nat) : Rat)))
  omega
theorem hb_zero {n : Nat} (hn : 0 < n) : Hb n 0 := ⟨Nat.two_pow_pos n, by show 1 < 2 ^ n; exact Nat.one_lt_two_pow (by omega)⟩
theorem conv_part {n m : Nat} {a b : List Rat} (ha : CD n a) (hb : CD m b) (k s N : Nat) (hN : N < 1024) : Hb (n + m + 10) (sumR N fun i => cf a (s + i) * cf b (k - (s + i))) := by
  obtain ⟨D, d0, d1, d2⟩ := ha
  obtain ⟨E, e0, e1, e2⟩ := hb
  have hDE : 0 < D * E := Nat.mul_pos d0 e0
  have hlt : D * E < 2 ^ (n + m) := by
    rw [Nat.pow_add]
    exact Nat.mul_lt_mul'' d1 e1
  obtain ⟨z, z1, z2⟩ := sum_div (D := D * E) (M := 2 ^ (n + m)) hDE N (f := fun i => cf a (s + i) * cf b (k - (s + i))) fun i hi => by
    obtain ⟨x, x1, x2⟩ := d2 (s + i)
    obtain ⟨y, y1, y2⟩ := e2 (k - (s + i))
    refine ⟨x * y, ?_, ?_⟩
    · rw [Int.natAbs_mul, Nat.pow_add]
      exact Nat.mul_le_mul (Nat.le_of_lt x1) (Nat.le_of_lt y1)
    · show cf a (s + i) * cf b (k - (s + i)) = _
      rw [x2, y2, Rat.divInt_mul_divInt, Int.natCast_mul]
  rw [z2]
  have h2 : 2 ^ (n + m) < 2 ^ (n + m + 10) := Nat.pow_lt_pow_right (by omega) (by omega)
  refine hb_div hDE (Nat.lt_of_le_of_lt z1 ?_) (by omega)
  rw [Nat.pow_add _ (n + m), Nat.mul_comm]
  exact Nat.mul_lt_mul_of_pos_left (by omega) (Nat.two_pow_pos _)
theorem cd_mul {n m : Nat} {a b : List Rat} (ha : CD n a) (hb : CD m b) (hl : a.length + b.length < 1000) : CD (n + m + 10) (mulL a b) := by
  obtain ⟨D, d0, d1, d2⟩ := ha
  obtain ⟨E, e0, e1, e2⟩ := hb
  have hDE : 0 < D * E := Nat.mul_pos d0 e0
  have hlt : D * E < 2 ^ (n + m) := by
    rw [Nat.pow_add]
    exact Nat.mul_lt_mul'' d1 e1
  have h2 : 2 ^ (n + m) < 2 ^ (n + m + 10) := Nat.pow_lt_pow_right (by omega) (by omega)
  refine ⟨D * E, hDE, by omega, fun k => ?_⟩
  unfold mulL
  rw [cf_trim, cf_map]
  by_cases hk : k < a.length + b.length
  · rw [if_pos hk]
    unfold convL
    obtain ⟨z, z1, z2⟩ := sum_div (D := D * E) (M := 2 ^ (n + m)) hDE (k + 1) (f := fun j => cf a j * cf b (k - j)) fun i hi => by
      obtain ⟨x, x1, x2⟩ := d2 i
      obtain ⟨y, y1, y2⟩ := e2 (k - i)
      refine ⟨x * y, ?_, ?_⟩
      · rw [Int.natAbs_mul, Nat.pow_add]
        exact Nat.mul_le_mul (Nat.le_of_lt x1) (Nat.le_of_lt y1)
      · show cf a i * cf b (k - i) = _
        rw [x2, y2, Rat.divInt_mul_divInt, Int.natCast_mul]
    refine ⟨z, Nat.lt_of_le_of_lt z1 ?_, z2⟩
    rw [Nat.pow_add _ (n + m), Nat.mul_comm]
    exact Nat.mul_lt_mul_of_pos_left (by omega) (Nat.two_pow_pos _)
  · rw [if_neg hk]
    exact ⟨0, Nat.two_pow_pos _, by rw [Rat.divInt_eq_div]; simp; grind⟩
theorem cd_add {n m : Nat} {a b : List Rat} {s : Rat} (hs : s = 1 ∨ s = -1) (ha : CD n a) (hb : CD m b) : CD (n + m + 1) (addL s a b) := by
  obtain ⟨D, d0, d1, d2⟩ := ha
  obtain ⟨E, e0, e1, e2⟩ := hb
  have hDE : 0 < D * E := Nat.mul_pos d0 e0
  have hlt : D * E < 2 ^ (n + m) := by
    rw [Nat.pow_add]
    exact Nat.mul_lt_mul'' d1 e1
  have h2 : 2 ^ (n + m + 1) = 2 ^ (n + m) + 2 ^ (n + m) := by rw [Nat.pow_succ]; omega
  have hp : 2 ^ (n + m) = 2 ^ n * 2 ^ m := Nat.pow_add ..
  refine ⟨D * E, hDE, by omega, fun k => ?_⟩
  unfold addL
  rw [cf_trim, cf_map]
  by_cases hk : k < max a.length b.length
  · rw [if_pos hk]
    obtain ⟨x, x1, x2⟩ := d2 k
    obtain ⟨y, y1, y2⟩ := e2 k
    have b1 : (x * (E : Int)).natAbs ≤ 2 ^ (n + m) := by
      rw [Int.natAbs_mul, hp]
      exact Nat.mul_le_mul (Nat.le_of_lt x1) (by simpa using Nat.le_of_lt e1)
    have b1' : (x * (E : Int)).natAbs < 2 ^ (n + m) := by
      rw [Int.natAbs_mul, hp]
      exact Nat.mul_lt_mul'' x1 (by simpa using e1)
    have b2 : (y * (D : Int)).natAbs < 2 ^ (n + m) := by
      rw [Int.natAbs_mul, hp, Nat.mul_comm]
      exact Nat.mul_lt_mul'' (by simpa using d1) y1
    rw [x2, y2]
    rcases hs with rfl | rfl
    · refine ⟨x * E + y * D, by omega, ?_⟩
      rw [Rat.one_mul, Rat.divInt_add_divInt _ _ (by omega) (by omega), Int.natCast_mul]
    · refine ⟨x * E - y * D, by omega, ?_⟩
      rw [show Rat.divInt x D + -1 * Rat.divInt y E = Rat.divInt x D - Rat.divInt y E from by grind, Rat.divInt_sub_divInt _ _ (by omega) (by omega), Int.natCast_mul]
  · rw [if_neg hk]
    exact ⟨0, Nat.two_pow_pos _, by rw [Rat.divInt_eq_div]; simp; grind⟩
end TM
/-! ## PgPoly2 -/
set_option Elab.async false
set_option linter.all false
set_option maxRecDepth 100000
set_option maxHeartbeats 4000000
set_option exponentiation.threshold 100000
/-! PgPoly2: poly_told, degree, ==, added_up, summed, power_number, multiplied, plain. -/
namespace TM
open PySem L2 PySem.Spec PyProof.Rows
/-! ### sizes on the way -/
theorem Hb.b4 {q : Rat} (h : Hb 4490 q) : B4 q.num q.den := ⟨log_lt h.1 (by omega), by simpa using log_lt h.2 (by omega)⟩
theorem Hb.b4' {q : Rat} {n : Nat} (h : Hb n q) (hn : n ≤ 4490) : B4 q.num q.den := (h.mono hn).b4
theorem Hb.wq {q : Rat} {n : Nat} (h : Hb n q) (hn : n ≤ 9000) : Wq (pair q) q := wq_pair (Nat.lt_of_lt_of_le (by
  by_cases h0 : n = 0
  · subst h0
    have := h.2
    have := q.den_pos
    omega
  · exact log_lt h.2 (by omega)) hn)
theorem wqs_prs {n : Nat} (hn : n ≤ 9000) : ∀ {qs : List Rat}, (∀ q ∈ qs, Hb n q) → Paired Wq (prs qs) qs
  | [], _ => .nil
  | q :: qs, h => .cons ((h q List.mem_cons_self).wq hn) (wqs_prs hn fun r hr => h r (List.mem_cons_of_mem _ hr))
theorem cd_mem {n : Nat} {l : List Rat} (h : CD n l) : ∀ q ∈ l, Hb n q := fun q hq => by
  obtain ⟨i, hi, e⟩ := List.getElem_of_mem hq
  rw [← e, ← cf_in hi]
  exact h.hb i
/-- how Poly reads a value -/
def polyD (d : D) (ns : List Rat) : Prop := d = .poly ns ∨ ∃ q, Wq d q ∧ ns = trim [q]
theorem Wr.kind {d : D} {a b : Int} (h : Wr d a b) : isOth d ∨ ∃ xs, d = .lst xs := by
  obtain ⟨_, ⟨rfl, _⟩ | h⟩ := h
  · exact .inl trivial
  · cases d <;> first | exact .inl trivial | exact .inr ⟨_, rfl⟩ | cases h
section
variable {P : Program} {w : World} {K : PySem.W.Frag} {mg : Str → Option Value} {base : Heap} {f : Addr} {fd : FuncData} {C : Addr} {k : Nat}
abbrev MkS (P : Program) (w : World) (K : PySem.W.Frag) (mg : Str → Option Value) (base : Heap) (k : Nat) (C : Addr) : Prop := Mkr P w K mg base CX0 k C "Poly" (spInit C Rinit)
abbrev MS (P : Program) (w : World) (K : PySem.W.Frag) (mg : Str → Option Value) (base : Heap) (k : Nat) (C : Addr) (m : Str) (R : List D → D → Prop) : Prop := MFn P w K mg base CX0 k C m (spP C R)
def RpolyTold : List D → D → Prop := fun ds r => ∃ d ns, ds = [d] ∧ polyD d ns ∧ r = .poly ns
theorem sc_poly_told : FnScope ["value"] ["value"] (defScope (top 25)) := ⟨rfl, rfl, rfl, by decide +kernel, rfl, by decide +kernel, by decide +kernel⟩
theorem fn_poly_told (g : Gs K mg C) (hM : MkS P w K mg base k C) (F : FnP K "poly_told" "poly_told" (top 25) f fd) (hm : mg "poly_told" = some (.ref f)) : FnS P w K mg base (k + 2) C "poly_told" RpolyTold := by
  refine fn_pure F hm sc_poly_told (F.bindsN fun _ _ _ _ _ _ us hl => match us, hl with | [_], _ => rfl) (fun ds r h => by obtain ⟨d, ns, rfl, _⟩ := h; rfl) ?_
  rintro cdv A outer s H E ds r hr ⟨d, ns, rfl, hd, rfl⟩
  intro O H0 vs De hw hn hrt hnx
  have S : Stt C O H0 H0 (start ["value"] vs) [some d] (ownA O H0) := Stt.start hw hn ownA_refl
  rcases hd with rfl | ⟨q, hq, rfl⟩
  · exact gq_retP S hrt (ge_if (gt_val (ge_isiP1 g.pc (g.f "isinstance") (ge_var 0) (ge_glob g.poly rfl))) (fun _ => ge_var 0) (fun z => by cases z))
  · obtain ⟨a, b, w1, w2, w3⟩ := id hq
    obtain ⟨T, hT⟩ := w1.dat.1
    have hT2 : T ∈ ["NoneType", "bool", "int", "str", "list", "tuple", "dict"] := by cases d <;> cases hT <;> simp
    exact gq_retP S hrt (ge_if (gt_val (ge_isiP g.pc (g.f "isinstance") (ge_var 0) (ge_glob g.poly rfl) hT hT2)) (fun z => by cases z) (fun _ => ge_make hM hr (ge_tup (ga_one (ge_var 0))) ⟨_, [q], rfl, .cons hq .nil, by simp, rfl⟩))
def Rdegree : List D → D → Prop := fun ds r => ∃ ns : List Rat, ds = [.poly ns] ∧ r = .int ((ns.length : Int) - 1)
theorem sc_degree : FnScope ["self"] ["self"] (defScope (pol 9)) := ⟨rfl, rfl, rfl, by decide +kernel, rfl, by decide +kernel, by decide +kernel⟩
theorem mf_degree (g : Gs K mg C) (F : FnP K "degree" "Poly.degree" (pol 9) f fd) (hm : Meth K C "degree" f) : MS P w K mg base (k + 1) C "degree" Rdegree := by
  refine mf_pure F hm sc_degree (F.bindsN fun _ _ _ _ _ _ us hl => match us, hl with | [_], _ => rfl) (fun ds r h => by obtain ⟨ns, rfl, _⟩ := h; rfl) ?_
  rintro cdv A outer s H E ds r hr ⟨ns, rfl, rfl⟩
  intro O H0 vs De hw hn hrt hnx
  have S : Stt C O H0 H0 (start ["self"] vs) [some (.poly ns)] (ownA O H0) := Stt.start hw hn ownA_refl
  refine gq_retP S hrt ((ge_sub (ge_len (g.f "len") (ge_num g.pc.cl g.pc.nn (ge_var 0)) rfl) ge_int).is ?_)
  rw [prs_len]
def Req : List D → D → Prop := fun ds r => ∃ ns d, ds = [.poly ns, d] ∧ ((∃ ms, d = .poly ms ∧ r = .bl (decide (ns = ms))) ∨ (isOth d ∧ r = .bl false))
theorem sc_eq : FnScope ["self", "other"] ["self", "other"] (defScope (pol 1)) := ⟨rfl, rfl, rfl, by decide +kernel, rfl, by decide +kernel, by decide +kernel⟩
theorem mf_eq (g : Gs K mg C) (F : FnP K "__eq__" "Poly.__eq__" (pol 1) f fd) (hm : Meth K C "__eq__" f) : MS P w K mg base (k + 1) C "__eq__" Req := by
  refine mf_pure F hm sc_eq (F.bindsN fun _ _ _ _ _ _ us hl => match us, hl with | [_, _], _ => rfl) (fun ds r h => by obtain ⟨ns, d, rfl, _⟩ := h; rfl) ?_
  rintro cdv A outer s H E ds r hr ⟨ns, d, rfl, hd⟩
  intro O H0 vs De hw hn hrt hnx
  have S : Stt C O H0 H0 (start ["self", "other"] vs) [some (.poly ns), some d] (ownA O H0) := Stt.start hw hn ownA_refl
  rcases hd with ⟨ms, rfl, rfl⟩ | ⟨ho, rfl⟩
  · refine gq_retP S hrt ((ge_and (k1 := true) (ge_isiP1 g.pc (g.f "isinstance") (ge_var 1) (ge_glob g.poly rfl)) (fun _ => ge_eqD hr (ge_num g.pc.cl g.pc.nn (ge_var 0)) (ge_num g.pc.cl g.pc.nn (ge_var 1)) (fit_prsT _) (fit_prsT _))).is ?_)
    rw [eqv_prsT, Bool.true_and]
  · obtain ⟨T, hT, hT2⟩ : ∃ T, tyN d = some T ∧ T ∈ ["NoneType", "bool", "int", "str", "list", "tuple", "dict"] := by cases d <;> first | exact ho.elim | exact ⟨_, rfl, by simp⟩
    exact gq_retP S hrt (ge_and (k1 := false) (k2 := false) (ge_isiP g.pc (g.f "isinstance") (ge_var 1) (ge_glob g.poly rfl) hT hT2) (fun z => by cases z))
def RaddedUp : List D → D → Prop := fun ds r => ∃ qs : List Rat, ds = [.lst (prs qs)] ∧ (∀ q ∈ qs, Hb 4490 q) ∧ (∀ i, i < qs.length → Hb 4490 ((qs.take i).foldl (· + ·) 0)) ∧ r = pair (qs.foldl (· + ·) 0)
theorem sc_added_up : FnScope ["ratios", "found", "ratio"] ["ratios"] (defScope (top 26)) := ⟨rfl, rfl, rfl, by decide +kernel, rfl, by decide +kernel, by decide +kernel⟩
theorem foldl_snoc (qs : List Rat) (i : Nat) (hi : i < qs.length) : (qs.take (i + 1)).foldl (· + ·) 0 = (qs.take i).foldl (· + ·) 0 + qs[i] := by
  have e : qs.take (i + 1) = qs.take i ++ [qs[i]] := by rw [List.take_add_one, List.getElem?_eq_getElem hi]; rfl
  rw [e, List.foldl_append]
  rfl
theorem fn_added_up (hP : FnS P w K mg base k C "plus" (Rbin (· + ·))) (F : FnP K "added_up" "added_up" (top 26) f fd) (hm : mg "added_up" = some (.ref f)) : FnS P w K mg base (k + 1) C "added_up" RaddedUp := by
  refine fn_pure F hm sc_added_up (F.bindsN fun _ _ _ _ _ _ us hl => match us, hl with | [_], _ => rfl) (fun ds r h => by obtain ⟨ns, rfl, _⟩ := h; rfl) ?_
  rintro cdv A outer s H E ds r hr ⟨qs, rfl, h1, h2, rfl⟩
  intro O H0 vs De hw hn hrt hnx
  have S : Stt C O H0 H0 (start ["ratios", "found", "ratio"] vs) [some (.lst (prs qs)), none, none] (ownA O H0) := Stt.start hw hn ownA_refl
  refine gq_setP (d := pair 0) 1 S sc_added_up.nd (ge_tup (ga_two ge_int ge_int)) (fun σ1 H1 S1 => ?_)
  refine gq_for S1 PassesOwn.never rfl (gi_list (ge_var 0)) (tg_name (i := 2) (vs := [2]) sc_added_up.nd rfl (.inl rfl) (by simp)) (fun i hi => trivial)
    (fun i ρ I => I = ownA O H0 ∧ ∃ x, ρ = [some (.lst (prs qs)), some (pair ((qs.take i).foldl (· + ·) 0)), x]) ⟨rfl, none, rfl⟩ ?_ ?_
  · rintro H2 e2 i ρ' I' σ' H' hi ⟨rfl, x, rfl⟩ S2
    rw [prs_len] at hi
    rw [prs_get hi] at S2
    refine gq_setP (d := pair ((qs.take (i + 1)).foldl (· + ·) 0)) 1 S2 sc_added_up.nd ((ge_call hP hr (ga_two (ge_var 1) (ge_var 2)) ⟨_, _, _, _, _, _, rfl, wr_pair _, wr_pair _, (h2 i hi).b4, (h1 _ (List.getElem_mem hi)).b4, rfl⟩).is ?_) (fun σ3 H3 S3 => gq_nil ⟨_, _, ⟨rfl, _, rfl⟩, S3⟩)
    rw [rt_self, rt_self, foldl_snoc qs i hi]
  · rintro ρ' I' σ' H' ⟨rfl, x, rfl⟩ S2
    rw [prs_len, List.take_length] at S2
    exact gq_retP S2 hrt (ge_var 1)
end
end TM
/-! ## PgPoly3 -/
set_option Elab.async false
set_option linter.all false
set_option maxRecDepth 100000
set_option maxHeartbeats 4000000
set_option exponentiation.threshold 100000
/-! PgPoly3: summed, power_number, multiplied and the operators. -/
namespace TM
open PySem L2 PySem.Spec PyProof.Rows
theorem prs_append (a b : List Rat) : prs (a ++ b) = prs a ++ prs b := by unfold prs; rw [List.map_append]
/-- filled up with zeros -/
def padL (a : List Rat) (n : Nat) : List Rat := a ++ List.replicate (n - a.length) 0
theorem padL_len {a : List Rat} {n : Nat} (h : a.length ≤ n) : (padL a n).length = n := by
  unfold padL
  rw [List.length_append, List.length_replicate]
  omega
theorem padL_cf (a : List Rat) (n i : Nat) : cf (padL a n) i = cf a i := by
  unfold padL
  by_cases h : i < a.length
  · rw [cf_in h, cf_in (by rw [List.length_append]; omega)]
    exact List.getElem_append_left h
  · rw [cf_out (l := a) (by omega)]
    by_cases h2 : i < (a ++ List.replicate (n - a.length) 0).length
    · rw [cf_in h2, List.getElem_append_right (by omega), List.getElem_replicate]
    · exact cf_out (by omega)
theorem pad_prs (a : List Rat) (n : Nat) : prs a ++ (List.replicate ((n : Int) - (a.length : Int)).toNat [pair 0]).flatten = prs (padL a n) := by
  have e : ((n : Int) - (a.length : Int)).toNat = n - a.length := by omega
  unfold padL
  rw [e, prs_append]
  congr 1
  unfold prs
  rw [List.map_replicate]
  generalize n - a.length = m
  induction m with
  | zero => rfl
  | succ m ih => rw [List.replicate_succ, List.flatten_cons, ih, List.replicate_succ]; rfl
theorem cf_getD {l : List Rat} {i : Nat} : l.getD i 0 = cf l i := rfl
section
variable {P : Program} {w : World} {K : PySem.W.Frag} {mg : Str → Option Value} {base : Heap} {f : Addr} {fd : FuncData} {C : Addr} {k : Nat}
def isSign (s : Int) : Prop := s = 1 ∨ s = -1
def Rsummed : List D → D → Prop := fun ds r => ∃ (a b : List Rat) (s : Int), ds = [.poly a, .poly b, .int s] ∧ isSign s ∧ a.length ≤ 100 ∧ b.length ≤ 100 ∧ CD 2200 a ∧ CD 2200 b ∧ r = .poly (addL s a b)
theorem sc_summed : FnScope ["one", "other", "sign", "wide", "first", "second", "a", "b"] ["one", "other", "sign"] (defScope (top 27)) := ⟨rfl, rfl, rfl, by decide +kernel, rfl, by decide +kernel, by decide +kernel⟩
theorem hb_addc {a b : List Rat} {s : Rat} (hs : s = 1 ∨ s = -1) (ha : CD 2200 a) (hb : CD 2200 b) (i : Nat) : Hb 4401 (cf a i + s * cf b i) := by
  have h := (cd_add hs ha hb).hb i
  unfold addL at h
  rw [cf_trim, cf_map] at h
  by_cases hi : i < max a.length b.length
  · rw [if_pos hi] at h
    exact h
  · rw [cf_out (l := a) (by omega), cf_out (l := b) (by omega)]
    rw [if_neg hi] at h
    rw [show (0 : Rat) + s * 0 = 0 from by grind]
    exact h
theorem sign_rat {s : Int} (h : isSign s) : (s : Rat) = 1 ∨ (s : Rat) = -1 := by
  rcases h with rfl | rfl
  · exact .inl rfl
  · exact .inr rfl
theorem rt_sign {s : Int} {q : Rat} : rt (s * q.num) q.den = (s : Rat) * q := by
  have e := rt_self q
  rw [rt, Rat.divInt_eq_div] at e
  rw [rt, Rat.divInt_eq_div, Rat.intCast_mul]
  have hq : ((q.den : Int) : Rat) ≠ 0 := by
    have := dn_ne q.den_pos
    rwa [Rat.intCast_natCast]
  grind
theorem fn_summed (g : Gs K mg C) (hM : MkS P w K mg base k C) (hP : FnS P w K mg base k C "plus" (Rbin (· + ·))) (F : FnP K "summed" "summed" (top 27) f fd) (hm : mg "summed" = some (.ref f)) : FnS P w K mg base (k + 2) C "summed" Rsummed := by
  refine fn_pure F hm sc_summed (F.bindsN fun _ _ _ _ _ _ us hl => match us, hl with | [_, _, _], _ => rfl) (fun ds r h => by obtain ⟨a, b, s, rfl, _⟩ := h; rfl) ?_
  rintro cdv A outer s0 H E ds r hr ⟨a, b, s, rfl, hs, la, lb, ca, cb, rfl⟩
  intro O H0 vs De hw hn hrt hnx
  have S : Stt C O H0 H0 (start ["one", "other", "sign", "wide", "first", "second", "a", "b"] vs) [some (.poly a), some (.poly b), some (.int s), none, none, none, none, none] (ownA O H0) := Stt.start hw hn ownA_refl
  have hr1 : Room k (A.deeper (envOfC "summed" (defScope (top 27)) s0.heap.objs.size f cdv)) := hr.mono (by omega)
  have wm : (max (a.length : Int) (b.length : Int)) = ((max a.length b.length : Nat) : Int) := by omega
  have wa : ((prs a).length : Int) = a.length := by rw [prs_len]
  have wb : ((prs b).length : Int) = b.length := by rw [prs_len]
  refine gq_setP (d := .int ((max a.length b.length : Nat) : Int)) 3 S sc_summed.nd ((ge_max2 rfl (g.f "max") (ge_lst (ga_two (ge_len (g.f "len") (ge_num g.pc.cl g.pc.nn (ge_var 0)) rfl) (ge_len (g.f "len") (ge_num g.pc.cl g.pc.nn (ge_var 1)) rfl)))).is (by rw [wa, wb, wm])) (fun σ1 H1 S1 => ?_)
  refine gq_setP (d := .tup (prs (padL a (max a.length b.length)))) 4 S1 sc_summed.nd ((ge_catT (ge_num g.pc.cl g.pc.nn (ge_var 0)) (ge_repT (ds := [pair 0]) (n := ((max a.length b.length : Nat) : Int) - (a.length : Int)) (ge_tup (ga_one (ge_tup (ga_two ge_int ge_int)))) ((ge_sub (ge_var 3) (ge_len (g.f "len") (ge_num g.pc.cl g.pc.nn (ge_var 0)) rfl)).is (by rw [wa])) (by omega) (by omega) (by simp) (by simp)) ?_).is (by rw [pad_prs])) (fun σ2 H2 S2 => ?_)
  · rw [prs_len]
    simp
    omega
  refine gq_setP (d := .tup (prs (padL b (max a.length b.length)))) 5 S2 sc_summed.nd ((ge_catT (ge_num g.pc.cl g.pc.nn (ge_var 1)) (ge_repT (ds := [pair 0]) (n := ((max a.length b.length : Nat) : Int) - (b.length : Int)) (ge_tup (ga_one (ge_tup (ga_two ge_int ge_int)))) ((ge_sub (ge_var 3) (ge_len (g.f "len") (ge_num g.pc.cl g.pc.nn (ge_var 1)) rfl)).is (by rw [wb])) (by omega) (by omega) (by simp) (by simp)) ?_).is (by rw [pad_prs])) (fun σ3 H3 S3 => ?_)
  · rw [prs_len]
    simp
    omega
  have l1 : (prs (padL a (max a.length b.length))).length = max a.length b.length := by rw [prs_len, padL_len (by omega)]
  have l2 : (prs (padL b (max a.length b.length))).length = max a.length b.length := by rw [prs_len, padL_len (by omega)]
  refine gq_retP S3 hrt (ge_make hM (hr.mono (by omega)) (d := .lst (prs ((List.range (max a.length b.length)).map fun i => cf a i + s * cf b i))) ((ge_lc (g := fun i => pair (cf a i + s * cf b i)) rfl sc_summed.nd (gi_zipT (g.f "zip") (ge_var 4) (ge_var 5) (by rw [l1, l2])) (own := [("a", 6), ("b", 7)]) (blkOk_by (by rfl)) (fun b O' => tg_two (i := 6) (j := 7) (vs := [6, 7]) rfl sc_summed.nd rfl (.inl rfl) rfl (.inl rfl) (by simp) (by simp)) (fun i hi => ⟨_, _, rfl⟩) (by rw [l1]; omega) (fun b0 O' I' _ i hi => ?_)).is ?_) ⟨_, _, rfl, wqs_prs (n := 4401) (by omega) ?_, ?_, rfl⟩)
  · rw [l1] at hi
    have e1 : (prs (padL a (max a.length b.length))).getD i .non = pair (cf a i) := by
      rw [prs_get (by rw [padL_len (by omega)]; exact hi), ← cf_in, padL_cf]
    have e2 : (prs (padL b (max a.length b.length))).getD i .non = pair (cf b i) := by
      rw [prs_get (by rw [padL_len (by omega)]; exact hi), ← cf_in, padL_cf]
    rw [e1, e2]
    have hbb := cb.hb i
    have hmul : CMulW s (cf b i).num := by
      unfold CMulW
      have h1 := log_lt hbb.1 (by omega)
      have h2 : s.natAbs.log2 = 0 := by rcases hs with rfl | rfl <;> decide
      omega
    refine (ge_call hP hr1 (ga_two (ge_var 6) (ge_tup (ga_two (ge_mul (ge_var 2) (ge_ix (ge_var 7) ge_int rfl rfl) hmul) (ge_ix (ge_var 7) ge_int rfl rfl)))) ⟨_, _, _, _, _, _, rfl, wr_pair _, wr_tup (by have := (cf b i).den_pos; omega), (ca.hb i).b4' (by omega), ?_, rfl⟩).is ?_
    · rw [rt_self, rt_sign]
    · refine ⟨?_, ((hbb).b4' (by omega)).2⟩
      rw [Int.natAbs_mul]
      have : s.natAbs = 1 := by rcases hs with rfl | rfl <;> rfl
      rw [this, Nat.one_mul]
      exact (hbb.b4' (by omega)).1
  · rw [l1]
    unfold prs
    rw [List.map_map]
    rfl
  · intro q hq
    obtain ⟨i, _, rfl⟩ := List.mem_map.mp hq
    exact hb_addc (sign_rat hs) ca cb i
  · rw [prs_len]
    simp
    omega
end
end TM
/-! ## PgPoly4 -/
set_option Elab.async false
set_option linter.all false
set_option maxRecDepth 100000
set_option maxHeartbeats 4000000
set_option exponentiation.threshold 100000
/-! PgPoly4: power_number, multiplied, the operators, -poly, plain. -/
namespace TM
open PySem L2 PySem.Spec PyProof.Rows
theorem prs_atI {a : List Rat} {i : Int} {j : Nat} (hi : i = (j : Int)) (hj : j < a.length) : atI (prs a) i = some (pair (cf a j)) := by
  refine atI_n hi ?_
  unfold prs
  rw [List.getElem?_map, List.getElem?_eq_getElem hj, cf_in hj]
  rfl
section
variable {P : Program} {w : World} {K : PySem.W.Frag} {mg : Str → Option Value} {base : Heap} {f : Addr} {fd : FuncData} {C : Addr} {k : Nat}
def RpowerNumber : List D → D → Prop := fun ds r => ∃ (a b : List Rat) (j n m : Nat), ds = [.poly a, .poly b, .int j] ∧ a.length ≤ 400 ∧ b.length ≤ 400 ∧ j ≤ 1000 ∧ CD n a ∧ CD m b ∧ n + m ≤ 4400 ∧ r = pair (convL a b j)
theorem sc_power : FnScope ["one", "other", "place", "start", "stop", "k"] ["one", "other", "place"] (defScope (top 28)) := ⟨rfl, rfl, rfl, by decide +kernel, rfl, by decide +kernel, by decide +kernel⟩
theorem hb_mul {n m : Nat} {x y : Rat} (hx : Hb n x) (hy : Hb m y) : Hb (n + m) (x * y) := by
  have hxy : x * y = Rat.divInt (x.num * y.num) ((x.den * y.den : Nat) : Int) := by
    conv => lhs; rw [← Rat.num_divInt_den x, ← Rat.num_divInt_den y]
    rw [Rat.divInt_mul_divInt, Int.natCast_mul]
  rw [hxy]
  refine hb_div (Nat.mul_pos x.den_pos y.den_pos) ?_ ?_
  · rw [Int.natAbs_mul, Nat.pow_add]
    exact Nat.mul_lt_mul'' hx.1 hy.1
  · rw [Nat.pow_add]
    exact Nat.mul_lt_mul'' hx.2 hy.2
theorem fn_power (g : Gs K mg C) (hT : FnS P w K mg base k C "times" (Rbin (· * ·))) (hA : FnS P w K mg base k C "added_up" RaddedUp) (F : FnP K "power_number" "power_number" (top 28) f fd) (hm : mg "power_number" = some (.ref f)) : FnS P w K mg base (k + 1) C "power_number" RpowerNumber := by
  refine fn_pure F hm sc_power (F.bindsN fun _ _ _ _ _ _ us hl => match us, hl with | [_, _, _], _ => rfl) (fun ds r h => by obtain ⟨a, b, j, n, m, rfl, _⟩ := h; rfl) ?_
  rintro cdv A outer s0 H E ds r hr ⟨a, b, j, n, m, rfl, la, lb, hj, ca, cb, hnm, rfl⟩
  intro O H0 vs De hw hn hrt hnx
  have S : Stt C O H0 H0 (start ["one", "other", "place", "start", "stop", "k"] vs) [some (.poly a), some (.poly b), some (.int j), none, none, none] (ownA O H0) := Stt.start hw hn ownA_refl
  have wa : ((prs a).length : Int) = a.length := by rw [prs_len]
  have wb : ((prs b).length : Int) = b.length := by rw [prs_len]
  refine gq_par (d1 := .int ((j + 1 - b.length : Nat) : Int)) (d2 := .int ((min (j + 1) a.length : Nat) : Int)) 3 4 S rfl sc_power.nd (ga_two ((ge_max2 rfl (g.f "max") (ge_lst (ga_two ge_int (ge_sub (ge_add (ge_var 2) ge_int) (ge_len (g.f "len") (ge_num g.pc.cl g.pc.nn (ge_var 1)) rfl))))).is (by rw [wb]; congr 1; omega))
    ((ge_min2 rfl (g.f "min") (ge_lst (ga_two (ge_add (ge_var 2) ge_int) (ge_len (g.f "len") (ge_num g.pc.cl g.pc.nn (ge_var 0)) rfl)))).is (by rw [wa]; congr 1; omega))) (fun σ1 H1 S1 => ?_)
  have en : ((min (j + 1) a.length : Nat) : Int) - ((j + 1 - b.length : Nat) : Int) = ((min (j + 1) a.length : Nat) : Int) - ((j + 1 - b.length : Nat) : Int) := rfl
  have et : (((min (j + 1) a.length : Nat) : Int) - ((j + 1 - b.length : Nat) : Int)).toNat = min (j + 1) a.length - (j + 1 - b.length) := by omega
  refine gq_retP S1 hrt ((ge_call hA hr (ga_one ((ge_lc (g := fun i => pair (cf a (j + 1 - b.length + i) * cf b (j - (j + 1 - b.length + i)))) rfl sc_power.nd (gi_range2 (g.f "range") (ge_var 3) (ge_var 4) (by omega)) (own := [("k", 5)]) (blkOk_by (by rfl)) (fun b O' => tg_name (i := 5) (vs := [5]) sc_power.nd rfl (.inl rfl) (by simp)) (fun i hi => trivial) (by omega) (fun b0 O' I' _ i hi => ?_)).is
    (d' := .lst (prs ((List.range (min (j + 1) a.length - (j + 1 - b.length))).map fun i => cf a (j + 1 - b.length + i) * cf b (j - (j + 1 - b.length + i))))) ?_)) ⟨_, rfl, ?_, ?_, rfl⟩).is ?_)
  · rw [et] at hi
    refine (ge_call hT hr (ga_two (ge_ix (ge_num g.pc.cl g.pc.nn (ge_var 0)) (ge_var 5) rfl (prs_atI (j := j + 1 - b.length + i) (by omega) (by omega))) (ge_ix (ge_num g.pc.cl g.pc.nn (ge_var 1)) (ge_sub (ge_var 2) (ge_var 5)) rfl (prs_atI (j := j - (j + 1 - b.length + i)) (by omega) (by omega)))) ⟨_, _, _, _, _, _, rfl, wr_pair _, wr_pair _, (ca.hb _).b4' (by omega), (cb.hb _).b4' (by omega), rfl⟩).is ?_
    rw [rt_self, rt_self]
  · rw [et]
    unfold prs
    rw [List.map_map]
    rfl
  · rw [foldl_range, convL_range]
  · intro q hq
    obtain ⟨i, _, rfl⟩ := List.mem_map.mp hq
    exact (hb_mul (ca.hb _) (cb.hb _)).mono (by omega)
  · intro i hi
    rw [List.length_map, List.length_range] at hi
    rw [← List.map_take, List.take_range, Nat.min_eq_left (by omega), foldl_range]
    exact (conv_part ca cb j _ i (by omega)).mono (by omega)
def Rmultiplied : List D → D → Prop := fun ds r => ∃ (a b : List Rat) (n m : Nat), ds = [.poly a, .poly b] ∧ a.length ≤ 400 ∧ b.length ≤ 400 ∧ CD n a ∧ CD m b ∧ n + m ≤ 4400 ∧ r = .poly (mulL a b)
theorem sc_multiplied : FnScope ["one", "other", "k"] ["one", "other"] (defScope (top 29)) := ⟨rfl, rfl, rfl, by decide +kernel, rfl, by decide +kernel, by decide +kernel⟩
theorem hb_conv {n m : Nat} {a b : List Rat} (ha : CD n a) (hb : CD m b) (j : Nat) (hj : j ≤ 1000) : Hb (n + m + 10) (convL a b j) := by
  have h := conv_part ha hb j 0 (j + 1) (by omega)
  unfold convL
  rw [sumR_congr (g := fun i => cf a (0 + i) * cf b (j - (0 + i))) fun i _ => by rw [Nat.zero_add]]
  exact h
theorem fn_multiplied (g : Gs K mg C) (hM : MkS P w K mg base k C) (hP : FnS P w K mg base k C "power_number" RpowerNumber) (F : FnP K "multiplied" "multiplied" (top 29) f fd) (hm : mg "multiplied" = some (.ref f)) : FnS P w K mg base (k + 2) C "multiplied" Rmultiplied := by
  refine fn_pure F hm sc_multiplied (F.bindsN fun _ _ _ _ _ _ us hl => match us, hl with | [_, _], _ => rfl) (fun ds r h => by obtain ⟨a, b, n, m, rfl, _⟩ := h; rfl) ?_
  rintro cdv A outer s0 H E ds r hr ⟨a, b, n, m, rfl, la, lb, ca, cb, hnm, rfl⟩
  intro O H0 vs De hw hn hrt hnx
  have S : Stt C O H0 H0 (start ["one", "other", "k"] vs) [some (.poly a), some (.poly b), none] (ownA O H0) := Stt.start hw hn ownA_refl
  have hr1 : Room k (A.deeper (envOfC "multiplied" (defScope (top 29)) s0.heap.objs.size f cdv)) := hr.mono (by omega)
  have wa : ((prs a).length : Int) = a.length := by rw [prs_len]
  have wb : ((prs b).length : Int) = b.length := by rw [prs_len]
  have et : ((a.length : Int) + (b.length : Int)).toNat = a.length + b.length := by omega
  refine gq_retP S hrt (ge_make hM (hr.mono (by omega)) (d := .lst (prs ((List.range (a.length + b.length)).map (convL a b)))) ((ge_lc (g := fun i => pair (convL a b i)) rfl sc_multiplied.nd (gi_range1 (n := (a.length : Int) + (b.length : Int)) (g.f "range") ((ge_add (ge_len (g.f "len") (ge_num g.pc.cl g.pc.nn (ge_var 0)) rfl) (ge_len (g.f "len") (ge_num g.pc.cl g.pc.nn (ge_var 1)) rfl)).is (by rw [wa, wb])) (by omega) (by omega)) (own := [("k", 2)]) (blkOk_by (by rfl)) (fun b O' => tg_name (i := 2) (vs := [2]) sc_multiplied.nd rfl (.inl rfl) (by simp)) (fun i hi => trivial) (by omega) (fun b0 O' I' _ i hi => ?_)).is ?_) ⟨_, _, rfl, wqs_prs (n := 4410) (by omega) ?_, ?_, rfl⟩)
  · rw [et] at hi
    exact ge_call hP hr1 (ga_cons (ge_var 0) (ga_two (ge_var 1) (ge_var 2))) ⟨_, _, _, n, m, rfl, la, lb, by omega, ca, cb, hnm, rfl⟩
  · rw [et]
    unfold prs
    rw [List.map_map]
    rfl
  · intro q hq
    obtain ⟨i, hi, rfl⟩ := List.mem_map.mp hq
    have := List.mem_range.mp hi
    exact (hb_conv ca cb i (by omega)).mono (by omega)
  · rw [prs_len]
    simp
    omega
/-! ### the operators -/
def Radd (s : Rat) : List D → D → Prop := fun ds r => ∃ (a b : List Rat) (d : D), ds = [.poly a, d] ∧ polyD d b ∧ a.length ≤ 100 ∧ b.length ≤ 100 ∧ CD 2200 a ∧ CD 2200 b ∧ r = .poly (addL s a b)
def RaddR (s : Rat) : List D → D → Prop := fun ds r => ∃ (a b : List Rat) (d : D), ds = [.poly a, d] ∧ polyD d b ∧ a.length ≤ 100 ∧ b.length ≤ 100 ∧ CD 2200 a ∧ CD 2200 b ∧ r = .poly (addL s b a)
def Rmul : List D → D → Prop := fun ds r => ∃ (a b : List Rat) (n m : Nat) (d : D), ds = [.poly a, d] ∧ polyD d b ∧ a.length ≤ 400 ∧ b.length ≤ 400 ∧ CD n a ∧ CD m b ∧ n + m ≤ 4400 ∧ r = .poly (mulL a b)
def RmulR : List D → D → Prop := fun ds r => ∃ (a b : List Rat) (n m : Nat) (d : D), ds = [.poly a, d] ∧ polyD d b ∧ a.length ≤ 400 ∧ b.length ≤ 400 ∧ CD n a ∧ CD m b ∧ n + m ≤ 4400 ∧ r = .poly (mulL b a)
theorem sc_add : FnScope ["self", "other"] ["self", "other"] (defScope (pol 2)) := ⟨rfl, rfl, rfl, by decide +kernel, rfl, by decide +kernel, by decide +kernel⟩
theorem mf_add (hS : FnS P w K mg base k C "summed" Rsummed) (hT : FnS P w K mg base k C "poly_told" RpolyTold) (F : FnP K "__add__" "Poly.__add__" (pol 2) f fd) (hm : Meth K C "__add__" f) : MS P w K mg base (k + 1) C "__add__" (Radd 1) := by
  refine mf_pure F hm sc_add (F.bindsN fun _ _ _ _ _ _ us hl => match us, hl with | [_, _], _ => rfl) (fun ds r h => by obtain ⟨a, b, d, rfl, _⟩ := h; rfl) ?_
  rintro cdv A outer s0 H E ds r hr ⟨a, b, d, rfl, hd, la, lb, ca, cb, rfl⟩
  intro O H0 vs De hw hn hrt hnx
  have S : Stt C O H0 H0 (start ["self", "other"] vs) [some (.poly a), some d] (ownA O H0) := Stt.start hw hn ownA_refl
  exact gq_retP S hrt (ge_call hS hr (ga_cons (ge_var 0) (ga_two (ge_call hT hr (ga_one (ge_var 1)) ⟨d, b, rfl, hd, rfl⟩) ge_int)) ⟨a, b, 1, rfl, .inl rfl, la, lb, ca, cb, rfl⟩)
theorem sc_radd : FnScope ["self", "other"] ["self", "other"] (defScope (pol 3)) := ⟨rfl, rfl, rfl, by decide +kernel, rfl, by decide +kernel, by decide +kernel⟩
theorem mf_radd (hS : FnS P w K mg base k C "summed" Rsummed) (hT : FnS P w K mg base k C "poly_told" RpolyTold) (F : FnP K "__radd__" "Poly.__radd__" (pol 3) f fd) (hm : Meth K C "__radd__" f) : MS P w K mg base (k + 1) C "__radd__" (RaddR 1) := by
  refine mf_pure F hm sc_radd (F.bindsN fun _ _ _ _ _ _ us hl => match us, hl with | [_, _], _ => rfl) (fun ds r h => by obtain ⟨a, b, d, rfl, _⟩ := h; rfl) ?_
  rintro cdv A outer s0 H E ds r hr ⟨a, b, d, rfl, hd, la, lb, ca, cb, rfl⟩
  intro O H0 vs De hw hn hrt hnx
  have S : Stt C O H0 H0 (start ["self", "other"] vs) [some (.poly a), some d] (ownA O H0) := Stt.start hw hn ownA_refl
  exact gq_retP S hrt (ge_call hS hr (ga_cons (ge_call hT hr (ga_one (ge_var 1)) ⟨d, b, rfl, hd, rfl⟩) (ga_two (ge_var 0) ge_int)) ⟨b, a, 1, rfl, .inl rfl, lb, la, cb, ca, rfl⟩)
theorem sc_sub : FnScope ["self", "other"] ["self", "other"] (defScope (pol 4)) := ⟨rfl, rfl, rfl, by decide +kernel, rfl, by decide +kernel, by decide +kernel⟩
theorem mf_sub (hS : FnS P w K mg base k C "summed" Rsummed) (hT : FnS P w K mg base k C "poly_told" RpolyTold) (F : FnP K "__sub__" "Poly.__sub__" (pol 4) f fd) (hm : Meth K C "__sub__" f) : MS P w K mg base (k + 1) C "__sub__" (Radd (-1)) := by
  refine mf_pure F hm sc_sub (F.bindsN fun _ _ _ _ _ _ us hl => match us, hl with | [_, _], _ => rfl) (fun ds r h => by obtain ⟨a, b, d, rfl, _⟩ := h; rfl) ?_
  rintro cdv A outer s0 H E ds r hr ⟨a, b, d, rfl, hd, la, lb, ca, cb, rfl⟩
  intro O H0 vs De hw hn hrt hnx
  have S : Stt C O H0 H0 (start ["self", "other"] vs) [some (.poly a), some d] (ownA O H0) := Stt.start hw hn ownA_refl
  exact gq_retP S hrt (ge_call hS hr (ga_cons (ge_var 0) (ga_two (ge_call hT hr (ga_one (ge_var 1)) ⟨d, b, rfl, hd, rfl⟩) (ge_neg ge_int))) ⟨a, b, -1, rfl, .inr rfl, la, lb, ca, cb, rfl⟩)
theorem sc_rsub : FnScope ["self", "other"] ["self", "other"] (defScope (pol 5)) := ⟨rfl, rfl, rfl, by decide +kernel, rfl, by decide +kernel, by decide +kernel⟩
theorem mf_rsub (hS : FnS P w K mg base k C "summed" Rsummed) (hT : FnS P w K mg base k C "poly_told" RpolyTold) (F : FnP K "__rsub__" "Poly.__rsub__" (pol 5) f fd) (hm : Meth K C "__rsub__" f) : MS P w K mg base (k + 1) C "__rsub__" (RaddR (-1)) := by
  refine mf_pure F hm sc_rsub (F.bindsN fun _ _ _ _ _ _ us hl => match us, hl with | [_, _], _ => rfl) (fun ds r h => by obtain ⟨a, b, d, rfl, _⟩ := h; rfl) ?_
  rintro cdv A outer s0 H E ds r hr ⟨a, b, d, rfl, hd, la, lb, ca, cb, rfl⟩
  intro O H0 vs De hw hn hrt hnx
  have S : Stt C O H0 H0 (start ["self", "other"] vs) [some (.poly a), some d] (ownA O H0) := Stt.start hw hn ownA_refl
  exact gq_retP S hrt (ge_call hS hr (ga_cons (ge_call hT hr (ga_one (ge_var 1)) ⟨d, b, rfl, hd, rfl⟩) (ga_two (ge_var 0) (ge_neg ge_int))) ⟨b, a, -1, rfl, .inr rfl, lb, la, cb, ca, rfl⟩)
theorem sc_mul : FnScope ["self", "other"] ["self", "other"] (defScope (pol 6)) := ⟨rfl, rfl, rfl, by decide +kernel, rfl, by decide +kernel, by decide +kernel⟩
theorem mf_mul (hS : FnS P w K mg base k C "multiplied" Rmultiplied) (hT : FnS P w K mg base k C "poly_told" RpolyTold) (F : FnP K "__mul__" "Poly.__mul__" (pol 6) f fd) (hm : Meth K C "__mul__" f) : MS P w K mg base (k + 1) C "__mul__" Rmul := by
  refine mf_pure F hm sc_mul (F.bindsN fun _ _ _ _ _ _ us hl => match us, hl with | [_, _], _ => rfl) (fun ds r h => by obtain ⟨a, b, n, m, d, rfl, _⟩ := h; rfl) ?_
  rintro cdv A outer s0 H E ds r hr ⟨a, b, n, m, d, rfl, hd, la, lb, ca, cb, hnm, rfl⟩
  intro O H0 vs De hw hn hrt hnx
  have S : Stt C O H0 H0 (start ["self", "other"] vs) [some (.poly a), some d] (ownA O H0) := Stt.start hw hn ownA_refl
  exact gq_retP S hrt (ge_call hS hr (ga_two (ge_var 0) (ge_call hT hr (ga_one (ge_var 1)) ⟨d, b, rfl, hd, rfl⟩)) ⟨a, b, n, m, rfl, la, lb, ca, cb, hnm, rfl⟩)
theorem sc_rmul : FnScope ["self", "other"] ["self", "other"] (defScope (pol 7)) := ⟨rfl, rfl, rfl, by decide +kernel, rfl, by decide +kernel, by decide +kernel⟩
theorem mf_rmul (hS : FnS P w K mg base k C "multiplied" Rmultiplied) (hT : FnS P w K mg base k C "poly_told" RpolyTold) (F : FnP K "__rmul__" "Poly.__rmul__" (pol 7) f fd) (hm : Meth K C "__rmul__" f) : MS P w K mg base (k + 1) C "__rmul__" RmulR := by
  refine mf_pure F hm sc_rmul (F.bindsN fun _ _ _ _ _ _ us hl => match us, hl with | [_, _], _ => rfl) (fun ds r h => by obtain ⟨a, b, n, m, d, rfl, _⟩ := h; rfl) ?_
  rintro cdv A outer s0 H E ds r hr ⟨a, b, n, m, d, rfl, hd, la, lb, ca, cb, hnm, rfl⟩
  intro O H0 vs De hw hn hrt hnx
  have S : Stt C O H0 H0 (start ["self", "other"] vs) [some (.poly a), some d] (ownA O H0) := Stt.start hw hn ownA_refl
  exact gq_retP S hrt (ge_call hS hr (ga_two (ge_call hT hr (ga_one (ge_var 1)) ⟨d, b, rfl, hd, rfl⟩) (ge_var 0)) ⟨b, a, m, n, rfl, lb, la, cb, ca, by omega, rfl⟩)
end
end TM
/-! ## PgPoly5 -/
set_option Elab.async false
set_option linter.all false
set_option maxRecDepth 100000
set_option maxHeartbeats 4000000
set_option exponentiation.threshold 100000
/-! PgPoly5: -poly, slope, area, at. -/
namespace TM
open PySem L2 PySem.Spec PyProof.Rows
section
variable {C : Addr} {X : Cx} {O : Addr → Prop} {ρ : Env} {I J K L : Asr} {H0 H : Hp} {σ : L2.St} {De : Ends} {rest : List Stmt} {a b c e : Expr} {pos p : Pos} {d1 d2 d3 : D}
theorem gq_par3 {p1 p2 p3 pt : Pos} {kt k2 : Nat} {pt2 : Pos} {x y z : Str} (i j l : Nat) (S : Stt C O H0 H σ ρ I) (hc : X.calm = true) (hN : X.N.Nodup) (h : GA C X O ρ I [a, b, c] J (· = [d1, d2, d3])) (k : ∀ σ' H', Stt C O H0 H' σ' (((ρ.set i (some d1)).set j (some d2)).set l (some d3)) J → ssw X rest De σ' H')
    (hi : X.N[i]? = some x := by rfl) (hj : X.N[j]? = some y := by rfl) (hl : X.N[l]? = some z := by rfl) (hij : i ≠ j := by decide) (hil : i ≠ l := by decide) (hjl : j ≠ l := by decide) (hx : X.env.scope.names.lookup x = some .local := by rfl) (hy : X.env.scope.names.lookup y = some .local := by rfl) (hz : X.env.scope.names.lookup z = some .local := by rfl)
    (hw : swappedStores [.Tuple [.Name x p1, .Name y p2, .Name z p3] kt pt] (.Tuple [a, b, c] k2 pt2) X.env = pure (some [x, y, z]) := by rfl) (hs : swapsWithSole [.Tuple [.Name x p1, .Name y p2, .Name z p3] kt pt] (.Tuple [a, b, c] k2 pt2) pos.line X.env = pure false := by rfl) :
    ssw X (.Assign [.Tuple [.Name x p1, .Name y p2, .Name z p3] kt pt] (.Tuple [a, b, c] k2 pt2) pos :: rest) De σ H := gq_of (ps_par3 (i := i) (j := j) (l := l) hc hN hi hj hl hij hil hjl hx hy hz pa_tw hw hs) (h σ H _ S.wf S.den S.asr fun vs H' zs e w jj p n => by
      cases p
      cases n with
      | cons n1 t =>
        obtain ⟨v2, v3, rfl, n2, n3⟩ := two_dn t
        exact ⟨_, v2, v3, rfl, k _ _ ⟨w, (((S.den.ext e).set i n1).set j n2).set l n3, jj, S.ext.trans e⟩⟩)
end
theorem pair_neg (q : Rat) : D.tup [.int (-q.num), .int (q.den : Int)] = pair (-q) := rfl
theorem rt_nat (j : Nat) : rt (j : Int) 1 = (j : Rat) := by
  rw [rt, Rat.divInt_eq_div]
  rw [Rat.intCast_natCast]
  grind
theorem small_log {j n : Nat} (h : j ≤ 10000) (hn : 20 ≤ n) : (j : Int).natAbs.log2 < n := by
  rw [Int.natAbs_natCast]
  have : j < 2 ^ 14 := by omega
  have := log_lt this (by omega)
  omega
theorem hb_nat {j n : Nat} (h : j ≤ 10000) : Hb 14 (j : Rat) := ⟨by rw [Rat.num_natCast]; simp; omega, by rw [Rat.den_natCast]; omega⟩
section
variable {P : Program} {w : World} {K : PySem.W.Frag} {mg : Str → Option Value} {base : Heap} {f : Addr} {fd : FuncData} {C : Addr} {k : Nat}
def Rneg : List D → D → Prop := fun ds r => ∃ a : List Rat, ds = [.poly a] ∧ a.length ≤ 1000 ∧ CD 4400 a ∧ r = .poly (negL a)
theorem sc_neg : FnScope ["self", "top", "bottom"] ["self"] (defScope (pol 8)) := ⟨rfl, rfl, rfl, by decide +kernel, rfl, by decide +kernel, by decide +kernel⟩
theorem mf_neg (g : Gs K mg C) (hM : MkS P w K mg base k C) (F : FnP K "__neg__" "Poly.__neg__" (pol 8) f fd) (hm : Meth K C "__neg__" f) : MS P w K mg base (k + 2) C "__neg__" Rneg := by
  refine mf_pure F hm sc_neg (F.bindsN fun _ _ _ _ _ _ us hl => match us, hl with | [_], _ => rfl) (fun ds r h => by obtain ⟨a, rfl, _⟩ := h; rfl) ?_
  rintro cdv A outer s0 H E ds r hr ⟨a, rfl, la, ca, rfl⟩
  intro O H0 vs De hw hn hrt hnx
  have S : Stt C O H0 H0 (start ["self", "top", "bottom"] vs) [some (.poly a), none, none] (ownA O H0) := Stt.start hw hn ownA_refl
  refine gq_retP S hrt (ge_make hM hr (d := .lst (prs (a.map fun q => -q))) ((ge_lc (g := fun i => pair (-(cf a i))) rfl sc_neg.nd (gi_tup (ge_num g.pc.cl g.pc.nn (ge_var 0))) (own := [("top", 1), ("bottom", 2)]) (blkOk_by (by rfl)) (fun b O' => tg_two (i := 1) (j := 2) (vs := [1, 2]) rfl sc_neg.nd rfl (.inl rfl) rfl (.inl rfl) (by simp) (by simp)) (fun i hi => ?_) (by rw [prs_len]; omega) (fun b0 O' I' _ i hi => ?_)).is ?_) ⟨_, _, rfl, wqs_prs (n := 4400) (by omega) ?_, by rw [prs_len]; simpa using la, rfl⟩)
  · rw [prs_len] at hi
    rw [prs_get hi]
    exact ⟨_, _, rfl⟩
  · rw [prs_len] at hi
    rw [prs_get hi, ← cf_in hi]
    exact (ge_tup (ga_two (ge_neg (ge_var 1)) (ge_var 2))).is (pair_neg _)
  · rw [prs_len, ← range_getD (fun q => -q) 0 a]
    unfold prs
    rw [List.map_map]
    rfl
  · intro q hq
    obtain ⟨c, hc, rfl⟩ := List.mem_map.mp hq
    have h := cd_mem ca c hc
    exact ⟨by show (-c.num).natAbs < _; rw [Int.natAbs_neg]; exact h.1, h.2⟩
def Rslope : List D → D → Prop := fun ds r => ∃ a : List Rat, ds = [.poly a] ∧ a.length ≤ 1000 ∧ CD 4000 a ∧ r = .poly (slopeL a)
theorem sc_slope : FnScope ["self", "k", "ratio"] ["self"] (defScope (pol 11)) := ⟨rfl, rfl, rfl, by decide +kernel, rfl, by decide +kernel, by decide +kernel⟩
theorem cut_drop1 (ds : List D) : cutD ds (some 1) none = ds.drop 1 := by
  unfold cutD
  have e : HT.sIx ds.length 0 (some 1) = min 1 ds.length := HT.sIx_nat _ _ 1
  rw [e, HT.sIx_none]
  cases ds with
  | nil => rfl
  | cons a ds =>
    have : min 1 (a :: ds).length = 1 := by simp only [List.length_cons]; omega
    rw [this]
    simp
theorem mf_slope (g : Gs K mg C) (hM : MkS P w K mg base k C) (hT : FnS P w K mg base k C "times" (Rbin (· * ·))) (F : FnP K "slope" "Poly.slope" (pol 11) f fd) (hm : Meth K C "slope" f) : MS P w K mg base (k + 2) C "slope" Rslope := by
  refine mf_pure F hm sc_slope (F.bindsN fun _ _ _ _ _ _ us hl => match us, hl with | [_], _ => rfl) (fun ds r h => by obtain ⟨a, rfl, _⟩ := h; rfl) ?_
  rintro cdv A outer s0 H E ds r hr ⟨a, rfl, la, ca, rfl⟩
  intro O H0 vs De hw hn hrt hnx
  have S : Stt C O H0 H0 (start ["self", "k", "ratio"] vs) [some (.poly a), none, none] (ownA O H0) := Stt.start hw hn ownA_refl
  have hr1 : Room k (A.deeper (envOfC "Poly.slope" (defScope (pol 11)) s0.heap.objs.size f cdv)) := hr.mono (by omega)
  refine gq_retP S hrt (ge_make hM hr (d := .lst (prs (((List.range a.length).map fun (k : Nat) => (k : Rat) * cf a k).drop 1))) ((ge_sliceL (ge_lc (g := fun i => pair ((i : Rat) * cf a i)) rfl sc_slope.nd (gi_enumT (g.f "enumerate") (ge_num g.pc.cl g.pc.nn (ge_var 0))) (own := [("k", 1), ("ratio", 2)]) (blkOk_by (by rfl)) (fun b O' => tg_two (i := 1) (j := 2) (vs := [1, 2]) rfl sc_slope.nd rfl (.inl rfl) rfl (.inl rfl) (by simp) (by simp)) (fun i hi => ⟨_, _, rfl⟩) (by rw [prs_len]; omega) (fun b0 O' I' _ i hi => ?_)) (po_some pe_tw) po_none (evo_some ge_int) evo_none).is ?_) ⟨_, _, rfl, wqs_prs (n := 4014) (by omega) ?_, ?_, rfl⟩)
  · rw [prs_len] at hi
    rw [prs_get hi, ← cf_in hi]
    refine (ge_call hT hr1 (ga_two (ge_var 1) (ge_var 2)) ⟨_, _, _, _, _, _, rfl, wr_int _, wr_pair _, ⟨small_log (by omega) (by omega), by decide⟩, (ca.hb i).b4' (by omega), rfl⟩).is ?_
    rw [rt_self, rt_nat]
  · rw [cut_drop1, prs_len]
    unfold prs
    rw [← List.map_drop, ← List.map_drop, List.map_map]
    rfl
  · intro q hq
    obtain ⟨i, hi, rfl⟩ := List.mem_map.mp (List.mem_of_mem_drop hq)
    have := List.mem_range.mp hi
    exact (hb_mul (hb_nat (n := 14) (by omega)) (ca.hb i)).mono (by omega)
  · rw [prs_len, List.length_drop]
    simp
    omega
def Rarea : List D → D → Prop := fun ds r => ∃ a : List Rat, ds = [.poly a] ∧ a.length ≤ 900 ∧ CD 4000 a ∧ r = .poly (areaL a)
theorem sc_area : FnScope ["self", "k", "ratio"] ["self"] (defScope (pol 12)) := ⟨rfl, rfl, rfl, by decide +kernel, rfl, by decide +kernel, by decide +kernel⟩
theorem hb_inv {n : Nat} {x : Rat} (h : Hb n x) (h0 : x ≠ 0) : Hb n x⁻¹ := by
  have e : x⁻¹ = Rat.divInt x.den x.num := by
    conv => lhs; rw [← Rat.num_divInt_den x]
    rw [Rat.inv_divInt]
  have hn : x.num ≠ 0 := fun z => h0 (Rat.num_eq_zero.mp z)
  rw [e]
  refine ⟨?_, ?_⟩
  · rw [Rat.num_divInt]
    have hd : ((x.num).gcd (x.den : Int) : Int) ∣ (x.num).sign * (x.den : Int) := Int.dvd_trans (Int.gcd_dvd_right ..) (Int.dvd_mul_left ..)
    rw [Int.natAbs_ediv_of_dvd hd, Int.natAbs_mul]
    refine Nat.lt_of_le_of_lt (Nat.div_le_self _ _) (Nat.lt_of_le_of_lt ?_ h.2)
    rw [Int.natAbs_sign_of_ne_zero hn, Nat.one_mul]
    simp
  · rw [Rat.den_divInt, if_neg hn]
    exact Nat.lt_of_le_of_lt (Nat.div_le_self _ _) h.1
theorem hb_divq {n m : Nat} {x y : Rat} (hx : Hb n x) (hy : Hb m y) (h0 : y ≠ 0) : Hb (n + m) (x / y) := by
  rw [Rat.div_def]
  exact hb_mul hx (hb_inv hy h0)
theorem nat_succ_ne (i : Nat) : (i : Rat) + 1 ≠ 0 := by
  have h := dn_ne (D := i + 1) (by omega)
  intro e
  apply h
  rw [Rat.natCast_add]
  exact e
theorem mf_area (g : Gs K mg C) (hM : MkS P w K mg base k C) (hT : FnS P w K mg base k C "share" Rshare) (F : FnP K "area" "Poly.area" (pol 12) f fd) (hm : Meth K C "area" f) : MS P w K mg base (k + 2) C "area" Rarea := by
  refine mf_pure F hm sc_area (F.bindsN fun _ _ _ _ _ _ us hl => match us, hl with | [_], _ => rfl) (fun ds r h => by obtain ⟨a, rfl, _⟩ := h; rfl) ?_
  rintro cdv A outer s0 H E ds r hr ⟨a, rfl, la, ca, rfl⟩
  intro O H0 vs De hw hn hrt hnx
  have S : Stt C O H0 H0 (start ["self", "k", "ratio"] vs) [some (.poly a), none, none] (ownA O H0) := Stt.start hw hn ownA_refl
  have hr1 : Room k (A.deeper (envOfC "Poly.area" (defScope (pol 12)) s0.heap.objs.size f cdv)) := hr.mono (by omega)
  refine gq_retP S hrt (ge_make hM hr (d := .lst (prs (0 :: (List.range a.length).map fun (k : Nat) => cf a k / ((k : Rat) + 1)))) ((ge_cat (ge_lst (ga_one (ge_tup (ga_two ge_int ge_int)))) (ge_lc (g := fun i => pair (cf a i / ((i : Rat) + 1))) rfl sc_area.nd (gi_enumT (g.f "enumerate") (ge_num g.pc.cl g.pc.nn (ge_var 0))) (own := [("k", 1), ("ratio", 2)]) (blkOk_by (by rfl)) (fun b O' => tg_two (i := 1) (j := 2) (vs := [1, 2]) rfl sc_area.nd rfl (.inl rfl) rfl (.inl rfl) (by simp) (by simp)) (fun i hi => ⟨_, _, rfl⟩) (by rw [prs_len]; omega) (fun b0 O' I' _ i hi => ?_)) ?_).is ?_) ⟨_, _, rfl, wqs_prs (n := 4014) (by omega) ?_, ?_, rfl⟩)
  · rw [prs_len] at hi
    rw [prs_get hi, ← cf_in hi]
    refine (ge_call hT hr1 (ga_two (ge_var 2) (ge_add (ge_var 1) ge_int)) ⟨_, _, _, _, _, _, rfl, wr_pair _, wr_int _, (ca.hb i).b4' (by omega), ⟨?_, by decide⟩, by omega, rfl⟩).is ?_
    · rw [rt_self, show ((i : Int) + 1) = ((i + 1 : Nat) : Int) from by omega, rt_nat, Rat.natCast_add]
      rfl
    · rw [show ((i : Int) + 1) = ((i + 1 : Nat) : Int) from by omega]
      exact small_log (by omega) (by omega)
  · rw [List.length_map, List.length_range, prs_len]
    simp
    omega
  · rw [prs_len, prs_cons]
    unfold prs
    rw [List.map_map]
    rfl
  · intro q hq
    rcases List.mem_cons.mp hq with rfl | hq
    · exact hb_zero (by omega)
    · obtain ⟨i, hi, rfl⟩ := List.mem_map.mp hq
      have := List.mem_range.mp hi
      refine (hb_divq (ca.hb i) ?_ (nat_succ_ne i)).mono (by omega : 4000 + 14 ≤ 4014)
      have h := hb_nat (n := 14) (j := i + 1) (by omega)
      rw [Rat.natCast_add] at h
      exact h
  · rw [prs_len]
    simp
    omega
/-! ### at -/
def Rat_at : List D → D → Prop := fun ds r => ∃ (a : List Rat) (d : D) (x : Rat), ds = [.poly a, d] ∧ Wq d x ∧ Hb 100 x ∧ a.length ≤ 8 ∧ (∀ q ∈ a, Hb 100 q) ∧ r = pair (evalL a x)
theorem sc_at : FnScope ["self", "place", "top", "bottom", "under", "found", "power", "number"] ["self", "place"] (defScope (pol 10)) := ⟨rfl, rfl, rfl, by decide +kernel, rfl, by decide +kernel, by decide +kernel⟩
/-- Horner, from the last number on -/
def hor (a : List Rat) (x : Rat) (i : Nat) : Rat := (a.reverse.take i).foldl (fun r c => r * x + c) 0
theorem hor_all (a : List Rat) (x : Rat) : hor a x a.length = evalL a x := by
  unfold hor evalL
  rw [List.take_of_length_le (by simp), List.foldl_reverse]
theorem hor_succ (a : List Rat) (x : Rat) (i : Nat) (hi : i < a.reverse.length) : hor a x (i + 1) = hor a x i * x + a.reverse[i] := by
  unfold hor
  have e : a.reverse.take (i + 1) = a.reverse.take i ++ [a.reverse[i]] := by rw [List.take_add_one, List.getElem?_eq_getElem hi]; rfl
  rw [e, List.foldl_append]
  rfl
theorem lcm_dvd_mem : ∀ (ns : List Rat) (q : Rat), q ∈ ns → q.den ∣ lcmF ns := fun ns q hq => by
  unfold lcmF
  have key : ∀ (l : List Rat) (n : Nat), n ∣ l.foldl (fun n q => Nat.lcm n q.den) n ∧ ∀ q ∈ l, q.den ∣ l.foldl (fun n q => Nat.lcm n q.den) n := by
    intro l
    induction l with
    | nil => intro n; exact ⟨Nat.dvd_refl _, fun q h => by cases h⟩
    | cons r l ih =>
      intro n
      obtain ⟨h1, h2⟩ := ih (Nat.lcm n r.den)
      refine ⟨Nat.dvd_trans (Nat.dvd_lcm_left ..) h1, fun q hq => ?_⟩
      rcases List.mem_cons.mp hq with rfl | hq
      · exact Nat.dvd_trans (Nat.dvd_lcm_right ..) h1
      · exact h2 q hq
  exact (key ns 1).2 q hq
theorem pow_le2 {b i n : Nat} (hb : b < 2 ^ 100) (hi : i ≤ n) (h0 : 0 < b) : b ^ i ≤ 2 ^ (100 * n) := by
  refine Nat.le_trans (Nat.pow_le_pow_left (Nat.le_of_lt hb) i) ?_
  rw [← Nat.pow_mul]
  exact Nat.pow_le_pow_right (by omega) (Nat.mul_le_mul_left _ hi)
theorem log_le2 {a n : Nat} (h : a ≤ 2 ^ n) : a.log2 ≤ n := log2_of_le h
theorem lcm_small {a : List Rat} (la : a.length ≤ 8) (ha : ∀ q ∈ a, Hb 100 q) : lcmF a ≤ 2 ^ 800 := by
  have h := lcmF_le (2 ^ 100) a fun q hq => (ha q hq).2
  rw [← Nat.pow_mul] at h
  exact Nat.le_trans h (Nat.pow_le_pow_right (by omega) (by omega))
theorem prs_reverse (a : List Rat) : (prs a).reverse = prs a.reverse := by unfold prs; rw [List.map_reverse]
theorem mf_at (g : Gs K mg C) (hT : FnS P w K mg base k C "told" Rtold) (hB : FnS P w K mg base k C "bottom_of" Rbottom) (hL : FnS P w K mg base k C "lowest" Rlowest) (F : FnP K "at" "Poly.at" (pol 10) f fd) (hm : Meth K C "at" f) : MS P w K mg base (k + 1) C "at" Rat_at := by
  refine mf_pure F hm sc_at (F.bindsN fun _ _ _ _ _ _ us hl => match us, hl with | [_, _], _ => rfl) (fun ds r h => by obtain ⟨a, d, x, rfl, _⟩ := h; rfl) ?_
  rintro cdv A outer s0 H E ds r hr ⟨a, d, x, rfl, wx, hx, la, ha, rfl⟩
  intro O H0 vs De hw hn hrt hnx
  have S : Stt C O H0 H0 (start ["self", "place", "top", "bottom", "under", "found", "power", "number"] vs) [some (.poly a), some d, none, none, none, none, none, none] (ownA O H0) := Stt.start hw hn ownA_refl
  obtain ⟨p0, q0, w1, w2, w3⟩ := wx
  refine gq_two (Φ := Is (pair x)) S (tg_two (i := 2) (j := 3) (vs := [2, 3]) rfl sc_at.nd rfl (.inl rfl) rfl (.inl rfl) (by simp) (by simp)) ((ge_call hT hr (ga_two (ge_var 1) ge_str) ⟨d, _, p0, q0, rfl, w1, w2, rfl⟩).is (by rw [w3])) (fun d e => by cases e; exact ⟨_, _, rfl⟩) (fun σ1 H1 d1 e1 S1 => ?_)
  cases e1
  have S1' : Stt C O H0 H1 σ1 [some (.poly a), some d, some (.int x.num), some (.int x.den), none, none, none, none] (ownA O H0) := S1
  refine gq_par3 4 5 6 S1' rfl sc_at.nd (ga_cons (ge_call hB hr (ga_one (ge_num g.pc.cl g.pc.nn (ge_var 0))) ⟨a, rfl, by omega, fun q hq => Nat.lt_of_lt_of_le (ha q hq).2 (Nat.pow_le_pow_right (by omega) (by omega)), rfl⟩) (ga_two ge_int ge_int)) (fun σ2 H2 S2 => ?_)
  have up := lcmF_pos a
  have ul := lcm_small la ha
  have xd := x.den_pos
  refine gq_for S2 PassesOwn.never rfl (gi_tup (ge_revT (ge_num g.pc.cl g.pc.nn (ge_var 0)))) (tg_name (i := 7) (vs := [7]) sc_at.nd rfl (.inl rfl) (by simp)) (fun i hi => trivial)
    (fun i ρ I => I = ownA O H0 ∧ ∃ (F : Int) (y : Option D), ρ = [some (.poly a), some d, some (.int x.num), some (.int x.den), some (.int (lcmF a : Nat)), some (.int F), some (.int ((x.den ^ i : Nat) : Int)), y] ∧ (F : Rat) * (x.den : Rat) = (lcmF a : Rat) * ((x.den ^ i : Nat) : Rat) * hor a x i ∧ F.natAbs ≤ 2 ^ (2000 * i)) ⟨rfl, 0, none, rfl, ?_, by simp⟩ ?_ ?_
  · rw [show hor a x 0 = 0 from rfl]
    simp
  · rintro H3 e3 i ρ' I' σ' H' hi ⟨rfl, F, y, rfl, inv, fl⟩ S3
    rw [prs_reverse, prs_len] at hi
    have hi' : i < a.length := by rw [List.length_reverse] at hi; exact hi
    rw [prs_reverse, prs_get hi] at S3
    have hc := ha (a.reverse[i]) (List.mem_reverse.mp (List.getElem_mem hi))
    have dv := lcm_dvd_mem a _ (List.mem_reverse.mp (List.getElem_mem hi))
    have hs := hor_succ a x i hi
    generalize a.reverse[i] = c at hc dv hs S3
    have cd := c.den_pos
    have pl := pow_le2 (b := x.den) (i := i) (n := 8) hx.2 (by omega) xd
    have q1 : (lcmF a / c.den) ≤ 2 ^ 800 := Nat.le_trans (Nat.div_le_self _ _) ul
    have l1 := log_le2 q1
    have l2 := log_lt hc.1 (by omega)
    have l3 := log_lt hx.1 (by omega)
    have l4 := log_le2 pl
    have l5 := log_lt hc.2 (by omega)
    have l6 := log_lt hx.2 (by omega)
    have l7 := log_le2 fl
    have m1 : (c.num * ((lcmF a / c.den : Nat) : Int)).natAbs ≤ 2 ^ 900 := by
      rw [Int.natAbs_mul, Int.natAbs_natCast]
      refine Nat.le_trans (Nat.mul_le_mul (Nat.le_of_lt hc.1) q1) ?_
      rw [← Nat.pow_add]
      exact Nat.pow_le_pow_right (by omega) (by omega)
    have m2 : (c.num * ((lcmF a / c.den : Nat) : Int) * ((x.den ^ i : Nat) : Int)).natAbs ≤ 2 ^ 1700 := by
      rw [Int.natAbs_mul, Int.natAbs_natCast]
      refine Nat.le_trans (Nat.mul_le_mul m1 pl) ?_
      rw [← Nat.pow_add]
      exact Nat.pow_le_pow_right (by omega) (by omega)
    have m3 : (F * x.num).natAbs ≤ 2 ^ (2000 * i + 100) := by
      rw [Int.natAbs_mul, Nat.pow_add]
      exact Nat.mul_le_mul fl (Nat.le_of_lt hx.1)
    refine gq_setP (d := .int (F * x.num + c.num * ((lcmF a / c.den : Nat) : Int) * ((x.den ^ i : Nat) : Int))) 5 S3 sc_at.nd ((ge_add (ge_mul (ge_var 5) (ge_var 2) ?_) (ge_mul (ge_mul (ge_ix (ge_var 7) ge_int rfl rfl) (ge_fdiv (ge_var 4) (ge_ix (ge_var 7) ge_int rfl rfl) ⟨by omega, ?_⟩) ?_) (ge_var 6) ?_)).is (by rw [Int.natCast_ediv])) (fun σ4 H4 S4 => ?_)
    · unfold CMulW
      omega
    · simp only [Int.natAbs_natCast]
      omega
    · unfold CMulW
      rw [← Int.natCast_ediv, Int.natAbs_natCast]
      omega
    · unfold CMulW
      have := log_le2 m1
      rw [← Int.natCast_ediv, Int.natAbs_natCast]
      omega
    · refine gq_setP (d := .int ((x.den ^ (i + 1) : Nat) : Int)) 6 S4 sc_at.nd ((ge_mul (ge_var 6) (ge_var 3) ?_).is ?_) (fun σ5 H5 S5 => gq_nil ⟨_, _, ⟨rfl, _, _, rfl, ?_, ?_⟩, S5⟩)
      · unfold CMulW
        simp only [Int.natAbs_natCast]
        omega
      · rw [Nat.pow_succ, Int.natCast_mul]
      · have cq : (c.num : Rat) = c * (c.den : Rat) := by
          have e := Rat.num_divInt_den c
          rw [Rat.divInt_eq_div, Rat.intCast_natCast] at e
          have := dn_ne cd
          grind
        have xq : (x.num : Rat) = x * (x.den : Rat) := by
          have e := Rat.num_divInt_den x
          rw [Rat.divInt_eq_div, Rat.intCast_natCast] at e
          have := dn_ne xd
          grind
        have uq : ((lcmF a / c.den : Nat) : Rat) * (c.den : Rat) = (lcmF a : Rat) := by
          rw [← Rat.natCast_mul, Nat.div_mul_cancel dv]
        rw [hs, Rat.intCast_add, Rat.intCast_mul, Rat.intCast_mul, Rat.intCast_mul, Rat.intCast_natCast, Rat.intCast_natCast, Nat.pow_succ, Rat.natCast_mul, cq, xq]
        generalize ((x.den ^ i : Nat) : Rat) = pw at inv ⊢
        generalize hor a x i = h at inv ⊢
        grind
      · refine Nat.le_trans (Int.natAbs_add_le _ _) (Nat.le_trans (Nat.add_le_add m3 m2) ?_)
        have a1 : 2 ^ (2000 * i + 100) ≤ 2 ^ (2000 * i + 1999) := Nat.pow_le_pow_right (by omega) (by omega)
        have a2 : 2 ^ 1700 ≤ 2 ^ (2000 * i + 1999) := Nat.pow_le_pow_right (by omega) (by omega)
        have a3 : 2 ^ (2000 * (i + 1)) = 2 ^ (2000 * i + 1999) + 2 ^ (2000 * i + 1999) := by
          rw [show 2000 * (i + 1) = (2000 * i + 1999) + 1 from by omega, Nat.pow_succ]
          omega
        omega
  · rintro ρ' I' σ' H' ⟨rfl, F, y, rfl, inv, fl⟩ S3
    rw [prs_reverse, prs_len, List.length_reverse] at S3 inv
    rw [hor_all] at inv
    have wa : ((prs a).length : Int) = a.length := by rw [prs_len]
    have l6 := log_lt hx.2 (by omega)
    have xq := dn_ne xd
    have uq := dn_ne up
    by_cases hz : 0 < a.length
    · obtain ⟨m, hm⟩ : ∃ m, a.length = m + 1 := ⟨a.length - 1, by omega⟩
      have pl := pow_le2 (b := x.den) (i := m) (n := 8) hx.2 (by omega) xd
      have pp : 0 < x.den ^ m := Nat.pow_pos xd
      have bl : lcmF a * x.den ^ m ≤ 2 ^ 1600 := by
        refine Nat.le_trans (Nat.mul_le_mul ul pl) ?_
        rw [← Nat.pow_add]
        exact Nat.pow_le_pow_right (by omega) (by omega)
      have e1 : ((x.den ^ a.length : Nat) : Int) / (x.den : Int) = ((x.den ^ m : Nat) : Int) := by
        rw [hm, Nat.pow_succ, ← Int.natCast_ediv, Nat.mul_div_cancel _ xd]
      refine gq_retP S3 hrt ((ge_call hL hr (ga_two (ge_var 5) (ge_mul (ge_var 4) ((ge_if (k := true) ((gt_gt (ge_len (g.f "len") (ge_num g.pc.cl g.pc.nn (ge_var 0)) rfl) ge_int).is (by rw [wa]; exact decide_eq_true (by omega))) (fun _ => (ge_fdiv (ge_var 6) (ge_var 3) ⟨by omega, by simp only [Int.natAbs_natCast]; omega⟩).is (by rw [e1])) (fun z => by cases z)) : GE C _ O _ _ _ _ (Is (.int ((x.den ^ m : Nat) : Int)))) ?_)) ⟨_, _, rfl, ?_, ?_, rfl⟩).is ?_)
      · unfold CMulW
        have := log_le2 ul
        have := log_le2 pl
        simp only [Int.natAbs_natCast]
        omega
      · congr 1
        have pq := dn_ne pp
        rw [rt, Rat.divInt_eq_div, Rat.intCast_mul, Rat.intCast_natCast, Rat.intCast_natCast]
        rw [hm, Nat.pow_succ, Rat.natCast_mul] at inv
        generalize ((x.den ^ m : Nat) : Rat) = pw at inv pq ⊢
        generalize evalL a x = h at inv ⊢
        grind
      · rw [← Int.natCast_mul]
        have := Nat.mul_pos up pp
        omega
      · rw [← Int.natCast_mul, Int.natAbs_natCast]
        have := log_le2 bl
        omega
    · have ha0 : a = [] := List.eq_nil_of_length_eq_zero (by omega)
      subst ha0
      refine gq_retP S3 hrt ((ge_call hL hr (ga_two (ge_var 5) (ge_mul (ge_var 4) ((ge_if (k := false) ((gt_gt (ge_len (g.f "len") (ge_num g.pc.cl g.pc.nn (ge_var 0)) rfl) ge_int).is (by rfl)) (fun z => by cases z) (fun _ => ge_int)) : GE C _ O _ _ _ _ (Is (.int 1))) ?_)) ⟨_, _, rfl, ?_, ?_, rfl⟩).is ?_)
      · unfold CMulW
        have := log_le2 ul
        simp only [Int.natAbs_natCast]
        have : (1 : Int).natAbs.log2 = 0 := by decide
        omega
      · congr 1
        rw [rt, Rat.divInt_eq_div]
        rw [show evalL [] x = 0 from rfl] at inv ⊢
        have : (F : Rat) = 0 := by grind
        rw [this]
        grind
      · omega
      · rw [Int.mul_one, Int.natAbs_natCast]
        have := log_le2 ul
        omega
end
end TM
/-! ## PgPoly6 -/
set_option Elab.async false
set_option linter.all false
set_option maxRecDepth 100000
set_option maxHeartbeats 4000000
set_option exponentiation.threshold 100000
/-! PgPoly6: moved, plain. -/
namespace TM
open PySem L2 PySem.Spec PyProof.Rows
theorem cd_of_hb {n : Nat} (hn : 0 < n) : ∀ {l : List Rat}, l.length ≤ 1 → (∀ q ∈ l, Hb n q) → CD n l
  | [], _, _ => ⟨1, by omega, Nat.one_lt_two_pow (by omega), fun i => ⟨0, Nat.two_pow_pos _, by rw [cf_out (by simp), Rat.divInt_eq_div]; simp; grind⟩⟩
  | [q], _, h => by
    have hq := h q (by simp)
    refine ⟨q.den, q.den_pos, hq.2, fun i => ?_⟩
    cases i with
    | zero => exact ⟨q.num, hq.1, (Rat.num_divInt_den q).symm⟩
    | succ i => exact ⟨0, Nat.two_pow_pos _, by rw [cf_out (by simp), Rat.divInt_eq_div]; simp; grind⟩
theorem cd_trim {n : Nat} {l : List Rat} (h : CD n l) : CD n (trim l) := by
  obtain ⟨D, a, b, c⟩ := h
  refine ⟨D, a, b, fun i => ?_⟩
  rw [cf_trim]
  exact c i
theorem cd_cons {n m : Nat} {q : Rat} {l : List Rat} (hq : Hb n q) (h : CD m l) : CD (n + m) (q :: l) := by
  obtain ⟨D, d0, d1, d2⟩ := h
  have qd := q.den_pos
  have hlt : q.den * D < 2 ^ (n + m) := by
    rw [Nat.pow_add]
    exact Nat.mul_lt_mul'' hq.2 d1
  refine ⟨q.den * D, Nat.mul_pos qd d0, hlt, fun i => ?_⟩
  cases i with
  | zero =>
    refine ⟨q.num * D, ?_, ?_⟩
    · rw [Int.natAbs_mul, Nat.pow_add, Int.natAbs_natCast]
      exact Nat.mul_lt_mul'' hq.1 d1
    · show q = _
      have h1 := dn_ne qd
      have h2 := dn_ne d0
      have e := Rat.num_divInt_den q
      rw [Rat.divInt_eq_div, Rat.intCast_natCast] at e
      rw [Rat.divInt_eq_div, Rat.intCast_mul, Rat.intCast_natCast, Rat.intCast_natCast, Rat.natCast_mul]
      grind
  | succ i =>
    obtain ⟨z, z1, z2⟩ := d2 i
    refine ⟨z * q.den, ?_, ?_⟩
    · rw [Int.natAbs_mul, Nat.pow_add, Int.natAbs_natCast, Nat.mul_comm]
      exact Nat.mul_lt_mul'' hq.2 z1
    · show cf l i = _
      have h1 := dn_ne qd
      have h2 := dn_ne d0
      rw [z2, Rat.divInt_eq_div, Rat.divInt_eq_div, Rat.intCast_mul, Rat.intCast_natCast, Rat.intCast_natCast, Rat.intCast_natCast, Rat.natCast_mul]
      grind
theorem len_mul (a b : List Rat) : (mulL a b).length ≤ a.length + b.length := by
  unfold mulL
  refine Nat.le_trans (trim_len _) ?_
  simp
theorem len_add (s : Rat) (a b : List Rat) : (addL s a b).length ≤ max a.length b.length := by
  unfold addL
  refine Nat.le_trans (trim_len _) ?_
  simp
theorem moved_cons (c : Rat) (r : List Rat) (s t : Rat) : movedL (c :: r) s t = addL 1 (mulL (movedL r s t) (trim [s, t])) (trim [c]) := rfl
theorem moved_size {s t : Rat} (hs : Hb 50 s) (ht : Hb 50 t) : ∀ (a : List Rat), a.length ≤ 8 → (∀ q ∈ a, Hb 50 q) → CD (161 * a.length + 1) (movedL a s t) ∧ (movedL a s t).length ≤ 2 * a.length
  | [], _, _ => ⟨cd_of_hb (by omega) (by simp [movedL]) (by simp [movedL]), by simp [movedL]⟩
  | c :: r, hl, h => by
    simp only [List.length_cons] at hl
    obtain ⟨h1, h2⟩ := moved_size hs ht r (by omega) fun q hq => h q (List.mem_cons_of_mem _ hq)
    have hc := h c List.mem_cons_self
    have line : CD 100 (trim [s, t]) := cd_trim (cd_cons (n := 50) (m := 50) hs (cd_of_hb (by omega) (by simp) (by simpa using ht)))
    have l2 : (trim [s, t]).length ≤ 2 := trim_len _
    have l1 : (trim [c]).length ≤ 1 := trim_len _
    have cc : CD 50 (trim [c]) := cd_trim (cd_of_hb (by omega) (by simp) (by simpa using hc))
    rw [moved_cons]
    have m := cd_mul h1 line (by omega)
    have ml := len_mul (movedL r s t) (trim [s, t])
    refine ⟨(cd_add (.inl rfl) m cc).mono (by simp only [List.length_cons]; omega), ?_⟩
    refine Nat.le_trans (len_add _ _ _) ?_
    simp only [List.length_cons]
    omega
/-- what the operators + and * of a Poly keep -/
structure Ops (P : Program) (w : World) (K : PySem.W.Frag) (mg : Str → Option Value) (base : Heap) (k : Nat) (C : Addr) : Prop where
  dA : DunC K C .Add
  dS : DunC K C .Sub
  dM : DunC K C .Mult
  add : MS P w K mg base k C "__add__" (Radd 1)
  radd : MS P w K mg base k C "__radd__" (RaddR 1)
  sub : MS P w K mg base k C "__sub__" (Radd (-1))
  rsub : MS P w K mg base k C "__rsub__" (RaddR (-1))
  mul : MS P w K mg base k C "__mul__" Rmul
  rmul : MS P w K mg base k C "__rmul__" RmulR
section
variable {P : Program} {w : World} {K : PySem.W.Frag} {mg : Str → Option Value} {base : Heap} {f : Addr} {fd : FuncData} {C : Addr} {k : Nat}
theorem Ops.mono {j : Nat} (o : Ops P w K mg base j C) (h : j ≤ k) : Ops P w K mg base k C := ⟨o.dA, o.dS, o.dM, o.add.mono h, o.radd.mono h, o.sub.mono h, o.rsub.mono h, o.mul.mono h, o.rmul.mono h⟩
theorem Mkr.mono {CX : CXT} {j : Nat} {x : Str} {sp : Sp} (F : Mkr P w K mg base CX j C x sp) (h : j ≤ k) : Mkr P w K mg base CX k C x sp := by
  obtain ⟨f, fd, ps, ok, a, b, c⟩ := F.ex
  exact ⟨f, fd, ps, ok.mono h, a, b, c⟩
def Rmoved : List D → D → Prop := fun ds r => ∃ (a : List Rat) (d1 d2 : D) (s t : Rat), ds = [.poly a, d1, d2] ∧ Wq d1 s ∧ Wq d2 t ∧ Hb 50 s ∧ Hb 50 t ∧ a.length ≤ 8 ∧ (∀ q ∈ a, Hb 50 q) ∧ r = .poly (movedL a s t)
theorem sc_moved : FnScope ["self", "start", "step", "first", "by", "found", "number"] ["self", "start", "step"] (defScope (pol 13)) := ⟨rfl, rfl, rfl, by decide +kernel, rfl, by decide +kernel, by decide +kernel⟩
theorem wqs2 {s t : Rat} (hs : Hb 50 s) (ht : Hb 50 t) : Paired Wq [pair s, pair t] [s, t] := .cons (hs.wq (by omega)) (.cons (ht.wq (by omega)) .nil)
theorem mf_moved (g : Gs K mg C) (o : Ops P w K mg base k C) (hM : MkS P w K mg base k C) (hT : FnS P w K mg base k C "told" Rtold) (F : FnP K "moved" "Poly.moved" (pol 13) f fd) (hm : Meth K C "moved" f) : MS P w K mg base (k + 2) C "moved" Rmoved := by
  refine mf_pure F hm sc_moved (F.bindsN fun _ _ _ _ _ _ us hl => match us, hl with | [_, _, _], _ => rfl) (fun ds r h => by obtain ⟨a, d1, d2, s, t, rfl, _⟩ := h; rfl) ?_
  rintro cdv A outer s0 H E ds r hr ⟨a, d1, d2, s, t, rfl, ws, wt, hs, ht, la, ha, rfl⟩
  intro O H0 vs De hw hn hrt hnx
  have S : Stt C O H0 H0 (start ["self", "start", "step", "first", "by", "found", "number"] vs) [some (.poly a), some d1, some d2, none, none, none, none] (ownA O H0) := Stt.start hw hn ownA_refl
  have hr1 : Room k (A.deeper (envOfC "Poly.moved" (defScope (pol 13)) s0.heap.objs.size f cdv)) := hr.mono (by omega)
  obtain ⟨p0, q0, w1, w2, w3⟩ := ws
  obtain ⟨p1, q1, v1, v2, v3⟩ := wt
  refine gq_par 3 4 S rfl sc_moved.nd (ga_two ((ge_call hT hr1 (ga_two (ge_var 1) ge_str) ⟨d1, _, p0, q0, rfl, w1, w2, rfl⟩).is (by rw [w3])) ((ge_call hT hr1 (ga_two (ge_var 2) ge_str) ⟨d2, _, p1, q1, rfl, v1, v2, rfl⟩).is (by rw [v3]))) (fun σ1 H1 S1 => ?_)
  refine gq_setP (d := .poly []) 5 S1 sc_moved.nd (ge_make hM hr (ge_tup ga_nil) ⟨[], [], rfl, .nil, by simp, rfl⟩) (fun σ2 H2 S2 => ?_)
  refine gq_for S2 PassesOwn.never rfl (gi_tup (ge_revT (ge_num g.pc.cl g.pc.nn (ge_var 0)))) (tg_name (i := 6) (vs := [6]) sc_moved.nd rfl (.inl rfl) (by simp)) (fun i hi => trivial)
    (fun i ρ I => I = ownA O H0 ∧ ∃ (y : Option D), ρ = [some (.poly a), some d1, some d2, some (pair s), some (pair t), some (.poly (movedL (a.drop (a.length - i)) s t)), y]) ⟨rfl, none, ?_⟩ ?_ ?_
  · rw [Nat.sub_zero, List.drop_length]
    rfl
  · rintro H3 e3 i ρ' I' σ' H' hi ⟨rfl, y, rfl⟩ S3
    rw [prs_reverse, prs_len] at hi
    have hi' : i < a.length := by rw [List.length_reverse] at hi; exact hi
    rw [prs_reverse, prs_get hi, List.getElem_reverse] at S3
    have hc := ha _ (List.getElem_mem (show a.length - 1 - i < a.length by omega))
    have ed : a.drop (a.length - (i + 1)) = a[a.length - 1 - i] :: a.drop (a.length - i) := by
      rw [show a.length - (i + 1) = a.length - 1 - i from by omega, List.drop_eq_getElem_cons (by omega)]
      congr 1
      congr 1
      omega
    obtain ⟨z1, z2⟩ := moved_size hs ht (a.drop (a.length - i)) (by rw [List.length_drop]; omega) fun q hq => ha q (List.mem_of_mem_drop hq)
    have hdl : (a.drop (a.length - i)).length = i := by rw [List.length_drop]; omega
    rw [hdl] at z1 z2
    have line : CD 100 (trim [s, t]) := cd_trim (cd_cons (n := 50) (m := 50) hs (cd_of_hb (by omega) (by simp) (by simpa using ht)))
    have l2 : (trim [s, t]).length ≤ 2 := trim_len _
    have l1 : (trim [a[a.length - 1 - i]]).length ≤ 1 := trim_len _
    have cc : CD 50 (trim [a[a.length - 1 - i]]) := cd_trim (cd_of_hb (by omega) (by simp) (by simpa using hc))
    have ml := len_mul (movedL (a.drop (a.length - i)) s t) (trim [s, t])
    refine gq_setP (d := .poly (movedL (a.drop (a.length - (i + 1))) s t)) 5 S3 sc_moved.nd ((ge_opL o.dA o.add o.radd rfl hr1 (ge_opL o.dM o.mul o.rmul rfl hr1 (ge_var 5) (ge_make hM hr (ge_tup (ga_two (ge_var 3) (ge_var 4))) ⟨_, [s, t], rfl, wqs2 hs ht, by simp, rfl⟩) (.inl ⟨_, rfl⟩) ⟨_, _, 161 * i + 1, 100, _, rfl, .inl rfl, by omega, by omega, z1, line, by omega, rfl⟩)
      (ge_make hM hr (ge_tup (ga_one (ge_var 6))) ⟨_, [a[a.length - 1 - i]], rfl, .cons (hc.wq (by omega)) .nil, by simp, rfl⟩) (.inl ⟨_, rfl⟩) ⟨_, _, _, rfl, .inl rfl, by omega, by omega, (cd_mul z1 line (by omega)).mono (by omega), cc.mono (by omega), rfl⟩).is ?_) (fun σ4 H4 S4 => gq_nil ⟨_, _, ⟨rfl, _, rfl⟩, S4⟩)
    rw [ed, moved_cons]
  · rintro ρ' I' σ' H' ⟨rfl, y, rfl⟩ S3
    rw [prs_reverse, prs_len, List.length_reverse, Nat.sub_self, List.drop_zero] at S3
    exact gq_retP S3 hrt (ge_var 5)
end
end TM
/-! ## MtDiv -/
set_option Elab.async false
set_option linter.all false
set_option exponentiation.threshold 100000
/-! MtDiv: long division. -/
namespace TM
/-- b moved up by p places -/
def sh (b : List Rat) (p i : Nat) : Rat := if p ≤ i then cf b (i - p) else 0
def dby (b : List Rat) (p : Nat) (R : Nat → Rat) : Rat := R (p + b.length - 1) / cf b (b.length - 1)
def dstep (b : List Rat) (p : Nat) (R : Nat → Rat) : Nat → Rat := fun i => R i - dby b p R * sh b p i
/-- how many places -/
def dN (a b : List Rat) : Nat := a.length + 1 - b.length
/-- the rest behind t steps -/
def dR (a b : List Rat) : Nat → Nat → Rat
  | 0 => cf a
  | t + 1 => dstep b (dN a b - 1 - t) (dR a b t)
/-- the quotient's number at place p -/
def dQ (a b : List Rat) (p : Nat) : Rat := dby b p (dR a b (dN a b - 1 - p))
def quoL (a b : List Rat) : List Rat := trim ((List.range (dN a b)).map (dQ a b))
def remL (a b : List Rat) : List Rat := trim ((List.range (b.length - 1)).map (dR a b (dN a b)))
/-- sizes on the way -/
structure DivOk (a b : List Rat) : Prop where
  r : ∀ t i, t ≤ dN a b → Hb 4490 (dR a b t i)
  q : ∀ p, p < dN a b → Hb 4490 (dQ a b p)
  c : ∀ i, Hb 4490 (cf b i)
  m : ∀ p i, p < dN a b → Hb 4490 (dQ a b p * cf b i)
theorem set_range {α : Type} (f : Nat → α) (n k : Nat) (v : α) : ((List.range n).map f).set k v = (List.range n).map fun i => if i = k then v else f i := by
  refine List.ext_getElem (by simp) fun i h1 h2 => ?_
  simp only [List.length_set, List.length_map, List.length_range] at h1
  by_cases hik : i = k
  · subst hik
    simp
  · rw [List.getElem_set_ne (fun e => hik e.symm)]
    simp [hik]
theorem map_cf (a : List Rat) : (List.range a.length).map (cf a) = a := by
  refine List.ext_getElem (by simp) fun i h1 h2 => ?_
  simp only [List.getElem_map, List.getElem_range]
  exact cf_in h2
/-- the rest's row, j numbers of the step at place p done -/
def rowJ (a b : List Rat) (t j : Nat) : List Rat := (List.range a.length).map fun i => if i < dN a b - 1 - t + j then dR a b (t + 1) i else dR a b t i
theorem sh_low {b : List Rat} {p i : Nat} (h : i < p) : sh b p i = 0 := by
  unfold sh
  rw [if_neg (by omega)]
theorem sh_high {b : List Rat} {p i : Nat} (h : p + b.length ≤ i) : sh b p i = 0 := by
  unfold sh
  rw [if_pos (by omega), cf_out (by omega)]
theorem sh_at {b : List Rat} {p j : Nat} : sh b p (p + j) = cf b j := by
  unfold sh
  rw [if_pos (by omega)]
  congr 1
  omega
theorem dR_succ (a b : List Rat) (t i : Nat) : dR a b (t + 1) i = dR a b t i - dby b (dN a b - 1 - t) (dR a b t) * sh b (dN a b - 1 - t) i := rfl
theorem rowJ_zero (a b : List Rat) (t : Nat) : rowJ a b t 0 = (List.range a.length).map (dR a b t) := by
  unfold rowJ
  refine List.map_congr_left fun i _ => ?_
  split
  · rw [dR_succ, sh_low (by omega)]
    grind
  · rfl
theorem rowJ_all (a b : List Rat) (t : Nat) : rowJ a b t b.length = (List.range a.length).map (dR a b (t + 1)) := by
  unfold rowJ
  refine List.map_congr_left fun i _ => ?_
  split
  · rfl
  · rw [dR_succ, sh_high (by omega)]
    grind
theorem rowJ_succ (a b : List Rat) (t j : Nat) : (rowJ a b t j).set (dN a b - 1 - t + j) (dR a b (t + 1) (dN a b - 1 - t + j)) = rowJ a b t (j + 1) := by
  unfold rowJ
  rw [set_range]
  refine List.map_congr_left fun i _ => ?_
  by_cases h1 : i = dN a b - 1 - t + j
  · subst h1
    rw [if_pos rfl, if_pos (by omega)]
  · rw [if_neg h1]
    by_cases h2 : i < dN a b - 1 - t + j
    · rw [if_pos h2, if_pos (by omega)]
    · rw [if_neg h2, if_neg (by omega)]
/-- the quotient's row behind t steps -/
def rowQ (a b : List Rat) (t : Nat) : List Rat := (List.range (dN a b)).map fun p => if dN a b - t ≤ p then dQ a b p else 0
theorem rowQ_zero (a b : List Rat) : rowQ a b 0 = List.replicate (dN a b) 0 := by
  unfold rowQ
  refine List.ext_getElem (by simp) fun i h1 h2 => ?_
  simp only [List.length_map, List.length_range] at h1
  simp only [List.getElem_map, List.getElem_range, List.getElem_replicate]
  rw [if_neg (by omega)]
theorem rowQ_all (a b : List Rat) : rowQ a b (dN a b) = (List.range (dN a b)).map (dQ a b) := by
  unfold rowQ
  refine List.map_congr_left fun i _ => ?_
  rw [if_pos (by omega)]
theorem rowQ_succ (a b : List Rat) (t : Nat) (ht : t < dN a b) : (rowQ a b t).set (dN a b - 1 - t) (dQ a b (dN a b - 1 - t)) = rowQ a b (t + 1) := by
  unfold rowQ
  rw [set_range]
  refine List.map_congr_left fun i _ => ?_
  by_cases h1 : i = dN a b - 1 - t
  · subst h1
    rw [if_pos rfl, if_pos (by omega)]
  · rw [if_neg h1]
    by_cases h2 : dN a b - t ≤ i
    · rw [if_pos h2, if_pos (by omega)]
    · rw [if_neg h2, if_neg (by omega)]
theorem dQ_at (a b : List Rat) (t : Nat) (ht : t < dN a b) : dQ a b (dN a b - 1 - t) = dby b (dN a b - 1 - t) (dR a b t) := by
  unfold dQ
  rw [show dN a b - 1 - (dN a b - 1 - t) = t from by omega]
theorem cf_rowJ {a b : List Rat} {t j i : Nat} (hi : i < a.length) : cf (rowJ a b t j) i = if i < dN a b - 1 - t + j then dR a b (t + 1) i else dR a b t i := by
  unfold rowJ
  rw [cf_map, if_pos hi]
/-- what is done away with -/
theorem dR_top {a b : List Rat} (hb : cf b (b.length - 1) ≠ 0) (hl : 0 < b.length) : ∀ t, t ≤ dN a b → ∀ i, a.length - t ≤ i → dR a b t i = 0
  | 0, _, i, hi => cf_out (by omega)
  | t + 1, ht, i, hi => by
    have hN : dN a b = a.length + 1 - b.length := rfl
    rw [dR_succ]
    by_cases hc : a.length - t ≤ i
    · rw [dR_top hb hl t (by omega) i hc, sh_high (by omega)]
      grind
    · have e : i = (dN a b - 1 - t) + (b.length - 1) := by omega
      have e2 : dN a b - 1 - t + b.length - 1 = i := by omega
      unfold dby
      rw [e2, e, sh_at]
      grind
theorem remL_all {a b : List Rat} (hb : cf b (b.length - 1) ≠ 0) (hl : 0 < b.length) : trim ((List.range a.length).map (dR a b (dN a b))) = remL a b := by
  unfold remL
  refine ext_cf (tr_trim _) (tr_trim _) fun i => ?_
  rw [cf_trim, cf_trim, cf_map, cf_map]
  have hN : dN a b = a.length + 1 - b.length := rfl
  by_cases h1 : i < a.length
  · rw [if_pos h1]
    by_cases h2 : i < b.length - 1
    · rw [if_pos h2]
    · rw [if_neg h2]
      exact dR_top hb hl _ (Nat.le_refl _) i (by omega)
  · rw [if_neg h1]
    split
    · exact (dR_top hb hl _ (Nat.le_refl _) i (by omega)).symm
    · rfl
end TM
/-! ## PgDiv -/
set_option Elab.async false
set_option linter.all false
set_option maxRecDepth 100000
set_option maxHeartbeats 4000000
set_option exponentiation.threshold 100000
/-! PgDiv: plain, divided. -/
namespace TM
open PySem L2 PySem.Spec PyProof.Rows
section
variable {C : Addr} {X : Cx} {O : Addr → Prop} {ρ : Env} {I J K L : Asr} {e : Expr} {pos p p2 : Pos} {n : Int}
/-- list(range(n)) -/
theorem ge_listRg (hc : X.calm = true) (hm : X.mg "list" = none) (hm2 : X.mg "range" = none) (ha : GE C X O ρ I e J (Is (.int n))) (h0 : 0 ≤ n) (h1 : n ≤ 1000000) (hg : Gl X "list" := by rfl) (hg2 : Gl X "range" := by rfl) (na : starEach [e] X.env = (false, eval e X.env) :: starEach [] X.env := by rfl)
    (na2 : starEach [.Call (.Name "range" p) [e] [] p2] X.env = (false, eval (.Call (.Name "range" p) [e] [] p2) X.env) :: starEach [] X.env := by rfl) {p3 : Pos} :
    GE C X O ρ I (.Call (.Name "list" p3) [.Call (.Name "range" p) [e] [] p2] [] pos) J (Is (.lst ((List.range n.toNat).map fun i => D.int (i : Nat)))) := ge_of (pe_listRg hc hg hm (prg_1 hg2 hm2 pe_tw na) na2) fun σ H Q w dn i k => ha σ H _ w dn i fun v H1 z e1 w1 j1 p1 n1 => by
      cases p1
      cases n1
      refine ⟨n, rfl, ⟨by omega, by omega, by omega, by omega, by omega⟩, fun q hq => ?_⟩
      refine k _ _ _ (e1.trans (Ext.of (same_new hq))) (wf_new w1 hq) (J.st (same_new hq) j1) rfl (.lst (own_not w1 hq) upd_same ?_)
      unfold rgV
      rw [Int.sub_zero]
      have key : ∀ (H' : Hp) (l : List Nat), DnAll C O H' (l.map fun i => V.int (0 + (i : Nat))) (l.map fun i => D.int (i : Nat)) := by
        intro H' l
        induction l with
        | nil => exact .nil
        | cons a l ih =>
          refine .cons ?_ ih
          show Dn C O H' (V.int (0 + (a : Int))) (D.int a)
          rw [Int.zero_add]
          exact .int _
      exact key _ _
end
section
variable {P : Program} {w : World} {K : PySem.W.Frag} {mg : Str → Option Value} {base : Heap} {f : Addr} {fd : FuncData} {C : Addr} {k : Nat}
def Rplain : List D → D → Prop := fun ds r => ∃ a : List Rat, ds = [.poly a] ∧ Tr a ∧ a.length ≤ 1000 ∧ CD 4490 a ∧ r = .poly (plainL a)
theorem sc_plain : FnScope ["poly", "number"] ["poly"] (defScope (top 31)) := ⟨rfl, rfl, rfl, by decide +kernel, rfl, by decide +kernel, by decide +kernel⟩
theorem tr_last {a : List Rat} (h : Tr a) (h0 : a ≠ []) : cf a (a.length - 1) ≠ 0 := by
  have hl : (trim a).length ≠ 0 := by
    rw [h]
    exact fun z => h0 (List.eq_nil_of_length_eq_zero z)
  obtain ⟨q, h1, h2⟩ := trim_at hl
  rw [h] at h1
  rw [cf_some h1]
  exact h2
theorem last_cf {a : List Rat} (h0 : a ≠ []) : a.getLastD 0 = cf a (a.length - 1) := by
  have hl := List.length_pos_iff.mpr h0
  rw [cf_in (by omega), List.getLastD_eq_getLast?, List.getLast?_eq_getElem?, List.getElem?_eq_getElem (by omega)]
  rfl
theorem prs_last {a : List Rat} (h0 : a ≠ []) : atI (prs a) (-1) = some (pair (cf a (a.length - 1))) := by
  have hl := List.length_pos_iff.mpr h0
  refine atI_neg ?_
  unfold prs
  rw [List.getLast?_map, List.getLast?_eq_getElem?, List.getElem?_eq_getElem (by omega), cf_in (by omega)]
  rfl
theorem fn_plain (g : Gs K mg C) (hM : MkS P w K mg base k C) (hS : FnS P w K mg base k C "share" Rshare) (F : FnP K "plain" "plain" (top 31) f fd) (hm : mg "plain" = some (.ref f)) : FnS P w K mg base (k + 2) C "plain" Rplain := by
  refine fn_pure F hm sc_plain (F.bindsN fun _ _ _ _ _ _ us hl => match us, hl with | [_], _ => rfl) (fun ds r h => by obtain ⟨a, rfl, _⟩ := h; rfl) ?_
  rintro cdv A outer s0 H E ds r hr ⟨a, rfl, ta, la, ca, rfl⟩
  intro O H0 vs De hw hn hrt hnx
  have S : Stt C O H0 H0 (start ["poly", "number"] vs) [some (.poly a), none] (ownA O H0) := Stt.start hw hn ownA_refl
  have hr1 : Room k (A.deeper (envOfC "plain" (defScope (top 31)) s0.heap.objs.size f cdv)) := hr.mono (by omega)
  refine gq_retP S hrt (ge_make hM hr (d := .lst (prs (a.map fun q => q / a.getLastD 0))) ((ge_lc (g := fun i => pair (cf a i / a.getLastD 0)) rfl sc_plain.nd (gi_tup (ge_num g.pc.cl g.pc.nn (ge_var 0))) (own := [("number", 1)]) (blkOk_by (by rfl)) (fun b O' => tg_name (i := 1) (vs := [1]) sc_plain.nd rfl (.inl rfl) (by simp)) (fun i hi => trivial) (by rw [prs_len]; omega) (fun b0 O' I' _ i hi => ?_)).is ?_) ⟨_, _, rfl, wqs_prs (n := 8980) (by omega) ?_, by rw [prs_len]; simpa using la, rfl⟩)
  · rw [prs_len] at hi
    have h0 : a ≠ [] := fun z => by rw [z] at hi; simp at hi
    rw [prs_get hi, ← cf_in hi, last_cf h0]
    have hl := tr_last ta h0
    refine (ge_call hS hr1 (ga_two (ge_var 1) (ge_ix (ge_num g.pc.cl g.pc.nn (ge_var 0)) (ge_neg ge_int) rfl (prs_last h0))) ⟨_, _, _, _, _, _, rfl, wr_pair _, wr_pair _, (ca.hb _).b4, (ca.hb _).b4, fun z => hl (Rat.num_eq_zero.mp z), rfl⟩).is ?_
    rw [rt_self, rt_self]
  · rw [prs_len, ← range_getD (fun q => q / a.getLastD 0) 0 a]
    unfold prs
    rw [List.map_map]
    rfl
  · intro q hq
    obtain ⟨c, hc, rfl⟩ := List.mem_map.mp hq
    have h0 : a ≠ [] := fun z => by rw [z] at hc; cases hc
    rw [last_cf h0]
    exact hb_divq (cd_mem ca c hc) (ca.hb _) (tr_last ta h0)
/-! ### divided -/
def Rdivided : List D → D → Prop := fun ds r => ∃ a b : List Rat, ds = [.poly a, .poly b] ∧ b ≠ [] ∧ Tr b ∧ a.length ≤ 100 ∧ b.length ≤ 100 ∧ DivOk a b ∧ r = .tup [.poly (quoL a b), .poly (remL a b)]
theorem sc_divided : FnScope ["one", "other", "rest", "quotient", "place", "by", "power", "number"] ["one", "other"] (defScope (top 30)) := ⟨rfl, rfl, rfl, by decide +kernel, rfl, by decide +kernel, by decide +kernel⟩
theorem rep_zero (n : Nat) : (List.replicate n [pair 0]).flatten = prs (List.replicate n 0) := by
  unfold prs
  rw [List.map_replicate]
  induction n with
  | zero => rfl
  | succ m ih => rw [List.replicate_succ, List.flatten_cons, ih, List.replicate_succ]; rfl
theorem prs_set (a : List Rat) (j : Nat) (q : Rat) : (prs a).set j (pair q) = prs (a.set j q) := by
  unfold prs
  rw [List.map_set]
theorem fn_divided (g : Gs K mg C) (hM : MkS P w K mg base k C) (hD : MS P w K mg base k C "degree" Rdegree) (hS : FnS P w K mg base k C "share" Rshare) (hMi : FnS P w K mg base k C "minus" (Rbin (· - ·))) (hT : FnS P w K mg base k C "times" (Rbin (· * ·)))
    (F : FnP K "divided" "divided" (top 30) f fd) (hm : mg "divided" = some (.ref f)) : FnS P w K mg base (k + 2) C "divided" Rdivided := by
  refine fn_pure F hm sc_divided (F.bindsN fun _ _ _ _ _ _ us hl => match us, hl with | [_, _], _ => rfl) (fun ds r h => by obtain ⟨a, b, rfl, _⟩ := h; rfl) ?_
  rintro cdv A outer s0 H E ds r hr ⟨a, b, rfl, hb0, tb, la, lb, dk, rfl⟩
  intro O H0 vs De hw hn hrt hnx
  have S : Stt C O H0 H0 (start ["one", "other", "rest", "quotient", "place", "by", "power", "number"] vs) [some (.poly a), some (.poly b), none, none, none, none, none, none] (ownA O H0) := Stt.start hw hn ownA_refl
  have hr1 : Room k (A.deeper (envOfC "divided" (defScope (top 30)) s0.heap.objs.size f cdv)) := hr.mono (by omega)
  have bl := List.length_pos_iff.mpr hb0
  have wa : ((prs a).length : Int) = a.length := by rw [prs_len]
  have wb : ((prs b).length : Int) = b.length := by rw [prs_len]
  have eN : (max ((a.length : Int) - (b.length : Int) + 1) 0) = ((dN a b : Nat) : Int) := by unfold dN; omega
  have nN : dN a b ≤ 100 := by unfold dN; omega
  refine gq_ifP S (k := false) ((gt_lt (ge_meth0 g.pc.cl hD hr1 (ge_var 1) ⟨b, rfl, rfl⟩) ge_int).is (decide_eq_false (by omega))) (fun z => by cases z) (fun _ H1 S1 => gq_nil ?_)
  refine gq_parO 2 3 S1 rfl sc_divided.nd (evN_list (x := "list") (g.f "list") (ge_num g.pc.cl g.pc.nn (ge_var 0)) rfl)
    (fun q1 => evN_rep (n := ((dN a b : Nat) : Int)) (ge_lst (ga_one (ge_tup (ga_two ge_int ge_int)))) ((ge_max2 rfl (g.f "max") (ge_lst (ga_two (ge_add (ge_sub (ge_len (g.f "len") (ge_num g.pc.cl g.pc.nn (ge_var 0)) rfl) (ge_len (g.f "len") (ge_num g.pc.cl g.pc.nn (ge_var 1)) rfl)) ge_int) ge_int))).is (by rw [wa, wb, eN])) (by omega) (by omega) (by simp)) (fun q1 q2 σ2 H2 nq S2 => ?_)
  have eR : prs a = prs ((List.range a.length).map (dR a b 0)) := by rw [show dR a b 0 = cf a from rfl, map_cf]
  have eQ : (List.replicate ((dN a b : Nat) : Int).toNat [pair 0]).flatten = prs (rowQ a b 0) := by rw [Int.toNat_natCast, rep_zero, rowQ_zero]
  have lR : ∀ t, ((List.range a.length).map (dR a b t)).length = a.length := fun t => by simp
  have lQ : ∀ t, (rowQ a b t).length = dN a b := fun t => by unfold rowQ; simp
  have lJ : ∀ t j, (rowJ a b t j).length = a.length := fun t j => by unfold rowJ; simp
  have nq0 : Nq O H0 [(q1, prs ((List.range a.length).map (dR a b 0))), (q2, prs (rowQ a b 0))] := by rw [← eR, ← eQ]; exact nq
  have S2' : Stt C (owO O [(q1, prs ((List.range a.length).map (dR a b 0))), (q2, prs (rowQ a b 0))]) H0 H2 σ2 [some (.poly a), some (.poly b), some (.val (.ref q1)), some (.val (.ref q2)), none, none, none, none] (owA C O H0 [(q1, prs ((List.range a.length).map (dR a b 0))), (q2, prs (rowQ a b 0))]) := by rw [← eR, ← eQ]; exact S2
  clear S2
  refine gq_for S2' PassesOwn.never rfl (gi_list (ge_revL (ge_listRg rfl (g.f "list") (g.f "range") (ge_lend (q := q2) (ds := prs (rowQ a b 0)) 3 (by simp) nq0 rfl (ge_len (g.f "len") (ge_var 3) rfl) rfl) (by omega) (by rw [prs_len, lQ]; omega)))) (tg_name (i := 4) (vs := [4]) sc_divided.nd rfl (.inl rfl) (by simp)) (fun i hi => trivial)
    (fun t ρ I => I = owA C O H0 [(q1, prs ((List.range a.length).map (dR a b t))), (q2, prs (rowQ a b t))] ∧ Nq O H0 [(q1, prs ((List.range a.length).map (dR a b t))), (q2, prs (rowQ a b t))] ∧ ∃ y1 y2 y3 y4, ρ = [some (.poly a), some (.poly b), some (.val (.ref q1)), some (.val (.ref q2)), y1, y2, y3, y4]) ⟨rfl, nq0, _, _, _, _, rfl⟩ ?_ ?_
  · rintro H3 e3 t ρ' I' σ' H' ht ⟨rfl, nqt, y1, y2, y3, y4, rfl⟩ S3
    rw [List.length_reverse, List.length_map, List.length_range, prs_len, lQ, Int.toNat_natCast] at ht
    have ey : ((List.range ((prs (rowQ a b 0)).length : Int).toNat).map fun i => D.int (i : Nat)).reverse.getD t .non = .int ((dN a b - 1 - t : Nat) : Int) := by
      rw [prs_len, lQ, Int.toNat_natCast, List.getD_eq_getElem?_getD, List.getElem?_eq_getElem (by simpa using ht), List.getElem_reverse]
      simp
    rw [ey] at S3
    have S3' : Stt C (owO O [(q1, prs ((List.range a.length).map (dR a b t))), (q2, prs (rowQ a b t))]) H3 H' σ' [some (.poly a), some (.poly b), some (.val (.ref q1)), some (.val (.ref q2)), some (.int ((dN a b - 1 - t : Nat) : Int)), y2, y3, y4] (owA C O H0 [(q1, prs ((List.range a.length).map (dR a b t))), (q2, prs (rowQ a b t))]) := S3
    clear S3
    have hNn : dN a b - 1 - t + b.length ≤ a.length := by unfold dN at ht ⊢; omega
    have hlast := tr_last tb hb0
    refine gq_setP (d := pair (dQ a b (dN a b - 1 - t))) 5 S3' sc_divided.nd ((ge_call hS hr1 (ga_two (ge_ixO (q := q1) (ds := prs ((List.range a.length).map (dR a b t))) (by simp) (ge_var 2) (ge_add (ge_var 4) (ge_meth0 g.pc.cl hD hr1 (ge_var 1) ⟨b, rfl, rfl⟩)) (prs_atI (j := dN a b - 1 - t + b.length - 1) (by omega) (by rw [lR]; omega))) (ge_ix (ge_num g.pc.cl g.pc.nn (ge_var 1)) (ge_neg ge_int) rfl (prs_last hb0))) ⟨_, _, _, _, _, _, rfl, wr_pair _, wr_pair _, ?_, (dk.c _).b4, fun z => hlast (Rat.num_eq_zero.mp z), rfl⟩).is ?_) (fun σ4 H4 S4 => ?_)
    · rw [rt_self, rt_self, cf_map, if_pos (by omega), dQ_at a b t ht]
      rfl
    · refine gq_storeO (q := q2) (ds := prs (rowQ a b t)) (d := pair (dQ a b (dN a b - 1 - t))) (i := ((dN a b - 1 - t : Nat) : Int)) (j := dN a b - 1 - t) [(q1, prs ((List.range a.length).map (dR a b t)))] [] S4 nqt (ge_var 5) (ge_var 3) (ge_var 4) rfl (by rw [prs_len, lQ]; omega) (by omega) (fun H5 nq5 S5 => ?_)
      rw [prs_set, rowQ_succ a b t ht] at S5 nq5
      have S5' : Stt C (owO O [(q1, prs (rowJ a b t 0)), (q2, prs (rowQ a b (t + 1)))]) H3 H5 σ4 [some (.poly a), some (.poly b), some (.val (.ref q1)), some (.val (.ref q2)), some (.int ((dN a b - 1 - t : Nat) : Int)), some (pair (dQ a b (dN a b - 1 - t))), y3, y4] (owA C O H0 [(q1, prs (rowJ a b t 0)), (q2, prs (rowQ a b (t + 1)))]) := by
        rw [rowJ_zero]
        exact S5
      have nq5' : Nq O H0 [(q1, prs (rowJ a b t 0)), (q2, prs (rowQ a b (t + 1)))] := by
        rw [rowJ_zero]
        exact nq5
      clear S5 nq5
      refine gq_for S5' PassesOwn.never rfl (gi_enumT (g.f "enumerate") (ge_num g.pc.cl g.pc.nn (ge_var 1))) (tg_two (i := 6) (j := 7) (vs := [6, 7]) rfl sc_divided.nd rfl (.inl rfl) rfl (.inl rfl) (by simp) (by simp)) (fun i hi => ⟨_, _, rfl⟩)
        (fun j ρ I => I = owA C O H0 [(q1, prs (rowJ a b t j)), (q2, prs (rowQ a b (t + 1)))] ∧ Nq O H0 [(q1, prs (rowJ a b t j)), (q2, prs (rowQ a b (t + 1)))] ∧ ∃ y6 y7, ρ = [some (.poly a), some (.poly b), some (.val (.ref q1)), some (.val (.ref q2)), some (.int ((dN a b - 1 - t : Nat) : Int)), some (pair (dQ a b (dN a b - 1 - t))), y6, y7]) ⟨rfl, nq5', _, _, rfl⟩ ?_ ?_
      · rintro H6 e6 j ρ6 I6 σ6 H7 hj ⟨rfl, nqj, y6, y7, rfl⟩ S6
        rw [prs_len] at hj
        rw [prs_get hj, ← cf_in hj] at S6
        have S6' : Stt C (owO O [(q1, prs (rowJ a b t j)), (q2, prs (rowQ a b (t + 1)))]) H6 H7 σ6 [some (.poly a), some (.poly b), some (.val (.ref q1)), some (.val (.ref q2)), some (.int ((dN a b - 1 - t : Nat) : Int)), some (pair (dQ a b (dN a b - 1 - t))), some (.int (j : Nat)), some (pair (cf b j))] (owA C O H0 [(q1, prs (rowJ a b t j)), (q2, prs (rowQ a b (t + 1)))]) := S6
        clear S6
        have hx : ((dN a b - 1 - t : Nat) : Int) + (j : Int) = ((dN a b - 1 - t + j : Nat) : Int) := by omega
        refine gq_storeO (q := q1) (ds := prs (rowJ a b t j)) (d := pair (dR a b (t + 1) (dN a b - 1 - t + j))) (i := ((dN a b - 1 - t : Nat) : Int) + (j : Int)) (j := dN a b - 1 - t + j) [] [(q2, prs (rowQ a b (t + 1)))] S6' nqj
          ((ge_call hMi hr1 (ga_two (ge_ixO (q := q1) (ds := prs (rowJ a b t j)) (by simp) (ge_var 2) (ge_add (ge_var 4) (ge_var 6)) (prs_atI (j := dN a b - 1 - t + j) hx (by rw [lJ]; omega))) (ge_call hT hr1 (ga_two (ge_var 5) (ge_var 7)) ⟨_, _, _, _, _, _, rfl, wr_pair _, wr_pair _, (dk.q _ (by omega)).b4, (dk.c _).b4, rfl⟩)) ⟨_, _, _, _, _, _, rfl, wr_pair _, wr_pair _, ?_, ?_, rfl⟩).is ?_) (ge_var 2) (ge_add (ge_var 4) (ge_var 6)) hx (by rw [prs_len, lJ]; omega) (by omega) (fun H8 nq8 S8 => gq_nil ?_)
        · rw [rt_self, rt_self, rt_self, rt_self, cf_rowJ (by omega), if_neg (by omega), dR_succ, sh_at, dQ_at a b t ht]
        · rw [prs_set, rowJ_succ] at S8 nq8
          exact ⟨_, _, ⟨rfl, nq8, _, _, rfl⟩, S8⟩
        · rw [cf_rowJ (by omega), if_neg (by omega)]
          exact (dk.r t _ (by omega)).b4
        · rw [rt_self, rt_self]
          exact (dk.m _ _ (by omega)).b4
      · rintro ρ6 I6 σ6 H7 ⟨rfl, nqj, y6, y7, rfl⟩ S6
        rw [prs_len, rowJ_all] at S6 nqj
        exact gq_nil ⟨_, _, ⟨rfl, nqj, _, _, _, _, rfl⟩, S6⟩
    · rw [cf_map, if_pos (by omega)]
      exact (dk.r t _ (by omega)).b4
  · rintro ρ' I' σ' H' ⟨rfl, nqt, y1, y2, y3, y4, rfl⟩ S3
    rw [List.length_reverse, List.length_map, List.length_range, prs_len, lQ, Int.toNat_natCast] at S3 nqt
    have S3' : Stt C (owO O [(q1, prs ((List.range a.length).map (dR a b (dN a b)))), (q2, prs (rowQ a b (dN a b)))]) H0 H' σ' [some (.poly a), some (.poly b), some (.val (.ref q1)), some (.val (.ref q2)), y1, y2, y3, y4] (owA C O H0 [(q1, prs ((List.range a.length).map (dR a b (dN a b)))), (q2, prs (rowQ a b (dN a b)))]) := S3
    obtain ⟨S4, un⟩ := S3'.unown nqt
    have S5 := (S4.reset 2 rfl (un _ (List.mem_cons_self))).reset 3 rfl (un _ (List.mem_cons_of_mem _ List.mem_cons_self))
    have em : (max ((b.length : Int) - 1) 0) = ((b.length - 1 : Nat) : Int) := by omega
    have ec : cutD (prs ((List.range a.length).map (dR a b (dN a b)))) none (some ((b.length - 1 : Nat) : Int)) = prs (((List.range a.length).map (dR a b (dN a b))).take (b.length - 1)) := by
      unfold cutD
      rw [HT.sIx_none, HT.sIx_nat, prs_len, lR, List.drop_zero, Nat.sub_zero, prs_take]
      by_cases hc : b.length - 1 ≤ a.length
      · rw [Nat.min_eq_left hc]
      · rw [Nat.min_eq_right (by omega), List.take_of_length_le (by rw [prs_len, lR]; omega), List.take_of_length_le (by rw [prs_len, lR]; omega)]
    have et : trim (((List.range a.length).map (dR a b (dN a b))).take (b.length - 1)) = remL a b := by
      unfold remL
      rw [← List.map_take, List.take_range]
      by_cases hc : b.length - 1 ≤ a.length
      · rw [Nat.min_eq_left hc]
      · refine ext_cf (tr_trim _) (tr_trim _) fun i => ?_
        rw [cf_trim, cf_trim, cf_map, cf_map, Nat.min_eq_right (by omega)]
        have hN : dN a b = 0 := by unfold dN; omega
        rw [hN]
        show (if i < a.length then cf a i else 0) = if i < b.length - 1 then cf a i else 0
        by_cases h1 : i < a.length
        · rw [if_pos h1, if_pos (by omega)]
        · rw [if_neg h1, cf_out (by omega)]
          split <;> rfl
    refine gq_retP S5 hrt (ge_tup (ga_two (ge_make hM hr (ge_var 3) ⟨_, rowQ a b (dN a b), rfl, wqs_prs (n := 4490) (by omega) ?_, by rw [prs_len, lQ]; omega, by rw [rowQ_all]; rfl⟩)
      (ge_make hM hr ((ge_sliceL (ge_var 2) po_none (po_some pe_tw) evo_none (evo_some ((ge_max2 rfl (g.f "max") (ge_lst (ga_two (ge_meth0 g.pc.cl hD hr1 (ge_var 1) ⟨b, rfl, rfl⟩) ge_int))).is (by rw [em])))).is (by rw [ec])) ⟨_, _, rfl, wqs_prs (n := 4490) (by omega) ?_, ?_, et.symm⟩)))
    · intro q hq
      rw [rowQ_all] at hq
      obtain ⟨p, hp, rfl⟩ := List.mem_map.mp hq
      exact dk.q p (List.mem_range.mp hp)
    · intro q hq
      obtain ⟨p, hp, rfl⟩ := List.mem_map.mp (List.mem_of_mem_take hq)
      exact dk.r _ p (by omega)
    · rw [prs_len, List.length_take, lR]
      omega
/-! ### common -/
/-- Euclid's way on rows, in n steps -/
inductive Com : Nat → List Rat → List Rat → List Rat → Prop
  | stop {a : List Rat} : Tr a → a.length ≤ 100 → CD 4490 a → Com 0 a [] (plainL a)
  | step {n : Nat} {a b r : List Rat} : b ≠ [] → Tr b → a.length ≤ 100 → b.length ≤ 100 → DivOk a b → CD 4490 (remL a b) → Com n b (plainL (remL a b)) r → Com (n + 1) a b r
def Rcommon : List D → D → Prop := fun ds r => ∃ (n : Nat) (a b q : List Rat), ds = [.poly a, .poly b] ∧ Com n a b q ∧ r = .poly q
theorem sc_common : FnScope ["one", "other", "first", "second"] ["one", "other"] (defScope (top 32)) := ⟨rfl, rfl, rfl, by decide +kernel, rfl, by decide +kernel, by decide +kernel⟩
theorem len_rem (a b : List Rat) : (remL a b).length ≤ b.length - 1 := by
  unfold remL
  refine Nat.le_trans (trim_len _) ?_
  simp
theorem fn_common (g : Gs K mg C) (hD : MS P w K mg base k C "degree" Rdegree) (hP : FnS P w K mg base k C "plain" Rplain) (hV : FnS P w K mg base k C "divided" Rdivided) (F : FnP K "common" "common" (top 32) f fd) (hm : mg "common" = some (.ref f)) : FnS P w K mg base (k + 1) C "common" Rcommon := by
  refine fn_pure F hm sc_common (F.bindsN fun _ _ _ _ _ _ us hl => match us, hl with | [_, _], _ => rfl) (fun ds r h => by obtain ⟨n, a, b, q, rfl, _⟩ := h; rfl) ?_
  rintro cdv A outer s0 H E ds r hr ⟨n0, a0, b0, q, rfl, hc, rfl⟩
  intro O H0 vs De hw hn hrt hnx
  have S : Stt C O H0 H0 (start ["one", "other", "first", "second"] vs) [some (.poly a0), some (.poly b0), none, none] (ownA O H0) := Stt.start hw hn ownA_refl
  refine gq_par 2 3 S rfl sc_common.nd (ga_two (ge_var 0) (ge_var 1)) (fun σ1 H1 S1 => ?_)
  refine gq_while S1 PassesOwn.never (fun n ρ => ∃ a b, Com n a b q ∧ ρ = [some (.poly a0), some (.poly b0), some (.poly a), some (.poly b)]) n0 ⟨a0, b0, hc, rfl⟩ ?_
  rintro m ρ' ⟨a, b, hc, rfl⟩
  cases hc with
  | stop ta la ca =>
    exact ⟨false, (gt_ge (ge_meth0 g.pc.cl hD hr (ge_var 3) ⟨[], rfl, rfl⟩) ge_int).is rfl, (fun z => by cases z), fun _ σ' H' S' => gq_retP S' hrt (ge_call hP hr (ga_one (ge_var 2)) ⟨a, rfl, ta, by omega, ca, rfl⟩)⟩
  | @step n _ _ _ hb tb la lb dk cr hc =>
    have bl := List.length_pos_iff.mpr hb
    have lr := len_rem a b
    refine ⟨true, (gt_ge (ge_meth0 g.pc.cl hD hr (ge_var 3) ⟨b, rfl, rfl⟩) ge_int).is (decide_eq_true (by omega)), fun _ σ' H' S' => ?_, fun z => by cases z⟩
    exact gq_par 2 3 S' rfl sc_common.nd (ga_two (ge_var 3) (ge_call hP hr (ga_one (ge_ix (ge_call hV hr (ga_two (ge_var 2) (ge_var 3)) ⟨a, b, rfl, hb, tb, la, lb, dk, rfl⟩) ge_int rfl rfl)) ⟨remL a b, rfl, tr_trim _, by omega, cr, rfl⟩)) (fun σ2 H2 S2 => gq_nil ⟨n, _, Nat.lt_succ_self n, ⟨b, _, hc, rfl⟩, S2⟩)
end
end TM
/-! ## TmExc -/
set_option Elab.async false
set_option linter.all false
set_option maxRecDepth 100000
set_option maxHeartbeats 4000000
/-! TmExc: the package's exceptions: made, raised, caught. -/
namespace TM
open PySem L2 PySem.Spec PyProof.Rows ClX
section
variable {X : Cx} {e : Expr} {es : List Expr} {ta : TA} {p1 p2 pos : Pos}
/-- MeanError.__init__(self, ..), MeanError's own class handing on ValueError's -/
theorem pe_meinit {CM : Addr} {mc : Value} {pl : Sem Bool} (hg : Gl X "MeanError") (hm : X.mg "MeanError" = some (.ref CM)) (rd : CRead X.K CM mc) (vV : PySem.W.findCls X.K (.ref CM) mc "__init__" = some (.val (.builtin "ValueError.__init__"))) (ha : PA X (e :: es) ta)
    (hc : eval (.Call (.Attribute (.Name "MeanError" p1) "__init__" p2) (e :: es) [] pos) X.env = (do
      let ov ← eval (.Name "MeanError" p1) X.env
      standAt p2.atName
      let (f, first) ← holding [ov] (getMethod ov "__init__" pl)
      callWith pos f first (backTo pos (starEach (e :: es) X.env)) (backToKw pos (keywordEach [] X.env))) := by rfl)
    (he : starEach (e :: es) X.env = (false, eval e X.env) :: starEach es X.env := by rfl) (hpl : (backTo pos (starEach es X.env)).any (·.1) = false := by rfl) :
    PE X (.Call (.Attribute (.Name "MeanError" p1) "__init__" p2) (e :: es) [] pos) (tVeI X.K ta) := by
  refine ⟨fun pins s σ H Q I h => ?_⟩
  refine PySem.W.methodCall_KW (ld_glob I hg hm ?_ (by decide)) hc
  refine PySem.W.method_cls I.kIn rd.ga (PySem.W.cls_value I.kIn rd.rd vV (by decide +kernel) ?_)
  show wpAny _ _ (callWith pos (Value.builtin "ValueError.__init__") [] (backTo pos (starEach (e :: es) X.env)) []) _ _ _
  refine PyProof.Rows.callWith_method1 (thn (ha.run pos pins _ σ H _ (I.tok _) h) fun us s1 ⟨vs, H1, I1, r1, a, C, ws, ev, hl, T, ea, q⟩ => ?_) he hpl
  subst ev
  cases r1 with
  | @cons _ u0 _ ur ra rw' =>
    obtain rfl : u0 = Value.ref a := ra
    have hlen : ur.length ≤ sizeLine := by
      rw [← Paired.length rw', sizeLine_eq]
      omega
    exact oinit_ok T I1 ea hlen fun s' J => ⟨.non, H1, J, rfl, q⟩
end
/-! ### try with several clauses 'except x as n' -/
/-- the ends of a clause's suite: the clause's name is gone behind it -/
def endsAs (ix : Nat) (Dn : Ends) : Ends := { nx := fun st hp => Dn.nx (st.set ix none) hp, rt := Dn.rt, bk := fun st hp => Dn.bk (st.set ix none) hp, ct := fun st hp => Dn.ct (st.set ix none) hp }
/-- what such clauses wish of an exception of the body -/
def wAll (K : PySem.W.Frag) (ix : Nat) (Wo : WX) (De : Ends) : List (Value × (Addr → Value → Option Addr → TS)) → WX
  | [] => Wo
  | (cl, ts) :: more => fun cls d st hp => ∃ b, PySem.W.exmOne K cls cl = some b ∧ (b = true → ∀ ad, hp ad = none → ts ad cls d (endsAs ix De) (st.set ix (some (.ref ad))) hp) ∧ (b = false → wAll K ix Wo De more cls d st hp)
inductive HdsAs (X : Cx) (nn : Str) : List ExceptHandler → List (Value × (Addr → Value → Option Addr → TS)) → Prop
  | nil : HdsAs X nn [] []
  | cons {xn : Str} {cl : Value} {ts : Addr → Value → Option Addr → TS} {st1 : Stmt} {sts : List Stmt} {np np' : Pos} {hd : List ExceptHandler} {ls : List (Value × (Addr → Value → Option Addr → TS))} (hc : Names X xn cl)
      (hsu : ∀ (ad : Addr) (ob : Obj) (cls : Value) (d : Option Addr) (pn : List (Addr × Obj)), Zc cls d ob → (∃ vs, ob.data = .fields vs) → PSs (X.suite ad ((ad, ob) :: pn)) (st1 :: sts) (ts ad cls d)) (rest : HdsAs X nn hd ls) :
      HdsAs X nn (.ExceptHandler (some (.Name xn np)) (some nn) (st1 :: sts) np' :: hd) ((cl, ts) :: ls)
section
variable {X : Cx} {body : List Stmt} {hd0 : ExceptHandler} {hdl : List ExceptHandler} {ls : List (Value × (Addr → Value → Option Addr → TS))} {tpos : Pos} {tb : WX → TS} {Wo : WX} {ix : Nat} {nn : Str}
theorem ps_try_all (hstk : X.stack = X.env :: X.outer) (hfrm : X.env.frame = some X.env.locals) (hNd : X.N.Nodup) (hix : X.N[ix]? = some nn) (hloc : X.env.kindOf nn = some .local) (tk : Takes X Wo)
    (hbody : ∀ (W : WX) (pn : List (Addr × Obj)) (xe : Value → Shared → Prop), Takes (X.tr pn xe) W → PassesOwn (model X.prog X.w) X.A X.env xe → PSs (X.tr pn xe) body (tb W))
    (hhd : HdsAs X nn (hd0 :: hdl) ls) : PS X (.Try body (hd0 :: hdl) [] [] tpos) (fun Dd σ H => tb (wAll X.K ix Wo Dd ls) Dd σ H) := by
  refine ⟨fun pins s σ H Dd Iv hw => ?_⟩
  have okX := Iv.ok
  have hfrs : X.A.frames = some (X.env :: X.outer) := by rw [okX.frames, hstk]
  have hl0 : Loc X.env.scope nn := .inl hloc
  refine wpAny_Try_except ?_
  refine wpAny_mono ((hbody (wAll X.K ix Wo Dd ls) (X.pn ++ pins) (fun e s₁ => wpAny (model X.prog X.w) X.A (noteFrame e X.env) (fun _ s₂ => wpAny (model X.prog X.w) X.A (setFlight e none) (fun _ s₃ =>
    wpAny (model X.prog X.w) X.A (handleBy e X.env (hd0 :: hdl)) (SP X pins Dd) X.xe s₃) X.xe s₂) X.xe s₁) (fun u s' xx => ?_) PassesOwn.looking).run [] s σ H Dd (Iv.toTry _) hw) (fun f s1 hsp => ?_) (fun e s1 he => he)
  · obtain ⟨ea, Bg, s0, pins', σ', H', cls, d, rfl, Jt, nbs, upS, sky, nax, eos, agx, wx⟩ := xx
    have Jv : Inv X pins σ' H' s0 := Jt.ofTry okX
    have skyX : Sky Bg (X.env :: X.outer) ea (Zc cls d) X.env.locals s'.heap := by rw [← hstk]; exact sky
    show wpAny (model X.prog X.w) X.A (noteFrame (.ref ea) X.env) _ _ _
    refine Sky.land Zc.steady hfrs hfrm skyX fun h3 flt up3 => ?_
    have Iv3 : Inv X pins σ' H' { s' with heap := h3 } := Jv.landed nbs flt.1 (upS.trans up3) eos agx
    obtain ⟨ob3, vs3, ho3, hz3, hd3⟩ := flt.there
    have offFr : ∀ {h : Heap} {o : Obj} {vs : Array Value}, h.FunFrames Bg (X.env :: X.outer) → h.get? ea = some o → o.data = .fields vs → ea ∉ frs (X.env :: X.outer) := fun {h o vs} ff e dd hm => by
      obtain ⟨_, o', e', hnf⟩ := ff.mem hm
      rw [e] at e'
      cases e'
      exact hnf _ dd
    have nfr := offFr flt.2.2.1 ho3 hd3
    have neL : ea ≠ X.env.locals := fun z => nfr (List.mem_filterMap.mpr ⟨X.env, List.mem_cons_self, by rw [hfrm, z]⟩)
    have neF : ea ∉ X.fs := fun hm => by
      obtain ⟨e, he, q⟩ := List.mem_filterMap.mp hm
      exact nfr (List.mem_filterMap.mpr ⟨e, List.mem_cons_of_mem _ he, q⟩)
    have Su3 := Iv3.suite ho3 hd3 nax neL neF
    have walk : ∀ {hds' : List ExceptHandler} {l' : List (Value × (Addr → Value → Option Addr → TS))}, HdsAs X nn hds' l' → wAll X.K ix Wo Dd l' cls d σ' H' →
        wpAny (model X.prog X.w) X.A (handleBy (.ref ea) X.env hds') (SP X pins Dd) X.xe { s' with heap := h3 } := by
      intro hds' l' hk
      induction hk with
      | nil =>
        intro wv
        refine wpAny_handleBy_nil ?_
        obtain ⟨k1, k2, k3, oe, vs, T, oT, ts', he, hz, hd, h1, hr⟩ := id flt
        unfold PySem.passOn
        refine wpAny_bind (wpAny_field he hd h1 ?_)
        rw [if_neg (show ¬ ((Value.ref T == Value.none) = true) from by simp)]
        have onw : wpAny (model X.prog X.w) X.A (setFlight (.ref ea) X.env.frame) (fun _ s4 => wpAny (model X.prog X.w) X.A (throw (.ref ea) : Sem Flow) (SP X pins Dd) X.xe s4) X.xe { s' with heap := h3 } := by
          rw [hfrm]
          refine HandSPX.setFlight_upZ flt fun h4 hh4 up4 => wpAny_throw (tk _ _ ?_)
          exact ⟨ea, Bg, s0, pins, σ', H', cls, d, rfl, Jv, nbs, (upS.trans up3).trans up4, .inr (.inr (by rw [hstk]; exact hh4)), nax, eos, agx, wv⟩
        first
          | exact wpAny_bind (wpAny_pure (wpAny_bind onw))
          | exact wpAny_bind onw
      | @cons xn cl ts st1 sts np np' hd2 ls2 hc hsu rest ih =>
        intro wv
        obtain ⟨bb, hbb, hyes, hno⟩ := wv
        refine wpAny_handleBy_cons (codeAny_handlers_test ?_) (by intro q; cases q)
        have LkT : PySem.W.Looks (model X.prog X.w) h3 (typeOf (.ref ea)) cls := fun A Q E s k q => wpAny_typeOf_ref (k _ _ ho3) (by rw [hz3.1]; exact q)
        have LkM := PySem.W.exm_one (M := model X.prog X.w) (Iv3.kIn) LkT hbb
        have tst : ∀ {Q : Value → Shared → Prop} {E : Value → Shared → Prop}, Q cl { s' with heap := h3 } → wpAny (model X.prog X.w) (X.A.mark (some (.ref ea))) (eval (.Name xn np) X.env) Q E { s' with heap := h3 } := fun {Q E} q => by
          obtain ⟨hg, hdb, hm | ⟨hm, hv, hnn⟩⟩ := hc
          · exact ld_glob (X := X.suite ea ((ea, ob3) :: (X.pn ++ pins))) Su3 hg hm q hdb
          · exact ld_blt (X := X.suite ea ((ea, ob3) :: (X.pn ++ pins))) Su3 hg hm hv q hnn hdb
        refine tst (LkM.here ?_)
        cases bb with
        | true =>
          refine codeAny_handlers_suite_as ?_
          refine HandSPX.lands_againZ flt fun h4 flt4 up4 => ?_
          have Iv4 : Inv X pins σ' H' { s' with heap := h4 } := Jv.landed nbs flt4.1 ((upS.trans up3).trans up4) eos agx
          obtain ⟨ob4, vs4, ho4, hz4, hd4⟩ := flt4.there
          have Su4 := Iv4.suite ho4 hd4 nax neL neF
          refine store_ok (X := X.suite ea ((ea, ob4) :: (X.pn ++ pins))) (v := .ref ea) Su4 hNd hix hl0 rfl (fun s5 Su5 => ?_) (.inr hloc)
          refine wpAny_mono ((hsu ea ob4 cls d (X.pn ++ pins) hz4 ⟨_, hd4⟩).run [] s5 _ H' _ Su5 (hyes rfl ea nax)) (fun f s6 hsp => ?_) (fun _ _ z => False.elim z)
          have away : ∀ {σ6 : L2.St} {H6 : Hp} {Q : Shared → Prop}, Inv (X.suite ea ((ea, ob4) :: (X.pn ++ pins))) [] σ6 H6 s6 → (∀ s7, Inv X pins (σ6.set ix none) H6 s7 → Q s7) →
              wpAny (model X.prog X.w) X.A (do bindName X.env nn .none; unbindBehindTheSuite X.env nn np') (fun _ s7 => Q s7) X.xe s6 := fun {σ6 H6 Q} S6 hq => gone_ok (S6.unsuite okX) hNd hix hloc hq
          cases f with
          | next =>
            obtain ⟨σ6, H6, S6, q6⟩ := hsp
            exact away S6 fun s7 J7 => ⟨_, _, J7, q6⟩
          | brk =>
            obtain ⟨σ6, H6, S6, q6⟩ := hsp
            exact away S6 fun s7 J7 => ⟨_, _, J7, q6⟩
          | cont =>
            obtain ⟨σ6, H6, S6, q6⟩ := hsp
            exact away S6 fun s7 J7 => ⟨_, _, J7, q6⟩
          | ret u =>
            obtain ⟨v6, σ6, H6, S6, r6, q6⟩ := hsp
            exact away S6 fun s7 J7 => ⟨_, _, _, J7, r6, q6⟩
        | false =>
          show wpAny _ X.A (handleBy (.ref ea) X.env hd2) _ _ _
          exact ih (hno rfl)
    exact walk hhd wx
  · cases f with
    | next =>
      obtain ⟨σ', H', Jt, q⟩ := hsp
      exact wpAny_execs_nil ⟨σ', H', Jt.ofTry okX, q⟩
    | brk =>
      obtain ⟨σ', H', Jt, q⟩ := hsp
      exact ⟨σ', H', Jt.ofTry okX, q⟩
    | cont =>
      obtain ⟨σ', H', Jt, q⟩ := hsp
      exact ⟨σ', H', Jt.ofTry okX, q⟩
    | ret u =>
      obtain ⟨v, σ', H', Jt, r, q⟩ := hsp
      exact ⟨v, σ', H', Jt.ofTry okX, r, q⟩
end
/-! ### what raises -/
/-- an exception of the class at c whose fields mean fs -/
def XDn (C : Addr) (O : Addr → Prop) (c : Addr) (fs : List (Str × D)) (cls : Value) (d : Option Addr) (H : Hp) : Prop := cls = .ref c ∧ ∃ dd vs, d = some dd ∧ H dd = some (.xd vs) ∧ ∀ p ∈ fs, ∃ v, vs.lookup p.1 = some v ∧ Dn C O H v p.2
/-- a def that raises: RX tells of its arguments the class and the fields -/
def spX (C : Addr) (RX : List D → Addr → List (Str × D) → Prop) : Sp := fun vs H _ E => ∃ (O : Addr → Prop) (ds : List D) (c : Addr) (fs : List (Str × D)), Wf O H ∧ DnAll C O H vs ds ∧ RX ds c fs ∧ ∀ cls d H', Same H H' → XDn C O c fs cls d H' → E cls d H'
def GX (C : Addr) (X : Cx) (O : Addr → Prop) (ρ : Env) (I : Asr) (e : Expr) (c : Addr) (fs : List (Str × D)) : Prop := ∀ (σ : L2.St) (H : Hp) (W : WX), Takes X W → Wf O H → Den C O H σ ρ → I.P H →
  (∀ cls d σ' H', Ext O H H' → Wf O H' → I.P H' → XDn C O c fs cls d H' → W cls d σ' H') → tw X e σ H (fun _ _ => False)
def GAX (C : Addr) (X : Cx) (O : Addr → Prop) (ρ : Env) (I : Asr) (es : List Expr) (c : Addr) (fs : List (Str × D)) : Prop := ∀ (σ : L2.St) (H : Hp) (W : WX), Takes X W → Wf O H → Den C O H σ ρ → I.P H →
  (∀ cls d σ' H', Ext O H H' → Wf O H' → I.P H' → XDn C O c fs cls d H' → W cls d σ' H') → paw X es σ H (fun _ _ => False)
section
variable {C : Addr} {X : Cx} {O : Addr → Prop} {ρ : Env} {I J : Asr} {a b e : Expr} {es : List Expr} {c : Addr} {fs : List (Str × D)} {d : D} {ds : List D} {pos p : Pos} {x : Str} {k : Nat} {H0 H : Hp} {σ : L2.St} {De : Ends} {rest : List Stmt}
theorem tw_mono {Q Q' : VK} (h : tw X e σ H Q) (f : ∀ v H', Q v H' → Q' v H') : tw X e σ H Q' := fun pins s Iv => wpAny_mono (h pins s Iv) (fun _ _ ⟨v, H', J, r, q⟩ => ⟨v, H', J, r, f v H' q⟩) fun _ _ z => z
theorem paw_mono {Q Q' : List V → Hp → Prop} (h : paw X es σ H Q) (f : ∀ v H', Q v H' → Q' v H') : paw X es σ H Q' := fun ps pins s Iv => wpAny_mono (h ps pins s Iv) (fun _ _ ⟨v, H', J, r, q⟩ => ⟨v, H', J, r, f v H' q⟩) fun _ _ z => z
/-- the def raises -/
theorem gx_call {RX : List D → Addr → List (Str × D) → Prop} (F : Fn X.prog X.w X.K X.mg X.base (L2.CX X.prog X.w) k x (spX C RX)) (hr : Room k X.A) (ha : GA C X O ρ I (e :: es) I (· = ds)) (hR : RX ds c fs) (hg : Gl X x := by rfl)
    (hdb : (x == ("__debug__" : Str)) = false := by decide) (he : starEach (e :: es) X.env = (false, eval e X.env) :: starEach es X.env := by rfl) (hpl : (backTo pos (starEach es X.env)).any (·.1) = false := by rfl) :
    GX C X O ρ I (.Call (.Name x p) (e :: es) [] pos) c fs := fun σ H W tk w dn i kk => by
  obtain ⟨f, fd, ps, ok, hm, hk, hb⟩ := F.ex
  refine tw_of (pe_call (E := fun cls d H' => Ext O H H' ∧ Wf O H' ∧ I.P H' ∧ XDn C O c fs cls d H') ok hr hg hm hk hb .nil (passes_call tk fun cls d σ' H' h => kk cls d σ' H' h.1 h.2.1 h.2.2.1 h.2.2.2) pa_tw hdb he hpl) (ha σ H _ w dn i fun vs H1 zs e1 w1 j1 p1 n1 => ?_)
  cases p1
  rw [List.append_nil]
  exact ⟨O, ds, c, fs, w1, n1, hR, fun cls d H' s xd => ⟨e1.trans (Ext.of s), w1.same s, I.st s j1, xd⟩⟩
/-- x(..), x a local name that holds the def -/
theorem gx_callL {RX : List D → Addr → List (Str × D) → Prop} {f : Addr} {fd : FuncData} {ps : List Str} (i : Nat) (ok : FnOk X.prog X.w X.K X.mg X.base (L2.CX X.prog X.w) k f fd ps (spX C RX)) (hk : PySem.W.keepIn X.K (.ref f) = true) (hb : Binds X.K fd ps []) (hr : Room k X.A) (ha : GA C X O ρ I (e :: es) I (· = ds)) (hR : RX ds c fs)
    (hN : X.N[i]? = some x := by rfl) (h : ρ[i]? = some (some (.val (.ref f))) := by rfl) (hv : Vis X.env.scope x := by first | exact Or.inl rfl | exact Or.inr (Or.inl rfl) | exact Or.inr (Or.inr rfl))
    (hdb : (x == ("__debug__" : Str)) = false := by decide) (hcd : (x == ("__classdict__" : Str)) = false := by decide) (he : starEach (e :: es) X.env = (false, eval e X.env) :: starEach es X.env := by rfl) (hpl : (backTo pos (starEach es X.env)).any (·.1) = false := by rfl) :
    GX C X O ρ I (.Call (.Name x p) (e :: es) [] pos) c fs := fun σ H W tk w dn i kk => by
  refine tw_of (pe_callL (E := fun cls d H' => Ext O H H' ∧ Wf O H' ∧ I.P H' ∧ XDn C O c fs cls d H') ok hr hN hv hk hb .nil (passes_call tk fun cls d σ' H' h => kk cls d σ' H' h.1 h.2.1 h.2.2.1 h.2.2.2) pa_tw hdb hcd he hpl) ?_
  obtain ⟨v, e1, e2⟩ := dn.at_ _ _ h
  cases e2
  refine ⟨e1, ha σ H _ w dn i fun vs H1 zs e1 w1 j1 p1 n1 => ?_⟩
  cases p1
  rw [List.append_nil]
  exact ⟨O, ds, c, fs, w1, n1, hR, fun cls d H' s xd => ⟨e1.trans (Ext.of s), w1.same s, I.st s j1, xd⟩⟩
/-- o.m(..) raises -/
theorem gx_meth {m : Str} {RX : List D → Addr → List (Str × D) → Prop} {ns : List Rat} {pl : Sem Bool} {apos : Pos} {o : Expr} (hc : Cls X.K C) (F : MFn X.prog X.w X.K X.mg X.base (L2.CX X.prog X.w) k C m (spX C RX)) (hr : Room k X.A) (ho : GE C X O ρ I o I (Is (.poly ns))) (ha : GA C X O ρ I (e :: es) I (· = ds)) (hR : RX (.poly ns :: ds) c fs) (hmn : (m == numF) = false := by decide)
    (hst : starEach (e :: es) X.env = (false, eval e X.env) :: starEach es X.env := by rfl) (hpl : (backTo pos (starEach es X.env)).any (·.1) = false := by rfl)
    (ht : eval (.Call (.Attribute o m apos) (e :: es) [] pos) X.env = (do
      let ov ← eval o X.env
      standAt apos.atName
      let (f, first) ← holding [ov] (getMethod ov m pl)
      callWith pos f first (backTo pos (starEach (e :: es) X.env)) (backToKw pos (keywordEach [] X.env))) := by rfl) : GX C X O ρ I (.Call (.Attribute o m apos) (e :: es) [] pos) c fs := fun σ H W tk w dn i kk => by
  obtain ⟨f, fd, ps, ok, M, hb⟩ := F.ex
  refine tw_of (pe_meth (E := fun cls d H' => Ext O H H' ∧ Wf O H' ∧ I.P H' ∧ XDn C O c fs cls d H') pe_tw hc M ok hr hb .nil (passes_call tk fun cls d σ' H' h => kk cls d σ' H' h.1 h.2.1 h.2.2.1 h.2.2.2) pa_tw hst hpl ht) (ho σ H _ w dn i fun v H1 d1 e1 w1 j1 p1 n1 => ?_)
  cases p1
  have n1' := n1
  cases n1 with
  | poly n h nt rr pr =>
    refine ⟨_, _, _, rfl, h, ?_, ha σ H1 _ w1 (dn.ext e1) j1 fun vs H2 zs e2 w2 j2 p2 n2 => ?_⟩
    · show List.lookup m [(numF, _)] = none
      unfold List.lookup
      rw [hmn]
      rfl
    · cases p2
      rw [List.append_nil]
      exact ⟨O, _, c, fs, w2, .cons (n1'.ext e2) n2, hR, fun cls d H' s xd => ⟨(e1.trans e2).trans (Ext.of s), w2.same s, I.st s j2, xd⟩⟩
/-- C(e) raises -/
theorem gx_make {RX : List D → Addr → List (Str × D) → Prop} (F : Mkr X.prog X.w X.K X.mg X.base (L2.CX X.prog X.w) k C x (spX C RX)) (hr : Room (k + 1) X.A) (ha : GE C X O ρ I e I (Is d)) (hR : ∀ z, RX [z, d] c fs) (hg : Gl X x := by rfl)
    (hdb : (x == ("__debug__" : Str)) = false := by decide) (he : starEach [e] X.env = (false, eval e X.env) :: starEach [] X.env := by rfl) (hpl : (backTo pos (starEach [] X.env)).any (·.1) = false := by rfl) :
    GX C X O ρ I (.Call (.Name x p) [e] [] pos) c fs := fun σ H W tk w dn i kk => by
  obtain ⟨f, fd, ps, ok, M, hm, hb⟩ := F.ex
  refine tw_of (pe_make (E := fun cls d H' => Ext O H H' ∧ Wf O H' ∧ I.P H' ∧ XDn C O c fs cls d H') M ok hr hg hm hb .nil (passes_call tk fun cls d σ' H' h => kk cls d σ' H' h.1 h.2.1 h.2.2.1 h.2.2.2) (pa_cons pe_tw pa_nil he) hdb he hpl) (ha σ H _ w dn i fun v H1 d1 e1 w1 j1 p1 n1 => ?_)
  cases p1
  intro x dx hx hd hne
  have hx1 : (upd H1 dx (.own x)) x = none := by rw [upd_ne (Ne.symm hne)]; exact hx
  have s12 : Same H1 (upd (upd H1 dx (.own x)) x (.ins C dx [])) := (same_new hd).trans (same_new hx1)
  exact ⟨O, _, c, fs, w1.same s12, .cons (.val _) (.cons (n1.ext (Ext.of s12)) .nil), hR _, fun cls d H' s xd => ⟨(e1.trans (Ext.of s12)).trans (Ext.of s), (w1.same s12).same s, I.st s (I.st s12 j1), xd⟩⟩
theorem gax_fst (h : GX C X O ρ I a c fs) (hst : starEach (a :: es) X.env = (false, eval a X.env) :: starEach es X.env := by rfl) : GAX C X O ρ I (a :: es) c fs := fun σ H W tk w dn i kk => paw_of (pa_cons pe_tw pa_tw hst) (tw_mono (h σ H W tk w dn i kk) fun _ _ z => z.elim)
theorem gax_snd (ha : GE C X O ρ I a I (Is d)) (h : GAX C X O ρ I es c fs) (hst : starEach (a :: es) X.env = (false, eval a X.env) :: starEach es X.env := by rfl) : GAX C X O ρ I (a :: es) c fs := fun σ H W tk w dn i kk => paw_of (pa_cons pe_tw pa_tw hst)
  (ha σ H _ w dn i fun v H1 d1 e1 w1 j1 p1 n1 => paw_mono (h σ H1 W tk w1 (dn.ext e1) j1 fun cls d σ' H' e w' j xd => kk cls d σ' H' (e1.trans e) w' j xd) fun _ _ z => z.elim)
/-! ### statements that raise -/
/-- the wish of the body, told from its entry -/
def Wsh (C : Addr) (O : Addr → Prop) (I : Asr) (H0 : Hp) (c : Addr) (fs : List (Str × D)) (W : WX) : Prop := ∀ cls d σ' H', Ext O H0 H' → Wf O H' → I.P H' → XDn C O c fs cls d H' → W cls d σ' H'
variable {W : WX}
theorem gqx_par {p1 p2 pt : Pos} {kt k2 : Nat} {pt2 : Pos} {x y : Str} (i j : Nat) (S : Stt C O H0 H σ ρ I) (tk : Takes X W) (hw : Wsh C O I H0 c fs W) (hc : X.calm = true) (hN : X.N.Nodup) (h : GAX C X O ρ I [a, b] c fs)
    (hi : X.N[i]? = some x := by rfl) (hj : X.N[j]? = some y := by rfl) (hij : i ≠ j := by decide) (hx : X.env.scope.names.lookup x = some .local := by rfl) (hy : X.env.scope.names.lookup y = some .local := by rfl)
    (hsw : swappedStores [.Tuple [.Name x p1, .Name y p2] kt pt] (.Tuple [a, b] k2 pt2) X.env = pure (some [x, y]) := by rfl) (hs : swapsWithSole [.Tuple [.Name x p1, .Name y p2] kt pt] (.Tuple [a, b] k2 pt2) pos.line X.env = pure false := by rfl) :
    ssw X (.Assign [.Tuple [.Name x p1, .Name y p2] kt pt] (.Tuple [a, b] k2 pt2) pos :: rest) De σ H := gq_of (ps_par (i := i) (j := j) hc hN hi hj hij hx hy pa_tw hsw hs) (paw_mono (h σ H W tk S.wf S.den S.asr fun cls d σ' H' e w' j xd => hw cls d σ' H' (S.ext.trans e) w' j xd) fun _ _ z => z.elim)
theorem gqx_asg {tg : Expr} (S : Stt C O H0 H σ ρ I) (tk : Takes X W) (hw : Wsh C O I H0 c fs W) (h : GX C X O ρ I e c fs)
    (hs : swapsWithSole [tg] e pos.line X.env = pure false := by rfl) (hsw : swappedStores [tg] e X.env = pure none := by rfl) (h1 : (assignEach [tg] X.env).map (·.2) = [assign tg X.env] := by rfl) : ssw X (.Assign [tg] e pos :: rest) De σ H :=
  gq_of (ps_asg pe_tw pg_gw hs hsw h1) (tw_mono (h σ H W tk S.wf S.den S.asr fun cls d σ' H' e w' j xd => hw cls d σ' H' (S.ext.trans e) w' j xd) fun _ _ z => z.elim)
end
end TM
/-! ## TmExc2 -/
set_option Elab.async false
set_option linter.all false
set_option maxRecDepth 100000
set_option maxHeartbeats 4000000
/-! TmExc2: the exceptions' __init__, raise, a def that raises. -/
namespace TM
open PySem L2 PySem.Spec PyProof.Rows ClX
/-- an exception's __init__: its fields are mk of the arguments -/
def spEI (c : Addr) (mk : List V → List (Str × V)) (n : Nat) : Sp := fun vs H Q _ => ∃ (a : Addr) (ws : List V), vs = .ref a :: ws ∧ ws.length = n ∧ H a = some (exo a c none) ∧
  ∀ dx H', H dx = none → dx ≠ a → H' a = some (exo a c (some dx)) → H' dx = some (exd dx (mk ws)) → (∀ b, b ≠ a → b ≠ dx → H' b = H b) → Q .non H'
def mkNum : List V → List (Str × V)
  | [x, y] => [("number", y), ("what", x)]
  | _ => []
def mkRow : List V → List (Str × V)
  | [x] => [("row", x)]
  | _ => []
/-- what the written part says of the exceptions -/
structure ExG (K : PySem.W.Frag) (mg : Str → Option Value) (CM : Addr) (mc : Value) : Prop where
  nm : mg "MeanError" = some (.ref CM)
  rd : CRead K CM mc
  vV : PySem.W.findCls K (.ref CM) mc "__init__" = some (.val (.builtin "ValueError.__init__"))
structure ExC (K : PySem.W.Frag) (mg : Str → Option Value) (c fI : Addr) (x : Str) (fs : List Str) : Prop where
  ox : OexC K c
  nm : mg x = some (.ref c)
  no : ∀ f ∈ fs, PySem.W.findIn K (.ref c) f = some none
  iC : PySem.W.findIn K (.ref c) "__init__" = some (some (.ref fI))
  tI : PySem.W.typeIn K (.ref fI) = some (.type "function")
section
variable {P : Program} {w : World} {K : PySem.W.Frag} {mg : Str → Option Value} {base : Heap} {f c CM fI : Addr} {mc : Value} {fd : FuncData} {C : Addr} {k : Nat}
theorem sc_bn : FnScope ["self", "what", "number"] ["self", "what", "number"] (defScope bnI) := ⟨rfl, rfl, rfl, by decide +kernel, rfl, by decide +kernel, by decide +kernel⟩
theorem sc_br : FnScope ["self", "row"] ["self", "row"] (defScope brI) := ⟨rfl, rfl, rfl, by decide +kernel, rfl, by decide +kernel, by decide +kernel⟩
theorem ok_bn (eg : ExG K mg CM mc) (ec : ExC K mg c fI "BadNumber" ["what", "number"]) (F : FnP K "__init__" "BadNumber.__init__" bnI f fd) : FnOk P w K mg base CX0 (k + 1) f fd ["self", "what", "number"] (spEI c mkNum 2) := by
  refine F.ok sc_bn (fun vs H Q E h => ?_) fun cdv A outer s H vs Q E hr h => ?_
  · obtain ⟨a, ws, rfl, hl, _⟩ := h
    show ws.length + 1 = 3
    omega
  · obtain ⟨a, ws, rfl, hl, ha, hQ⟩ := h
    match ws, hl with
    | [x, y], _ =>
      refine ⟨_, PSs.nox (pss_cons (X := bX P w K mg base ["self", "what", "number"] "BadNumber.__init__" bnI f cdv A outer s H E) (ps_expr (pe_meinit rfl eg.nm eg.rd eg.vV (pa_cons (pv 0) (pa_cons pe_str pa_nil)))) (pss_cons (ps_ost (pv 0) (pv 1)) (pss_one (ps_ost (pv 0) (pv 2))))), ?_⟩
      refine ⟨_, rfl, a, c, _, rfl, by simp, ec.ox, ha, ?_⟩
      refine ⟨x, rfl, .ref a, rfl, a, c, rfl, ec.ox, ec.no "what" (by simp), .inl ⟨ha, fun dx hd hne => ?_⟩⟩
      have e1 : (upd (upd H dx (exd dx [("what", x)])) a (exo a c (some dx))) dx = some (exd dx [("what", x)]) := by rw [upd_ne hne, upd_same]
      refine ⟨y, rfl, .ref a, rfl, a, c, rfl, ec.ox, ec.no "number" (by simp), .inr ⟨dx, _, upd_same, e1, by simp, ?_⟩⟩
      refine hQ dx _ hd hne ?_ upd_same fun b h1 h2 => ?_
      · rw [upd_ne (Ne.symm hne), upd_same]
      · rw [upd_ne h2, upd_ne h1, upd_ne h2]
theorem ok_br (eg : ExG K mg CM mc) (ec : ExC K mg c fI "BadRow" ["row"]) (F : FnP K "__init__" "BadRow.__init__" brI f fd) : FnOk P w K mg base CX0 (k + 1) f fd ["self", "row"] (spEI c mkRow 1) := by
  refine F.ok sc_br (fun vs H Q E h => ?_) fun cdv A outer s H vs Q E hr h => ?_
  · obtain ⟨a, ws, rfl, hl, _⟩ := h
    show ws.length + 1 = 2
    omega
  · obtain ⟨a, ws, rfl, hl, ha, hQ⟩ := h
    match ws, hl with
    | [x], _ =>
      refine ⟨_, PSs.nox (pss_cons (X := bX P w K mg base ["self", "row"] "BadRow.__init__" brI f cdv A outer s H E) (ps_expr (pe_meinit rfl eg.nm eg.rd eg.vV (pa_cons (pv 0) (pa_cons pe_str pa_nil)))) (pss_one (ps_ost (pv 0) (pv 1)))), ?_⟩
      refine ⟨_, rfl, a, c, _, rfl, by simp, ec.ox, ha, ?_⟩
      refine ⟨x, rfl, .ref a, rfl, a, c, rfl, ec.ox, ec.no "row" (by simp), .inl ⟨ha, fun dx hd hne => ?_⟩⟩
      refine hQ dx _ hd hne upd_same ?_ fun b h1 h2 => ?_
      · rw [upd_ne hne, upd_same]
        rfl
      · rw [upd_ne h1, upd_ne h2]
end
/-- an exception that can be made -/
structure ExR (P : Program) (w : World) (K : PySem.W.Frag) (mg : Str → Option Value) (base : Heap) (k : Nat) (c : Addr) (x : Str) (mk : List V → List (Str × V)) (n : Nat) : Prop where
  ex : ∃ (fI : Addr) (fd : FuncData) (ps : List Str) (fs : List Str), FnOk P w K mg base CX0 k fI fd ps (spEI c mk n) ∧ ExC K mg c fI x fs ∧ Binds K fd ps []
section
variable {C : Addr} {X : Cx} {O : Addr → Prop} {ρ : Env} {I : Asr} {e : Expr} {es : List Expr} {c : Addr} {ds : List D} {pos p cpos : Pos} {x : Str} {k n : Nat} {H0 H : Hp} {σ : L2.St} {De : Ends} {rest : List Stmt} {W : WX} {mk : List V → List (Str × V)} {fs : List (Str × D)}
theorem xd_ne {b dd : Addr} {H' : Hp} {o : HO} {vs : List (Str × V)} (h : H' dd = some (.xd vs)) (h2 : H' b = some o) (h3 : o ≠ .xd vs) : b ≠ dd := fun z => by
  rw [z, h] at h2
  exact h3 (Option.some.inj h2).symm
/-- raise x(..) -/
theorem gq_raise (S : Stt C O H0 H σ ρ I) (tk : Takes X W) (hw : Wsh C O I H0 c fs W) (hcalm : X.calm = true) (R : ExR X.prog X.w X.K X.mg X.base k c x mk n) (hr : Room (k + 1) X.A) (ha : GA C X O ρ I (e :: es) I (· = ds)) (hl : ds.length = n) (hn : n ≤ 1000)
    (hmk : ∀ (H' : Hp) (vs : List V), DnAll C O H' vs ds → ∀ p ∈ fs, ∃ v, (mk vs).lookup p.1 = some v ∧ Dn C O H' v p.2) (hg : Gl X x := by rfl)
    (hdb : (x == ("__debug__" : Str)) = false := by decide) (he : starEach (e :: es) X.env = (false, eval e X.env) :: starEach es X.env := by rfl) (hpl : (backTo cpos (starEach es X.env)).any (·.1) = false := by rfl) :
    ssw X (.Raise (some (.Call (.Name x p) (e :: es) [] cpos)) none pos :: rest) De σ H := by
  obtain ⟨fI, fd, ps, fl, ok, ec, hb⟩ := R.ex
  refine gq_of (ps_raise hcalm tk (pmk_oex (ds := []) (dvs := []) ec.ox ec.iC ec.tI ok hr hb .nil (fun _ _ _ _ _ _ _ z => z.elim) hg ec.nm pa_tw hdb he hpl)) ?_
  refine ha σ H _ S.wf S.den S.asr fun vs H1 zs e1 w1 j1 p1 n1 => ?_
  cases p1
  refine ⟨by rw [n1.length]; omega, fun a hn1 => ?_⟩
  rw [List.append_nil]
  have s1 : Same H1 (upd H1 a (exo a c none)) := same_new hn1
  refine ⟨a, vs, rfl, by rw [n1.length]; exact hl, upd_same, fun dx H2 hd hne h2 h3 h4 => ⟨rfl, dx, mk vs, h2, h3, ?_, ?_⟩⟩
  · rw [upd_ne hne] at hd
    exact hd
  · rw [upd_ne hne] at hd
    have sm : Same H1 (upd (del H2 a) dx (.xd (mk vs))) := fun b o hb => by
      have nb1 := ne_of_none hb hn1
      have nb2 := ne_of_none hb hd
      rw [upd_ne nb2, del_ne nb1, h4 b nb1 nb2, upd_ne nb1]
      exact hb
    refine hw _ _ σ _ ((S.ext.trans e1).trans (Ext.of sm)) (w1.same sm) (I.st sm j1) ⟨rfl, dx, mk vs, rfl, upd_same, fun p hp => ?_⟩
    exact hmk _ vs (n1.ext (Ext.of sm)) p hp
end
theorem mkNum_dn {C : Addr} {O : Addr → Prop} {d1 d2 : D} (H' : Hp) (vs : List V) (n : DnAll C O H' vs [d1, d2]) : ∀ p ∈ [(("what" : Str), d1), ("number", d2)], ∃ v, (mkNum vs).lookup p.1 = some v ∧ Dn C O H' v p.2 := fun p hp => by
  obtain ⟨v1, v2, rfl, n1, n2⟩ := two_dn n
  rcases List.mem_cons.mp hp with rfl | hp
  · exact ⟨v1, rfl, n1⟩
  · rcases List.mem_cons.mp hp with rfl | hp
    · exact ⟨v2, rfl, n2⟩
    · cases hp
theorem mkRow_dn {C : Addr} {O : Addr → Prop} {d1 : D} (H' : Hp) (vs : List V) (n : DnAll C O H' vs [d1]) : ∀ p ∈ [(("row" : Str), d1)], ∃ v, (mkRow vs).lookup p.1 = some v ∧ Dn C O H' v p.2 := fun p hp => by
  obtain ⟨v1, rfl, n1⟩ := one_dn n
  rcases List.mem_cons.mp hp with rfl | hp
  · exact ⟨v1, rfl, n1⟩
  · cases hp
/-! ### a def that raises -/
/-- the context of a body that may let an exception out -/
abbrev eX (P : Program) (w : World) (K : PySem.W.Frag) (mg : Str → Option Value) (base : Heap) (N : List Str) (q : Str) (st : Stmt) (f : Addr) (cdv : Value) (A : Around) (outer : List PySem.Env) (s : Shared) (H : Hp) (E : XK) : Cx := cxOf (L2.CX P w) P w K mg base N q (defScope st) f cdv A outer s H E
def PBX (C : Addr) (X : Cx) (body : List Stmt) (ds : List D) (c : Addr) (fs : List (Str × D)) : Prop := ∀ (O : Addr → Prop) (H0 : Hp) (vs : List V) (De : Ends) (W : WX), Takes X W → PassesOwn (model X.prog X.w) X.A X.env X.xe → Wf O H0 → DnAll C O H0 vs ds → Wsh C O (ownA O H0) H0 c fs W → ssw X body De (L2.start X.N vs) H0
def BodyX (P : Program) (w : World) (K : PySem.W.Frag) (mg : Str → Option Value) (base : Heap) (C : Addr) (N : List Str) (q : Str) (st : Stmt) (f : Addr) (k : Nat) (RX : List D → Addr → List (Str × D) → Prop) : Prop :=
  ∀ (cdv : Value) (A : Around) (outer : List PySem.Env) (s : Shared) (H : Hp) (E : XK) (ds : List D) (c : Addr) (fs : List (Str × D)), Room k (A.deeper (envOfC q (defScope st) s.heap.objs.size f cdv)) → RX ds c fs → PBX C (eX P w K mg base N q st f cdv A outer s H E) (defBody st) ds c fs
section
variable {P : Program} {w : World} {K : PySem.W.Frag} {mg : Str → Option Value} {base : Heap} {x q : Str} {f : Addr} {fd : FuncData} {N ps : List Str} {k : Nat} {C : Addr} {st : Stmt} {RX : List D → Addr → List (Str × D) → Prop}
theorem ok_exc (F : FnP K x q st f fd) (S : FnScope N ps (defScope st)) (hl : ∀ ds c fs, RX ds c fs → ds.length = ps.length) (body : BodyX P w K mg base C N q st f k RX) : FnOk P w K mg base (L2.CX P w) (k + 1) f fd ps (spX C RX) := by
  refine F.ok S (fun vs H Q E h => ?_) fun cdv A outer s H vs Q E hr h => ?_
  · obtain ⟨O, ds, c, fs, _, hn, hR, _⟩ := h
    rw [hn.length]
    exact hl ds c fs hR
  · obtain ⟨O, ds, c, fs, hw, hn, hR, hQ⟩ := h
    refine ⟨_, pss_tw, ?_⟩
    exact body cdv A outer s H E ds c fs hr hR O H vs _ (fun cls d _ H' => E cls d H') (takes_of rfl rfl rfl rfl) (passes_of rfl) hw hn fun cls d σ' H' e _ i xd => hQ cls d H' (same_of e i) xd
theorem fn_exc (F : FnP K x q st f fd) (hm : mg x = some (.ref f)) (S : FnScope N ps (defScope st)) (hb : Binds K fd ps []) (hl : ∀ ds c fs, RX ds c fs → ds.length = ps.length) (body : BodyX P w K mg base C N q st f k RX) :
    Fn P w K mg base (L2.CX P w) (k + 1) x (spX C RX) := ⟨f, fd, ps, ok_exc F S hl body, hm, F.kp, hb⟩
theorem mf_exc (F : FnP K x q st f fd) (hm : Meth K C x f) (S : FnScope N ps (defScope st)) (hb : Binds K fd ps []) (hl : ∀ ds c fs, RX ds c fs → ds.length = ps.length) (body : BodyX P w K mg base C N q st f k RX) :
    MFn P w K mg base (L2.CX P w) (k + 1) C x (spX C RX) := ⟨f, fd, ps, ok_exc F S hl body, hm, hb⟩
end
end TM
/-! ## PgExc -/
set_option Elab.async false
set_option linter.all false
set_option maxRecDepth 100000
set_option maxHeartbeats 4000000
set_option exponentiation.threshold 100000
/-! PgExc: where the package's defs raise. -/
namespace TM
open PySem L2 PySem.Spec PyProof.Rows ClX
abbrev FnE (P : Program) (w : World) (K : PySem.W.Frag) (mg : Str → Option Value) (base : Heap) (k : Nat) (C : Addr) (x : Str) (RX : List D → Addr → List (Str × D) → Prop) : Prop := Fn P w K mg base (L2.CX P w) k x (spX C RX)
abbrev ME (P : Program) (w : World) (K : PySem.W.Frag) (mg : Str → Option Value) (base : Heap) (k : Nat) (C : Addr) (x : Str) (RX : List D → Addr → List (Str × D) → Prop) : Prop := MFn P w K mg base (L2.CX P w) k C x (spX C RX)
/-- BadNumber's fields -/
def numX (w : Str) (d : D) : List (Str × D) := [("what", .str w), ("number", d)]
def badD (d : D) : Prop := isDat2 d ∧ isRat d = false
section
variable {P : Program} {w : World} {K : PySem.W.Frag} {mg : Str → Option Value} {base : Heap} {f cb cr : Addr} {fd : FuncData} {C : Addr} {k : Nat}
def RtoldX (cb : Addr) : List D → Addr → List (Str × D) → Prop := fun ds c fs => ∃ d s, ds = [d, .str s] ∧ badD d ∧ c = cb ∧ fs = numX s d
theorem fx_told (hR : FnS P w K mg base k C "is_ratio" RisRatio) (hN : ExR P w K mg base k cb "BadNumber" mkNum 2) (F : FnP K "told" "told" (top 12) f fd) (hm : mg "told" = some (.ref f)) : FnE P w K mg base (k + 2) C "told" (RtoldX cb) := by
  refine fn_exc F hm sc_told (F.bindsN fun _ _ _ _ _ _ us hl => match us, hl with | [_, _], _ => rfl) (fun ds c fs h => by obtain ⟨d, s, rfl, _⟩ := h; rfl) ?_
  rintro cdv A outer s0 H E ds c fs hr ⟨d, s, rfl, hd, rfl, rfl⟩
  intro O H0 vs De W tk po hw hn hwish
  have S : Stt C O H0 H0 (L2.start ["value", "what"] vs) [some d, some (.str s)] (ownA O H0) := Stt.start hw hn ownA_refl
  refine gq_ifP S (k := true) ((gt_not (gt_val (ge_call hR (hr.mono (by omega)) (ga_one (ge_var 0)) ⟨d, rfl, hd.1, rfl⟩))).is (by rw [hd.2]; rfl)) (fun _ H1 S1 => ?_) (fun z => by cases z)
  exact gq_raise S1 tk hwish rfl hN hr (ga_two (ge_var 1) (ge_var 0)) rfl (by omega) (fun H' vs n => mkNum_dn H' vs n)
def RpartsX (cb : Addr) : List D → Addr → List (Str × D) → Prop := fun ds c fs => ∃ d, ds = [d] ∧ badD d ∧ c = cb ∧ fs = numX "ratio" d
theorem fx_parts (hR : FnS P w K mg base k C "is_ratio" RisRatio) (hN : ExR P w K mg base k cb "BadNumber" mkNum 2) (F : FnP K "parts" "parts" (top 13) f fd) (hm : mg "parts" = some (.ref f)) : FnE P w K mg base (k + 2) C "parts" (RpartsX cb) := by
  refine fn_exc F hm sc_parts (F.bindsN fun _ _ _ _ _ _ us hl => match us, hl with | [_], _ => rfl) (fun ds c fs h => by obtain ⟨d, rfl, _⟩ := h; rfl) ?_
  rintro cdv A outer s0 H E ds c fs hr ⟨d, rfl, hd, rfl, rfl⟩
  intro O H0 vs De W tk po hw hn hwish
  have S : Stt C O H0 H0 (L2.start ["value"] vs) [some d] (ownA O H0) := Stt.start hw hn ownA_refl
  refine gq_ifP S (k := true) ((gt_not (gt_val (ge_call hR (hr.mono (by omega)) (ga_one (ge_var 0)) ⟨d, rfl, hd.1, rfl⟩))).is (by rw [hd.2]; rfl)) (fun _ H1 S1 => ?_) (fun z => by cases z)
  exact gq_raise S1 tk hwish rfl hN hr (ga_two ge_str (ge_var 0)) rfl (by omega) (fun H' vs n => mkNum_dn H' vs n)
/-- of two: the first is none, or the second -/
def RbinX (cb : Addr) : List D → Addr → List (Str × D) → Prop := fun ds c fs => ∃ x y, ds = [x, y] ∧ c = cb ∧ ((badD x ∧ fs = numX "ratio" x) ∨ (∃ a b, Wr x a b) ∧ badD y ∧ fs = numX "ratio" y)

theorem fx_plus (hP : FnS P w K mg base k C "parts" Rparts) (hX : FnE P w K mg base k C "parts" (RpartsX cb)) (F : FnP K "plus" "plus" (top 14) f fd) (hm : mg "plus" = some (.ref f)) : FnE P w K mg base (k + 1) C "plus" (RbinX cb) := by
  refine fn_exc F hm sc_plus (F.bindsN fun _ _ _ _ _ _ us hl => match us, hl with | [_, _], _ => rfl) (fun ds c fs h => by obtain ⟨x, y, rfl, _⟩ := h; rfl) ?_
  rintro cdv A outer s0 H E ds c fs hr ⟨x, y, rfl, rfl, h⟩
  intro O H0 vs De W tk po hw hn hwish
  have S : Stt C O H0 H0 (L2.start ["one", "other", "first", "second"] vs) [some x, some y, none, none] (ownA O H0) := Stt.start hw hn ownA_refl
  rcases h with ⟨hx, rfl⟩ | ⟨⟨a, b, wx⟩, hy, rfl⟩
  · exact gqx_par 2 3 S tk hwish rfl sc_plus.nd (gax_fst (gx_call hX hr (ga_one (ge_var 0)) ⟨x, rfl, hx, rfl, rfl⟩))
  · exact gqx_par 2 3 S tk hwish rfl sc_plus.nd (gax_snd (ge_call hP hr (ga_one (ge_var 0)) ⟨x, a, b, rfl, wx, rfl⟩) (gax_fst (gx_call hX hr (ga_one (ge_var 1)) ⟨y, rfl, hy, rfl, rfl⟩)))

theorem fx_minus (hP : FnS P w K mg base k C "parts" Rparts) (hX : FnE P w K mg base k C "parts" (RpartsX cb)) (F : FnP K "minus" "minus" (top 15) f fd) (hm : mg "minus" = some (.ref f)) : FnE P w K mg base (k + 1) C "minus" (RbinX cb) := by
  refine fn_exc F hm sc_minus (F.bindsN fun _ _ _ _ _ _ us hl => match us, hl with | [_, _], _ => rfl) (fun ds c fs h => by obtain ⟨x, y, rfl, _⟩ := h; rfl) ?_
  rintro cdv A outer s0 H E ds c fs hr ⟨x, y, rfl, rfl, h⟩
  intro O H0 vs De W tk po hw hn hwish
  have S : Stt C O H0 H0 (L2.start ["one", "other", "first", "second"] vs) [some x, some y, none, none] (ownA O H0) := Stt.start hw hn ownA_refl
  rcases h with ⟨hx, rfl⟩ | ⟨⟨a, b, wx⟩, hy, rfl⟩
  · exact gqx_par 2 3 S tk hwish rfl sc_minus.nd (gax_fst (gx_call hX hr (ga_one (ge_var 0)) ⟨x, rfl, hx, rfl, rfl⟩))
  · exact gqx_par 2 3 S tk hwish rfl sc_minus.nd (gax_snd (ge_call hP hr (ga_one (ge_var 0)) ⟨x, a, b, rfl, wx, rfl⟩) (gax_fst (gx_call hX hr (ga_one (ge_var 1)) ⟨y, rfl, hy, rfl, rfl⟩)))

theorem fx_times (hP : FnS P w K mg base k C "parts" Rparts) (hX : FnE P w K mg base k C "parts" (RpartsX cb)) (F : FnP K "times" "times" (top 16) f fd) (hm : mg "times" = some (.ref f)) : FnE P w K mg base (k + 1) C "times" (RbinX cb) := by
  refine fn_exc F hm sc_times (F.bindsN fun _ _ _ _ _ _ us hl => match us, hl with | [_, _], _ => rfl) (fun ds c fs h => by obtain ⟨x, y, rfl, _⟩ := h; rfl) ?_
  rintro cdv A outer s0 H E ds c fs hr ⟨x, y, rfl, rfl, h⟩
  intro O H0 vs De W tk po hw hn hwish
  have S : Stt C O H0 H0 (L2.start ["one", "other", "first", "second"] vs) [some x, some y, none, none] (ownA O H0) := Stt.start hw hn ownA_refl
  rcases h with ⟨hx, rfl⟩ | ⟨⟨a, b, wx⟩, hy, rfl⟩
  · exact gqx_par 2 3 S tk hwish rfl sc_times.nd (gax_fst (gx_call hX hr (ga_one (ge_var 0)) ⟨x, rfl, hx, rfl, rfl⟩))
  · exact gqx_par 2 3 S tk hwish rfl sc_times.nd (gax_snd (ge_call hP hr (ga_one (ge_var 0)) ⟨x, a, b, rfl, wx, rfl⟩) (gax_fst (gx_call hX hr (ga_one (ge_var 1)) ⟨y, rfl, hy, rfl, rfl⟩)))

theorem fx_share (hP : FnS P w K mg base k C "parts" Rparts) (hX : FnE P w K mg base k C "parts" (RpartsX cb)) (F : FnP K "share" "share" (top 17) f fd) (hm : mg "share" = some (.ref f)) : FnE P w K mg base (k + 1) C "share" (RbinX cb) := by
  refine fn_exc F hm sc_share (F.bindsN fun _ _ _ _ _ _ us hl => match us, hl with | [_, _], _ => rfl) (fun ds c fs h => by obtain ⟨x, y, rfl, _⟩ := h; rfl) ?_
  rintro cdv A outer s0 H E ds c fs hr ⟨x, y, rfl, rfl, h⟩
  intro O H0 vs De W tk po hw hn hwish
  have S : Stt C O H0 H0 (L2.start ["one", "other", "first", "second"] vs) [some x, some y, none, none] (ownA O H0) := Stt.start hw hn ownA_refl
  rcases h with ⟨hx, rfl⟩ | ⟨⟨a, b, wx⟩, hy, rfl⟩
  · exact gqx_par 2 3 S tk hwish rfl sc_share.nd (gax_fst (gx_call hX hr (ga_one (ge_var 0)) ⟨x, rfl, hx, rfl, rfl⟩))
  · exact gqx_par 2 3 S tk hwish rfl sc_share.nd (gax_snd (ge_call hP hr (ga_one (ge_var 0)) ⟨x, a, b, rfl, wx, rfl⟩) (gax_fst (gx_call hX hr (ga_one (ge_var 1)) ⟨y, rfl, hy, rfl, rfl⟩)))

theorem fx_lower (hP : FnS P w K mg base k C "parts" Rparts) (hX : FnE P w K mg base k C "parts" (RpartsX cb)) (F : FnP K "lower" "lower" (top 18) f fd) (hm : mg "lower" = some (.ref f)) : FnE P w K mg base (k + 1) C "lower" (RbinX cb) := by
  refine fn_exc F hm sc_lower (F.bindsN fun _ _ _ _ _ _ us hl => match us, hl with | [_, _], _ => rfl) (fun ds c fs h => by obtain ⟨x, y, rfl, _⟩ := h; rfl) ?_
  rintro cdv A outer s0 H E ds c fs hr ⟨x, y, rfl, rfl, h⟩
  intro O H0 vs De W tk po hw hn hwish
  have S : Stt C O H0 H0 (L2.start ["one", "other", "first", "second"] vs) [some x, some y, none, none] (ownA O H0) := Stt.start hw hn ownA_refl
  rcases h with ⟨hx, rfl⟩ | ⟨⟨a, b, wx⟩, hy, rfl⟩
  · exact gqx_par 2 3 S tk hwish rfl sc_lower.nd (gax_fst (gx_call hX hr (ga_one (ge_var 0)) ⟨x, rfl, hx, rfl, rfl⟩))
  · exact gqx_par 2 3 S tk hwish rfl sc_lower.nd (gax_snd (ge_call hP hr (ga_one (ge_var 0)) ⟨x, a, b, rfl, wx, rfl⟩) (gax_fst (gx_call hX hr (ga_one (ge_var 1)) ⟨y, rfl, hy, rfl, rfl⟩)))

/-- share by nought -/
def RshareX0 (cb : Addr) : List D → Addr → List (Str × D) → Prop := fun ds c fs => ∃ x y a b d, ds = [x, y] ∧ c = cb ∧ Wr x a b ∧ Wr y 0 d ∧ fs = numX "divisor" y
theorem fx_share0 (hP : FnS P w K mg base k C "parts" Rparts) (hN : ExR P w K mg base k cb "BadNumber" mkNum 2) (F : FnP K "share" "share" (top 17) f fd) (hm : mg "share" = some (.ref f)) : FnE P w K mg base (k + 2) C "share" (RshareX0 cb) := by
  refine fn_exc F hm sc_share (F.bindsN fun _ _ _ _ _ _ us hl => match us, hl with | [_, _], _ => rfl) (fun ds c fs h => by obtain ⟨x, y, a, b, d, rfl, _⟩ := h; rfl) ?_
  rintro cdv A outer s0 H E ds c fs hr ⟨x, y, a, b, d, rfl, rfl, wx, wy, rfl⟩
  intro O H0 vs De W tk po hw hn hwish
  have S : Stt C O H0 H0 (L2.start ["one", "other", "first", "second"] vs) [some x, some y, none, none] (ownA O H0) := Stt.start hw hn ownA_refl
  have hr1 : Room k (A.deeper (envOfC "share" (defScope (top 17)) s0.heap.objs.size f cdv)) := hr.mono (by omega)
  refine gq_par 2 3 S rfl sc_share.nd (ga_two (ge_call hP hr1 (ga_one (ge_var 0)) ⟨x, a, b, rfl, wx, rfl⟩) (ge_call hP hr1 (ga_one (ge_var 1)) ⟨y, 0, d, rfl, wy, rfl⟩)) (fun σ1 H1 S1 => ?_)
  refine gq_ifP S1 (k := true) ((gt_eqI (ge_ix (ge_var 3) ge_int (partsD_items wy) rfl) ge_int).is rfl) (fun _ H2 S2 => ?_) (fun z => by cases z)
  exact gq_raise S2 tk hwish rfl hN hr (ga_two ge_str (ge_var 1)) rfl (by omega) (fun H' vs n => mkNum_dn H' vs n)
theorem fx_floor (hX : FnE P w K mg base k C "parts" (RpartsX cb)) (F : FnP K "floor_of" "floor_of" (top 19) f fd) (hm : mg "floor_of" = some (.ref f)) : FnE P w K mg base (k + 1) C "floor_of" (RpartsX cb) := by
  refine fn_exc F hm sc_floor (F.bindsN fun _ _ _ _ _ _ us hl => match us, hl with | [_], _ => rfl) (fun ds c fs h => by obtain ⟨d, rfl, _⟩ := h; rfl) ?_
  rintro cdv A outer s0 H E ds c fs hr ⟨d, rfl, hd, rfl, rfl⟩
  intro O H0 vs De W tk po hw hn hwish
  have S : Stt C O H0 H0 (L2.start ["value", "top", "bottom"] vs) [some d, none, none] (ownA O H0) := Stt.start hw hn ownA_refl
  exact gqx_asg S tk hwish (gx_call hX hr (ga_one (ge_var 0)) ⟨d, rfl, hd, rfl, rfl⟩)
theorem fx_ratio_text (hX : FnE P w K mg base k C "told" (RtoldX cb)) (F : FnP K "ratio_text" "ratio_text" (top 21) f fd) (hm : mg "ratio_text" = some (.ref f)) : FnE P w K mg base (k + 1) C "ratio_text" (RpartsX cb) := by
  refine fn_exc F hm sc_ratio_text (F.bindsN fun _ _ _ _ _ _ us hl => match us, hl with | [_], _ => rfl) (fun ds c fs h => by obtain ⟨d, rfl, _⟩ := h; rfl) ?_
  rintro cdv A outer s0 H E ds c fs hr ⟨d, rfl, hd, rfl, rfl⟩
  intro O H0 vs De W tk po hw hn hwish
  have S : Stt C O H0 H0 (L2.start ["value", "top", "bottom"] vs) [some d, none, none] (ownA O H0) := Stt.start hw hn ownA_refl
  exact gqx_asg S tk hwish (gx_call hX hr (ga_two (ge_var 0) ge_str) ⟨d, "ratio", rfl, hd, rfl, rfl⟩)
def RatX (cb : Addr) : List D → Addr → List (Str × D) → Prop := fun ds c fs => ∃ (a : List Rat) (d : D), ds = [.poly a, d] ∧ badD d ∧ c = cb ∧ fs = numX "place" d
theorem mx_at (hX : FnE P w K mg base k C "told" (RtoldX cb)) (F : FnP K "at" "Poly.at" (pol 10) f fd) (hm : Meth K C "at" f) : ME P w K mg base (k + 1) C "at" (RatX cb) := by
  refine mf_exc F hm sc_at (F.bindsN fun _ _ _ _ _ _ us hl => match us, hl with | [_, _], _ => rfl) (fun ds c fs h => by obtain ⟨a, d, rfl, _⟩ := h; rfl) ?_
  rintro cdv A outer s0 H E ds c fs hr ⟨a, d, rfl, hd, rfl, rfl⟩
  intro O H0 vs De W tk po hw hn hwish
  have S : Stt C O H0 H0 (L2.start ["self", "place", "top", "bottom", "under", "found", "power", "number"] vs) [some (.poly a), some d, none, none, none, none, none, none] (ownA O H0) := Stt.start hw hn ownA_refl
  exact gqx_asg S tk hwish (gx_call hX hr (ga_two (ge_var 1) ge_str) ⟨d, "place", rfl, hd, rfl, rfl⟩)
def RmovedX (cb : Addr) : List D → Addr → List (Str × D) → Prop := fun ds c fs => ∃ (a : List Rat) (x y : D), ds = [.poly a, x, y] ∧ c = cb ∧ ((badD x ∧ fs = numX "start" x) ∨ (∃ q, Wq x q) ∧ badD y ∧ fs = numX "step" y)
theorem mx_moved (hT : FnS P w K mg base k C "told" Rtold) (hX : FnE P w K mg base k C "told" (RtoldX cb)) (F : FnP K "moved" "Poly.moved" (pol 13) f fd) (hm : Meth K C "moved" f) : ME P w K mg base (k + 1) C "moved" (RmovedX cb) := by
  refine mf_exc F hm sc_moved (F.bindsN fun _ _ _ _ _ _ us hl => match us, hl with | [_, _, _], _ => rfl) (fun ds c fs h => by obtain ⟨a, x, y, rfl, _⟩ := h; rfl) ?_
  rintro cdv A outer s0 H E ds c fs hr ⟨a, x, y, rfl, rfl, h⟩
  intro O H0 vs De W tk po hw hn hwish
  have S : Stt C O H0 H0 (L2.start ["self", "start", "step", "first", "by", "found", "number"] vs) [some (.poly a), some x, some y, none, none, none, none] (ownA O H0) := Stt.start hw hn ownA_refl
  rcases h with ⟨hx, rfl⟩ | ⟨⟨q, a0, b0, w1, w2, w3⟩, hy, rfl⟩
  · exact gqx_par 3 4 S tk hwish rfl sc_moved.nd (gax_fst (gx_call hX hr (ga_two (ge_var 1) ge_str) ⟨x, "start", rfl, hx, rfl, rfl⟩))
  · exact gqx_par 3 4 S tk hwish rfl sc_moved.nd (gax_snd (ge_call hT hr (ga_two (ge_var 1) ge_str) ⟨x, _, a0, b0, rfl, w1, w2, rfl⟩) (gax_fst (gx_call hX hr (ga_two (ge_var 2) ge_str) ⟨y, "step", rfl, hy, rfl, rfl⟩)))
def RdividedX (cb : Addr) : List D → Addr → List (Str × D) → Prop := fun ds c fs => ∃ a : List Rat, ds = [.poly a, .poly []] ∧ c = cb ∧ fs = numX "divisor" (.int 0)
theorem fx_divided (g : Gs K mg C) (hD : MS P w K mg base k C "degree" Rdegree) (hN : ExR P w K mg base k cb "BadNumber" mkNum 2) (F : FnP K "divided" "divided" (top 30) f fd) (hm : mg "divided" = some (.ref f)) : FnE P w K mg base (k + 2) C "divided" (RdividedX cb) := by
  refine fn_exc F hm sc_divided (F.bindsN fun _ _ _ _ _ _ us hl => match us, hl with | [_, _], _ => rfl) (fun ds c fs h => by obtain ⟨a, rfl, _⟩ := h; rfl) ?_
  rintro cdv A outer s0 H E ds c fs hr ⟨a, rfl, rfl, rfl⟩
  intro O H0 vs De W tk po hw hn hwish
  have S : Stt C O H0 H0 (L2.start ["one", "other", "rest", "quotient", "place", "by", "power", "number"] vs) [some (.poly a), some (.poly []), none, none, none, none, none, none] (ownA O H0) := Stt.start hw hn ownA_refl
  refine gq_ifP S (k := true) ((gt_lt (ge_meth0 g.pc.cl hD (hr.mono (by omega)) (ge_var 1) ⟨[], rfl, rfl⟩) ge_int).is rfl) (fun _ H1 S1 => ?_) (fun z => by cases z)
  exact gq_raise S1 tk hwish rfl hN hr (ga_two ge_str ge_int) rfl (by omega) (fun H' vs n => mkNum_dn H' vs n)
/-! ### Poly of no row -/
def badRow (d : D) : Prop := (isDat d ∧ items d = none) ∨ ∃ ds, items d = some ds ∧ (∀ x ∈ ds, isDat2 x) ∧ ds.length ≤ 1000 ∧ ∃ x ∈ ds, isRat x = false
def RinitX (cr : Addr) : List D → Addr → List (Str × D) → Prop := fun ds c fs => ∃ z d, ds = [z, d] ∧ badRow d ∧ c = cr ∧ fs = [(("row" : Str), d)]
theorem fx_init (g : Gs K mg C) (hR : FnS P w K mg base k C "is_ratio" RisRatio) (hN : ExR P w K mg base k cr "BadRow" mkRow 1) (F : FnP K "__init__" "Poly.__init__" (pol 0) f fd) (hM : Mk K C f) : Mkr P w K mg base (L2.CX P w) (k + 2) C "Poly" (spX C (RinitX cr)) := by
  refine ⟨f, fd, ["self", "numbers"], ok_exc F sc_init (fun ds c fs h => by obtain ⟨z, d, rfl, _⟩ := h; rfl) ?_, hM, g.poly, F.bindsN fun _ _ _ _ _ _ us hl => match us, hl with | [_, _], _ => rfl⟩
  rintro cdv A outer s0 H E ds c fs hr ⟨z, d, rfl, hd, rfl, rfl⟩
  intro O H0 vs De W tk po hw hn hwish
  have S : Stt C O H0 H0 (L2.start ["self", "numbers", "ratio"] vs) [some z, some d, none] (ownA O H0) := Stt.start hw hn ownA_refl
  rcases hd with ⟨⟨T, hT⟩, hi⟩ | ⟨xs, hi, hx, hl, y, hy, hbad⟩
  · refine gq_ifP S (k := true) ((gt_or (k1 := true) (k2 := true) (gt_not (k := false) (gt_val (ge_isi2 (g.f "isinstance") (ge_var 1) (ge_tup (ga_two (ge_tuple_ty (g.f "tuple")) (ge_list_ty (g.f "list")))) hT (k1 := false) (k2 := false) (by cases d <;> cases hT <;> first | rfl | cases hi) (by cases d <;> cases hT <;> first | rfl | cases hi)))) (fun z => by cases z)).is rfl) (fun _ H1 S1 => ?_) (fun z => by cases z)
    exact gq_raise S1 tk hwish rfl hN hr (ga_one (ge_var 1)) rfl (by omega) (fun H' vs n => mkRow_dn H' vs n)
  · obtain ⟨T, hT⟩ : ∃ T, tyN d = some T := by cases d <;> first | exact ⟨_, rfl⟩ | cases hi
    refine gq_ifP S (k := true) ((gt_or (k1 := false) (k2 := true) (gt_not (k := true) (gt_val ((ge_isi2 (g.f "isinstance") (ge_var 1) (ge_tup (ga_two (ge_tuple_ty (g.f "tuple")) (ge_list_ty (g.f "list")))) hT (k1 := decide (T = "tuple")) (k2 := decide (T = "list")) (by cases d <;> cases hT <;> first | rfl | cases hi) (by cases d <;> cases hT <;> first | rfl | cases hi)).is
        (by cases d <;> cases hT <;> first | rfl | cases hi)))) (fun _ => gt_not (k := false) (gt_val ((ge_all (bs := xs.map isRat) rfl (g.f "all") ((ge_lc (g := fun i => D.bl (isRat (xs.getD i .non))) rfl sc_init.nd (gi_items (ge_var 1) hi) (own := [("ratio", 2)]) (blkOk_by (by rfl)) (fun b O' => tg_name (i := 2) (vs := [2]) sc_init.nd rfl (.inl rfl) (by simp)) (fun i hi => trivial) (by omega)
          (fun b O' I' _ i hi => ?_)).is ?_)).is ?_)))).is rfl) (fun _ H1 S1 => ?_) (fun z => by cases z)
    · refine ge_call hR (hr.mono (by omega)) (ga_one (ge_var 2)) ⟨_, rfl, hx _ ?_, rfl⟩
      rw [List.getD_eq_getElem?_getD, List.getElem?_eq_getElem hi]
      exact List.getElem_mem hi
    · rw [range_getD (fun x => D.bl (isRat x)), List.map_map]
      rfl
    · congr 1
      rw [List.all_eq_false]
      exact ⟨false, List.mem_map.mpr ⟨y, hy, hbad⟩, by simp⟩
    · exact gq_raise S1 tk hwish rfl hN hr (ga_one (ge_var 1)) rfl (by omega) (fun H' vs n => mkRow_dn H' vs n)
end
end TM
/-! ## LwRat -/
set_option Elab.async false
set_option linter.all false
set_option maxRecDepth 100000
set_option maxHeartbeats 4000000
set_option exponentiation.threshold 100000
/-! LwRat: the law's own ratios. -/
namespace TM
open PySem L2 PySem.Spec PyProof.Rows
theorem Stt.rebase {C : Addr} {O : Addr → Prop} {H0 H1 H : Hp} {σ : L2.St} {ρ : Env} {I : Asr} (S : Stt C O H1 H σ ρ I) (e : Ext O H0 H1) : Stt C O H0 H σ ρ I := ⟨S.wf, S.den, S.asr, e.trans S.ext⟩
/-! ### Euclid's laps -/
def gS (a b : Nat) : Nat → Nat × Nat
  | 0 => (a, b)
  | n + 1 => ((gS a b n).2, (gS a b n).1 % (gS a b n).2)
theorem gS_gcd (a b : Nat) : ∀ n, (∀ j, j < n → (gS a b j).2 ≠ 0) → Nat.gcd (gS a b n).1 (gS a b n).2 = Nat.gcd a b
  | 0, _ => rfl
  | n + 1, h => by
    rw [← gS_gcd a b n fun j hj => h j (by omega)]
    show Nat.gcd (gS a b n).2 ((gS a b n).1 % (gS a b n).2) = _
    rw [Nat.gcd_comm, ← Nat.gcd_rec, Nat.gcd_comm]
theorem gS_half (a b : Nat) (n : Nat) (h : (gS a b (n + 1)).2 ≠ 0) : 2 * (gS a b (n + 2)).2 < (gS a b n).2 ∨ (gS a b n).2 = 0 := by
  by_cases h0 : (gS a b n).2 = 0
  · exact .inr h0
  · left
    show 2 * ((gS a b n).2 % ((gS a b n).1 % (gS a b n).2)) < (gS a b n).2
    have h1 : (gS a b n).1 % (gS a b n).2 ≠ 0 := h
    have h2 := Nat.mod_lt (gS a b n).1 (Nat.pos_of_ne_zero h0)
    generalize (gS a b n).1 % (gS a b n).2 = r at h1 h2
    generalize (gS a b n).2 = y at h0 h2
    have h3 := Nat.mod_lt y (Nat.pos_of_ne_zero h1)
    have h4 := Nat.div_add_mod y r
    have h5 : 1 ≤ y / r := (Nat.one_le_div_iff (Nat.pos_of_ne_zero h1)).mpr (Nat.le_of_lt h2)
    have h6 : r * 1 ≤ r * (y / r) := Nat.mul_le_mul_left r h5
    omega
theorem gS_small (a b : Nat) {n : Nat} (hb : b < 2 ^ n) : ∀ m, m ≤ n → (∀ j, j < 2 * m → (gS a b j).2 ≠ 0) → (gS a b (2 * m)).2 < 2 ^ (n - m)
  | 0, _, _ => by simpa [gS] using hb
  | m + 1, hm, h => by
    have ih := gS_small a b hb m (by omega) fun j hj => h j (by omega)
    have h1 := gS_half a b (2 * m) (h (2 * m + 1) (by omega))
    have h2 := h (2 * m) (by omega)
    have e : 2 ^ (n - m) = 2 * 2 ^ (n - (m + 1)) := by
      rw [show n - m = (n - (m + 1)) + 1 from by omega, Nat.pow_succ]
      omega
    show (gS a b (2 * m + 2)).2 < _
    omega
theorem gS_ends (a b : Nat) {n N : Nat} (hb : b < 2 ^ n) (hN : 2 * n < N) : ¬ ∀ j, j < N → (gS a b j).2 ≠ 0 := fun h => by
  have h1 := gS_small a b hb n (Nat.le_refl _) fun j hj => h j (by omega)
  rw [Nat.sub_self] at h1
  exact h (2 * n) hN (by simpa using h1)
section
variable {P : Program} {w : World} {K : PySem.W.Frag} {mg : Str → Option Value} {base : Heap} {f : Addr} {fd : FuncData} {C : Addr} {k : Nat}
def RlGcd : List D → D → Prop := fun ds r => ∃ a b : Int, ds = [.int a, .int b] ∧ b.natAbs < 2 ^ 20000 ∧ r = .int ((Nat.gcd a.natAbs b.natAbs : Nat) : Int)
theorem sc_lgcd : FnScope ["_law_one", "_law_two", "_law_lap"] ["_law_one", "_law_two"] (defScope (top 38)) := ⟨rfl, rfl, rfl, by decide +kernel, rfl, by decide +kernel, by decide +kernel⟩
theorem fn_lgcd (g : Gs K mg C) (F : FnP K "_law_gcd" "_law_gcd" (top 38) f fd) (hm : mg "_law_gcd" = some (.ref f)) : FnS P w K mg base (k + 1) C "_law_gcd" RlGcd := by
  refine fn_pure F hm sc_lgcd (F.bindsN fun _ _ _ _ _ _ us hl => match us, hl with | [_, _], _ => rfl) (fun ds r h => by obtain ⟨a, b, rfl, _⟩ := h; rfl) ?_
  rintro cdv A outer s H E ds r hr ⟨a, b, rfl, hb, rfl⟩
  intro O H0 vs De hw hn hrt hnx
  have S : Stt C O H0 H0 (start ["_law_one", "_law_two", "_law_lap"] vs) [some (.int a), some (.int b), none] (ownA O H0) := Stt.start hw hn ownA_refl
  refine gq_par 0 1 S rfl sc_lgcd.nd (ga_two (ge_abs (g.f "abs") (ge_var 0)) (ge_abs (g.f "abs") (ge_var 1))) (fun σ1 H1 S1 => ?_)
  refine gq_for S1 PassesOwn.never rfl (gi_range1 (n := 50000) (g.f "range") ge_int (by omega) (by omega)) (tg_name (i := 2) (vs := [2]) sc_lgcd.nd rfl (.inl rfl) (by simp)) (fun i hi => trivial)
    (fun i ρ I => I = ownA O H0 ∧ (∀ j, j < i → (gS a.natAbs b.natAbs j).2 ≠ 0) ∧ ∃ y, ρ = [some (.int ((gS a.natAbs b.natAbs i).1 : Nat)), some (.int ((gS a.natAbs b.natAbs i).2 : Nat)), y]) ⟨rfl, fun j hj => by omega, none, rfl⟩ ?_ ?_
  · rintro H2 e2 i ρ' I' σ' H' hi ⟨rfl, hz, y, rfl⟩ S2
    refine gq_ifP S2 (gt_eqI (ge_var 1) ge_int) (fun h H3 S3 => gq_break ?_) (fun h H3 S3 => gq_nil ?_)
    · have h0 : (gS a.natAbs b.natAbs i).2 = 0 := by have := of_decide_eq_true h; omega
      have e := gS_gcd a.natAbs b.natAbs i hz
      rw [h0, Nat.gcd_zero_right] at e
      exact gq_retP (S3.rebase e2) hrt ((ge_var 0).is (by rw [e]))
    · have h0 : (gS a.natAbs b.natAbs i).2 ≠ 0 := by have := of_decide_eq_false h; omega
      refine gq_par 0 1 S3 rfl sc_lgcd.nd (ga_two (ge_var 1) ((ge_mod (ge_toInt (g.f "int") (ge_var 0)) (ge_var 1) (by omega)).is (d' := .int ((gS a.natAbs b.natAbs (i + 1)).2 : Nat)) (by show D.int _ = D.int (((gS a.natAbs b.natAbs i).1 % (gS a.natAbs b.natAbs i).2 : Nat) : Int); rw [Int.natCast_emod]))) (fun σ4 H4 S4 => gq_nil ⟨_, _, ⟨rfl, fun j hj => ?_, _, rfl⟩, S4⟩)
      by_cases hj2 : j = i
      · rw [hj2]; exact h0
      · exact hz j (by omega)
  · rintro ρ' I' σ' H' ⟨rfl, hz, y, rfl⟩ S2
    exact absurd hz (gS_ends a.natAbs b.natAbs (n := 20000) (by omega) (by show 2 * 20000 < (50000 : Int).toNat; decide))
def RlQ : List D → D → Prop := fun ds r => ∃ a b : Int, ds = [.int a, .int b] ∧ b ≠ 0 ∧ b.natAbs.log2 < 9000 ∧ r = pair (rt a b)
theorem sc_lq : FnScope ["_law_top", "_law_bottom", "_law_by"] ["_law_top", "_law_bottom"] (defScope (top 39)) := ⟨rfl, rfl, rfl, by decide +kernel, rfl, by decide +kernel, by decide +kernel⟩
theorem lt_of_log {a n : Nat} (h : a.log2 < n) : a < 2 ^ n := by
  by_cases h0 : a = 0
  · subst h0
    exact Nat.two_pow_pos n
  · exact (Nat.log2_lt h0).mp h
theorem fn_lq (hG : FnS P w K mg base k C "_law_gcd" RlGcd) (F : FnP K "_law_q" "_law_q" (top 39) f fd) (hm : mg "_law_q" = some (.ref f)) : FnS P w K mg base (k + 1) C "_law_q" RlQ := by
  refine fn_pure F hm sc_lq (F.bindsN fun _ _ _ _ _ _ us hl => match us, hl with | [_, _], _ => rfl) (fun ds r h => by obtain ⟨a, b, rfl, _⟩ := h; rfl) ?_
  rintro cdv A outer s H E ds r hr ⟨a, b, rfl, hb, hl, rfl⟩
  intro O H0 vs De hw hn hrt hnx
  have S : Stt C O H0 H0 (start ["_law_top", "_law_bottom", "_law_by"] vs) [some (.int a), some (.int b), none] (ownA O H0) := Stt.start hw hn ownA_refl
  have h2 : b.natAbs < 2 ^ 20000 := Nat.lt_of_lt_of_le (lt_of_log hl) (Nat.pow_le_pow_right (by omega) (by omega))
  refine gq_setP 2 S sc_lq.nd (ge_call hG hr (ga_two (ge_var 0) (ge_var 1)) ⟨a, b, rfl, h2, rfl⟩) (fun σ1 H1 S1 => ?_)
  refine gq_setP (d := .int (byOf a b)) 2 S1 sc_lq.nd (ge_if (gt_lt (ge_var 1) ge_int) (fun h => (ge_neg (ge_var 2)).is ?_) (fun h => (ge_var 2).is ?_)) (fun σ2 H2 S2 => ?_)
  · have := of_decide_eq_true h
    unfold byOf
    rw [if_neg (by omega)]
  · have := of_decide_eq_false h
    unfold byOf
    rw [if_pos (by omega)]
  · have c1 : ∀ i, CDivS i (byOf a b) := fun _ => ⟨byOf_ne hb, byOf_log hb hl⟩
    refine gq_retP S2 hrt ((ge_tup (ga_two (ge_fdivS (ge_var 0) (ge_var 2) (c1 _)) (ge_fdivS (ge_var 1) (ge_var 2) (c1 _)))).is ?_)
    unfold pair
    rw [← low_num a b hb, ← low_den a b hb]
/-! ### plus, minus, times, share, less on pairs -/
def Rl2 (op : Rat → Rat → Rat) : List D → D → Prop := fun ds r => ∃ x y : Rat, ds = [pair x, pair y] ∧ Hb 4490 x ∧ Hb 4490 y ∧ r = pair (op x y)
def RlShare : List D → D → Prop := fun ds r => ∃ x y : Rat, ds = [pair x, pair y] ∧ Hb 4490 x ∧ Hb 4490 y ∧ y ≠ 0 ∧ r = pair (x / y)
def RlLess : List D → D → Prop := fun ds r => ∃ x y : Rat, ds = [pair x, pair y] ∧ Hb 4490 x ∧ Hb 4490 y ∧ r = .bl (decide (x.num * y.den < y.num * x.den))
theorem sc_lplus : FnScope ["_law_one", "_law_two"] ["_law_one", "_law_two"] (defScope (top 40)) := ⟨rfl, rfl, rfl, by decide +kernel, rfl, by decide +kernel, by decide +kernel⟩
theorem fn_lplus (hQ : FnS P w K mg base k C "_law_q" RlQ) (F : FnP K "_law_plus" "_law_plus" (top 40) f fd) (hm : mg "_law_plus" = some (.ref f)) : FnS P w K mg base (k + 1) C "_law_plus" (Rl2 (· + ·)) := by
  refine fn_pure F hm sc_lplus (F.bindsN fun _ _ _ _ _ _ us hl => match us, hl with | [_, _], _ => rfl) (fun ds r h => by obtain ⟨x, y, rfl, _⟩ := h; rfl) ?_
  rintro cdv A outer s H E ds r hr ⟨x, y, rfl, h1, h2, rfl⟩
  intro O H0 vs De hw hn hrt hnx
  have S : Stt C O H0 H0 (start ["_law_one", "_law_two"] vs) [some (pair x), some (pair y)] (ownA O H0) := Stt.start hw hn ownA_refl
  have b1 := h1.b4
  have b2 := h2.b4
  have dx := x.den_pos
  have dy := y.den_pos
  have ex : Rat.divInt x.num x.den = x := Rat.num_divInt_den x
  have ey : Rat.divInt y.num y.den = y := Rat.num_divInt_den y
  refine gq_retP S hrt ((ge_call hQ hr (ga_two (ge_add (ge_mul (ge_ix (ge_var 0) ge_int rfl rfl) (ge_ix (ge_var 1) ge_int rfl rfl) (cmul4 b1.1 b2.2)) (ge_mul (ge_ix (ge_var 1) ge_int rfl rfl) (ge_ix (ge_var 0) ge_int rfl rfl) (cmul4 b2.1 b1.2))) (ge_mul (ge_ix (ge_var 0) ge_int rfl rfl) (ge_ix (ge_var 1) ge_int rfl rfl) (cmul4 b1.2 b2.2))) ⟨_, _, rfl, Int.mul_ne_zero (by omega) (by omega), log2_mul4 b1.2 b2.2, rfl⟩).is ?_)
  show pair (Rat.divInt _ _) = pair (x + y)
  rw [← Rat.divInt_add_divInt _ _ (by omega) (by omega), ex, ey]
theorem sc_lminus : FnScope ["_law_one", "_law_two"] ["_law_one", "_law_two"] (defScope (top 41)) := ⟨rfl, rfl, rfl, by decide +kernel, rfl, by decide +kernel, by decide +kernel⟩
theorem fn_lminus (hQ : FnS P w K mg base k C "_law_q" RlQ) (F : FnP K "_law_minus" "_law_minus" (top 41) f fd) (hm : mg "_law_minus" = some (.ref f)) : FnS P w K mg base (k + 1) C "_law_minus" (Rl2 (· - ·)) := by
  refine fn_pure F hm sc_lminus (F.bindsN fun _ _ _ _ _ _ us hl => match us, hl with | [_, _], _ => rfl) (fun ds r h => by obtain ⟨x, y, rfl, _⟩ := h; rfl) ?_
  rintro cdv A outer s H E ds r hr ⟨x, y, rfl, h1, h2, rfl⟩
  intro O H0 vs De hw hn hrt hnx
  have S : Stt C O H0 H0 (start ["_law_one", "_law_two"] vs) [some (pair x), some (pair y)] (ownA O H0) := Stt.start hw hn ownA_refl
  have b1 := h1.b4
  have b2 := h2.b4
  have dx := x.den_pos
  have dy := y.den_pos
  have ex : Rat.divInt x.num x.den = x := Rat.num_divInt_den x
  have ey : Rat.divInt y.num y.den = y := Rat.num_divInt_den y
  refine gq_retP S hrt ((ge_call hQ hr (ga_two (ge_sub (ge_mul (ge_ix (ge_var 0) ge_int rfl rfl) (ge_ix (ge_var 1) ge_int rfl rfl) (cmul4 b1.1 b2.2)) (ge_mul (ge_ix (ge_var 1) ge_int rfl rfl) (ge_ix (ge_var 0) ge_int rfl rfl) (cmul4 b2.1 b1.2))) (ge_mul (ge_ix (ge_var 0) ge_int rfl rfl) (ge_ix (ge_var 1) ge_int rfl rfl) (cmul4 b1.2 b2.2))) ⟨_, _, rfl, Int.mul_ne_zero (by omega) (by omega), log2_mul4 b1.2 b2.2, rfl⟩).is ?_)
  show pair (Rat.divInt _ _) = pair (x - y)
  rw [← Rat.divInt_sub_divInt _ _ (by omega) (by omega), ex, ey]
def RlTimes : List D → D → Prop := fun ds r => ∃ (x : Rat) (y : D) (c d : Int), ds = [pair x, y] ∧ items y = some [.int c, .int d] ∧ 0 < d ∧ Hb 4490 x ∧ B4 c d ∧ r = pair (x * rt c d)
theorem sc_ltimes : FnScope ["_law_one", "_law_two"] ["_law_one", "_law_two"] (defScope (top 42)) := ⟨rfl, rfl, rfl, by decide +kernel, rfl, by decide +kernel, by decide +kernel⟩
theorem fn_ltimes (hQ : FnS P w K mg base k C "_law_q" RlQ) (F : FnP K "_law_times" "_law_times" (top 42) f fd) (hm : mg "_law_times" = some (.ref f)) : FnS P w K mg base (k + 1) C "_law_times" RlTimes := by
  refine fn_pure F hm sc_ltimes (F.bindsN fun _ _ _ _ _ _ us hl => match us, hl with | [_, _], _ => rfl) (fun ds r h => by obtain ⟨x, y, c, d, rfl, _⟩ := h; rfl) ?_
  rintro cdv A outer s H E ds r hr ⟨x, y, c, d, rfl, hy, hd, h1, b2, rfl⟩
  intro O H0 vs De hw hn hrt hnx
  have S : Stt C O H0 H0 (start ["_law_one", "_law_two"] vs) [some (pair x), some y] (ownA O H0) := Stt.start hw hn ownA_refl
  have b1 := h1.b4
  have dx := x.den_pos
  have ex : Rat.divInt x.num x.den = x := Rat.num_divInt_den x
  refine gq_retP S hrt ((ge_call hQ hr (ga_two (ge_mul (ge_ix (ge_var 0) ge_int rfl rfl) (ge_ix (ge_var 1) ge_int hy rfl) (cmul4 b1.1 b2.1)) (ge_mul (ge_ix (ge_var 0) ge_int rfl rfl) (ge_ix (ge_var 1) ge_int hy rfl) (cmul4 b1.2 b2.2))) ⟨_, _, rfl, Int.mul_ne_zero (by omega) (by omega), log2_mul4 b1.2 b2.2, rfl⟩).is ?_)
  show pair (Rat.divInt _ _) = pair (x * Rat.divInt c d)
  rw [← Rat.divInt_mul_divInt, ex]
theorem lt_pair {x y : Rat} (hx : Hb 4490 x) (hy : Hb 4490 y) : RlTimes [pair x, pair y] (pair (x * y)) := ⟨x, pair y, y.num, y.den, rfl, rfl, by have := y.den_pos; omega, hx, hy.b4, by rw [rt_self]⟩
theorem sc_lshare : FnScope ["_law_one", "_law_two"] ["_law_one", "_law_two"] (defScope (top 43)) := ⟨rfl, rfl, rfl, by decide +kernel, rfl, by decide +kernel, by decide +kernel⟩
theorem fn_lshare (hQ : FnS P w K mg base k C "_law_q" RlQ) (F : FnP K "_law_share" "_law_share" (top 43) f fd) (hm : mg "_law_share" = some (.ref f)) : FnS P w K mg base (k + 1) C "_law_share" RlShare := by
  refine fn_pure F hm sc_lshare (F.bindsN fun _ _ _ _ _ _ us hl => match us, hl with | [_, _], _ => rfl) (fun ds r h => by obtain ⟨x, y, rfl, _⟩ := h; rfl) ?_
  rintro cdv A outer s H E ds r hr ⟨x, y, rfl, h1, h2, h3, rfl⟩
  intro O H0 vs De hw hn hrt hnx
  have S : Stt C O H0 H0 (start ["_law_one", "_law_two"] vs) [some (pair x), some (pair y)] (ownA O H0) := Stt.start hw hn ownA_refl
  have b1 := h1.b4
  have b2 := h2.b4
  have dx := x.den_pos
  have dy := y.den_pos
  have ex : Rat.divInt x.num x.den = x := Rat.num_divInt_den x
  have ey : Rat.divInt y.num y.den = y := Rat.num_divInt_den y
  have hy : y.num ≠ 0 := fun z => h3 (Rat.num_eq_zero.mp z)
  refine gq_retP S hrt ((ge_call hQ hr (ga_two (ge_mul (ge_ix (ge_var 0) ge_int rfl rfl) (ge_ix (ge_var 1) ge_int rfl rfl) (cmul4 b1.1 b2.2)) (ge_mul (ge_ix (ge_var 0) ge_int rfl rfl) (ge_ix (ge_var 1) ge_int rfl rfl) (cmul4 b1.2 b2.1))) ⟨_, _, rfl, Int.mul_ne_zero (by omega) hy, log2_mul4 b1.2 b2.1, rfl⟩).is ?_)
  show pair (Rat.divInt _ _) = pair (x / y)
  rw [← Rat.divInt_mul_divInt, ← Rat.inv_divInt y.num, ex, ey, Rat.div_def]
theorem sc_lless : FnScope ["_law_one", "_law_two"] ["_law_one", "_law_two"] (defScope (top 44)) := ⟨rfl, rfl, rfl, by decide +kernel, rfl, by decide +kernel, by decide +kernel⟩
theorem fn_lless (F : FnP K "_law_less" "_law_less" (top 44) f fd) (hm : mg "_law_less" = some (.ref f)) : FnS P w K mg base (k + 1) C "_law_less" RlLess := by
  refine fn_pure F hm sc_lless (F.bindsN fun _ _ _ _ _ _ us hl => match us, hl with | [_, _], _ => rfl) (fun ds r h => by obtain ⟨x, y, rfl, _⟩ := h; rfl) ?_
  rintro cdv A outer s H E ds r hr ⟨x, y, rfl, h1, h2, rfl⟩
  intro O H0 vs De hw hn hrt hnx
  have S : Stt C O H0 H0 (start ["_law_one", "_law_two"] vs) [some (pair x), some (pair y)] (ownA O H0) := Stt.start hw hn ownA_refl
  have b1 := h1.b4
  have b2 := h2.b4
  exact gq_retP S hrt (ge_lt (ge_mul (ge_ix (ge_var 0) ge_int rfl rfl) (ge_ix (ge_var 1) ge_int rfl rfl) (cmul4 b1.1 b2.2)) (ge_mul (ge_ix (ge_var 1) ge_int rfl rfl) (ge_ix (ge_var 0) ge_int rfl rfl) (cmul4 b2.1 b1.2)))
def RlIsWhole : List D → D → Prop := RisWhole
theorem sc_liw : FnScope ["_law_thing"] ["_law_thing"] (defScope (top 37)) := ⟨rfl, rfl, rfl, by decide +kernel, rfl, by decide +kernel, by decide +kernel⟩
theorem fn_liw (g : Gs K mg C) (F : FnP K "_law_is_whole" "_law_is_whole" (top 37) f fd) (hm : mg "_law_is_whole" = some (.ref f)) : FnS P w K mg base (k + 1) C "_law_is_whole" (fun ds r => ∃ i, ds = [.int i] ∧ r = .bl true) := by
  refine fn_pure F hm sc_liw (F.bindsN fun _ _ _ _ _ _ us hl => match us, hl with | [_], _ => rfl) (fun ds r h => by obtain ⟨d, rfl, _⟩ := h; rfl) ?_
  rintro cdv A outer s H E ds r hr ⟨i, rfl, rfl⟩
  intro O H0 vs De hw hn hrt hnx
  have S : Stt C O H0 H0 (start ["_law_thing"] vs) [some (.int i)] (ownA O H0) := Stt.start hw hn ownA_refl
  exact gq_retP S hrt ((ge_and (ge_isi (g.f "isinstance") (ge_var 0) (ge_int_ty (g.f "int")) rfl (by rfl)) (fun h => ge_not (ge_isi (g.f "isinstance") (ge_var 0) (ge_bool_ty (g.f "bool")) rfl (by rfl)))).is rfl)
def RlIs : List D → D → Prop := fun ds r => ∃ a b : Bool, ds = [.bl a, .bl b] ∧ r = .bl (decide (a = b))
theorem sc_lis : FnScope ["_law_value", "_law_due"] ["_law_value", "_law_due"] (defScope (top 62)) := ⟨rfl, rfl, rfl, by decide +kernel, rfl, by decide +kernel, by decide +kernel⟩
theorem fn_lis (F : FnP K "_law_is" "_law_is" (top 62) f fd) (hm : mg "_law_is" = some (.ref f)) : FnS P w K mg base (k + 1) C "_law_is" RlIs := by
  refine fn_pure F hm sc_lis (F.bindsN fun _ _ _ _ _ _ us hl => match us, hl with | [_, _], _ => rfl) (fun ds r h => by obtain ⟨x, y, rfl, _⟩ := h; rfl) ?_
  rintro cdv A outer s H E ds r hr ⟨a, b, rfl, rfl⟩
  intro O H0 vs De hw hn hrt hnx
  have S : Stt C O H0 H0 (start ["_law_value", "_law_due"] vs) [some (.bl a), some (.bl b)] (ownA O H0) := Stt.start hw hn ownA_refl
  exact gq_retP S hrt (ge_if (k := b) (gt_val (ge_var 1)) (fun z => (ge_isB (ge_var 0) ge_bl).is (by rw [z])) (fun z => (ge_isB (ge_var 0) ge_bl).is (by rw [z])))
end
end TM
/-! ## LwPoly -/
set_option Elab.async false
set_option linter.all false
set_option maxRecDepth 100000
set_option maxHeartbeats 4000000
set_option exponentiation.threshold 100000
/-! LwPoly: the law's own rows: _law_poly, _law_p_plus, _law_p_scaled, _law_p_minus. -/
namespace TM
open PySem L2 PySem.Spec PyProof.Rows
theorem gt_imp {C : Addr} {X : Cx} {O : Addr → Prop} {ρ : Env} {I J : Asr} {e : Expr} {a b : Bool} (h : GT C X O ρ I e J (· = a)) (e1 : a = b) : GT C X O ρ I e J (· = b) := e1 ▸ h
theorem last_take {a : List Rat} {m : Nat} (h0 : 0 < m) (hm : m ≤ a.length) : atI (prs (a.take m)) (-1) = some (pair (cf a (m - 1))) := by
  have hne : a.take m ≠ [] := fun z => by
    have h := congrArg List.length z
    rw [List.length_take, Nat.min_eq_left hm] at h
    simp only [List.length_nil] at h
    omega
  rw [prs_last hne, List.length_take, Nat.min_eq_left hm]
  congr 2
  rw [cf_in (by rw [List.length_take]; omega), cf_in (by omega), List.getElem_take]
theorem drop_take {a : List Rat} {m : Nat} : (prs (a.take m)).dropLast = prs (a.take (m - 1)) ∨ a.length < m := by
  by_cases hm : m ≤ a.length
  · left
    unfold prs
    rw [← List.map_dropLast, List.dropLast_eq_take, List.length_take, Nat.min_eq_left hm, List.take_take, Nat.min_eq_left (by omega)]
  · right
    omega
section
variable {P : Program} {w : World} {K : PySem.W.Frag} {mg : Str → Option Value} {base : Heap} {f : Addr} {fd : FuncData} {C : Addr} {k : Nat}
def RlPoly : List D → D → Prop := fun ds r => ∃ qs : List Rat, ds = [.lst (prs qs)] ∧ qs.length ≤ 1000 ∧ r = .lst (prs (trim qs))
theorem sc_lpoly : FnScope ["_law_numbers", "_law_found", "_law_lap"] ["_law_numbers"] (defScope (top 47)) := ⟨rfl, rfl, rfl, by decide +kernel, rfl, by decide +kernel, by decide +kernel⟩
theorem gq_retO {C : Addr} {X : Cx} {O : Addr → Prop} {ρ : Env} {H0 H : Hp} {σ : L2.St} {De : Ends} {rest : List Stmt} {e : Expr} {pos : Pos} {r : D} {qs : Ql} {q : Addr} {ds : List D} (i : Nat) (S : Stt C (owO O qs) H0 H σ ρ (owA C O H0 qs)) (n : Nq O H0 qs) (hp : (q, ds) ∈ qs) (hi : ρ[i]? = some (some (.val (.ref q))))
    (hrt : ∀ v H', Ext O H0 H' → (ownA O H0).P H' → Dn C O H' v r → De.rt v H') (h : GE C X O (ρ.set i (some (.lst ds))) (ownA O H0) e (ownA O H0) (Is r)) : ssw X (.Return (some e) pos :: rest) De σ H := by
  obtain ⟨S1, un⟩ := S.unown n
  exact gq_retP (S1.reset i hi (un _ hp)) hrt h
theorem fn_lpoly (g : Gs K mg C) (F : FnP K "_law_poly" "_law_poly" (top 47) f fd) (hm : mg "_law_poly" = some (.ref f)) : FnS P w K mg base (k + 1) C "_law_poly" RlPoly := by
  refine fn_pure F hm sc_lpoly (F.bindsN fun _ _ _ _ _ _ us hl => match us, hl with | [_], _ => rfl) (fun ds r h => by obtain ⟨x, rfl, _⟩ := h; rfl) ?_
  rintro cdv A outer s H E ds r hr ⟨qs, rfl, hl, rfl⟩
  intro O H0 vs De hw hn hrt hnx
  have S : Stt C O H0 H0 (start ["_law_numbers", "_law_found", "_law_lap"] vs) [some (.lst (prs qs)), none, none] (ownA O H0) := Stt.start hw hn ownA_refl
  refine gq_newO 1 S sc_lpoly.nd (evN_list (x := "list") (g.f "list") (ge_var 0) rfl) (fun q σ1 H1 nq S1 => ?_)
  have e0 : prs qs = prs (qs.take (qs.length - 0)) := by rw [Nat.sub_zero, List.take_length]
  have nq0 : Nq O H0 [(q, prs (qs.take (qs.length - 0)))] := by rw [← e0]; exact nq
  have S1' : Stt C (owO O [(q, prs (qs.take (qs.length - 0)))]) H0 H1 σ1 [some (.lst (prs qs)), some (.val (.ref q)), none] (owA C O H0 [(q, prs (qs.take (qs.length - 0)))]) := by rw [← e0]; exact S1
  clear S1
  have wl : ((prs qs).length : Int) = qs.length := by rw [prs_len]
  have ll : ((qs.length : Int)).toNat = qs.length := Int.toNat_natCast _
  refine gq_for S1' PassesOwn.never rfl (gi_range1 (n := (qs.length : Int)) (g.f "range") ((ge_len (g.f "len") (ge_var 0) rfl).is (by rw [wl])) (by omega) (by omega)) (tg_name (i := 2) (vs := [2]) sc_lpoly.nd rfl (.inl rfl) (by simp)) (fun i hi => trivial)
    (fun t ρ I => I = owA C O H0 [(q, prs (qs.take (qs.length - t)))] ∧ Nq O H0 [(q, prs (qs.take (qs.length - t)))] ∧ (∀ i, qs.length - t ≤ i → cf qs i = 0) ∧ ∃ y, ρ = [some (.lst (prs qs)), some (.val (.ref q)), y]) ⟨rfl, nq0, fun i hi => cf_out (by omega), none, rfl⟩ ?_ ?_
  · rintro H2 e2 t ρ' I' σ' H' ht ⟨rfl, nqt, hz, y, rfl⟩ S2
    rw [ll] at ht
    have S2' : Stt C (owO O [(q, prs (qs.take (qs.length - t)))]) H2 H' σ' [some (.lst (prs qs)), some (.val (.ref q)), some (.int (t : Nat))] (owA C O H0 [(q, prs (qs.take (qs.length - t)))]) := S2
    clear S2
    have hlen : (qs.take (qs.length - t)).length = qs.length - t := by rw [List.length_take]; omega
    have hne : prs (qs.take (qs.length - t)) ≠ [] := fun z => by
      have := congrArg List.length z
      rw [prs_len, hlen] at this
      simp at this
      omega
    have hemp : (prs (qs.take (qs.length - t))).isEmpty = false := by
      cases hc : prs (qs.take (qs.length - t)) with
      | nil => exact absurd hc hne
      | cons a b => rfl
    refine gq_ifP S2' (k := !decide ((cf qs (qs.length - t - 1)).num = 0)) (gt_imp (gt_or (k1 := false) (gt_imp (gt_lend (q := q) (ds := prs (qs.take (qs.length - t))) 1 (by simp) nqt rfl (gt_eqD hr (ge_var 1) (ge_lst ga_nil) (fit_prsL _) rfl)) (by rw [eqv_nilL, hemp]))
        (fun _ => gt_neI (ge_ix (ge_ixO (q := q) (ds := prs (qs.take (qs.length - t))) (by simp) (ge_var 1) (ge_neg ge_int) (last_take (by omega) (by omega))) ge_int rfl rfl) ge_int)) (by rw [Bool.false_or])) (fun h H3 S3 => gq_break ?_) (fun h H3 S3 => gq_nil ?_)
    · have hnz : cf qs (qs.length - t - 1) ≠ 0 := fun z => by rw [z] at h; simp at h
      have et : trim qs = qs.take (qs.length - t) := trim_of (by omega) (fun i x hx hi => by
        have := hz i hi
        rwa [cf_some hx] at this) (.inr ⟨cf qs (qs.length - t - 1), by rw [cf_in (by omega)]; exact List.getElem?_eq_getElem (by omega), hnz⟩)
      refine gq_retO (q := q) (ds := prs (qs.take (qs.length - t))) 1 (S3.rebase (fun b o nb hb => e2 b o nb hb)) nqt (by simp) rfl hrt ((ge_var 1).is (by rw [et]))
    · have hzz : cf qs (qs.length - t - 1) = 0 := by simpa [q_num_ne] using h
      refine gq_popO (q := q) (ds := prs (qs.take (qs.length - t))) [] [] S3 nqt (ge_var 1) hne (fun H4 nq4 S4 => gq_nil ?_)
      have ed : (prs (qs.take (qs.length - t))).dropLast = prs (qs.take (qs.length - (t + 1))) := by
        rcases drop_take (a := qs) (m := qs.length - t) with h | h
        · rw [h, show qs.length - t - 1 = qs.length - (t + 1) from by omega]
        · omega
      rw [ed] at S4 nq4
      refine ⟨_, _, ⟨rfl, nq4, fun i hi => ?_, _, rfl⟩, S4⟩
      by_cases hc : i = qs.length - t - 1
      · rw [hc]; exact hzz
      · exact hz i (by omega)
  · rintro ρ' I' σ' H' ⟨rfl, nqt, hz, y, rfl⟩ S2
    rw [ll] at nqt hz S2
    have et : trim qs = qs.take (qs.length - qs.length) := trim_of (by omega) (fun i x hx hi => by
      have := hz i hi
      rwa [cf_some hx] at this) (.inl (by omega))
    have S2' : Stt C (owO O [(q, prs (qs.take (qs.length - qs.length)))]) H0 H' σ' [some (.lst (prs qs)), some (.val (.ref q)), y] (owA C O H0 [(q, prs (qs.take (qs.length - qs.length)))]) := S2
    exact gq_retO (q := q) (ds := prs (qs.take (qs.length - qs.length))) 1 S2' nqt (by simp) rfl hrt ((ge_var 1).is (by rw [et]))
def RlPlus2 : List D → D → Prop := fun ds r => ∃ a b : List Rat, ds = [.lst (prs a), .lst (prs b)] ∧ a.length ≤ 100 ∧ b.length ≤ 100 ∧ CD 2200 a ∧ CD 2200 b ∧ r = .lst (prs (addL 1 a b))
theorem sc_lpplus : FnScope ["_law_one", "_law_two", "_law_many", "_law_first", "_law_second", "_law_a", "_law_b"] ["_law_one", "_law_two"] (defScope (top 48)) := ⟨rfl, rfl, rfl, by decide +kernel, rfl, by decide +kernel, by decide +kernel⟩
theorem fn_lpplus (g : Gs K mg C) (hP : FnS P w K mg base k C "_law_plus" (Rl2 (· + ·))) (hZ : FnS P w K mg base k C "_law_poly" RlPoly) (F : FnP K "_law_p_plus" "_law_p_plus" (top 48) f fd) (hm : mg "_law_p_plus" = some (.ref f)) : FnS P w K mg base (k + 1) C "_law_p_plus" RlPlus2 := by
  refine fn_pure F hm sc_lpplus (F.bindsN fun _ _ _ _ _ _ us hl => match us, hl with | [_, _], _ => rfl) (fun ds r h => by obtain ⟨a, b, rfl, _⟩ := h; rfl) ?_
  rintro cdv A outer s0 H E ds r hr ⟨a, b, rfl, la, lb, ca, cb, rfl⟩
  intro O H0 vs De hw hn hrt hnx
  have S : Stt C O H0 H0 (start ["_law_one", "_law_two", "_law_many", "_law_first", "_law_second", "_law_a", "_law_b"] vs) [some (.lst (prs a)), some (.lst (prs b)), none, none, none, none, none] (ownA O H0) := Stt.start hw hn ownA_refl
  have wm : (max (a.length : Int) (b.length : Int)) = ((max a.length b.length : Nat) : Int) := by omega
  have wa : ((prs a).length : Int) = a.length := by rw [prs_len]
  have wb : ((prs b).length : Int) = b.length := by rw [prs_len]
  refine gq_setP (d := .int ((max a.length b.length : Nat) : Int)) 2 S sc_lpplus.nd ((ge_max2 rfl (g.f "max") (ge_lst (ga_two (ge_len (g.f "len") (ge_var 0) rfl) (ge_len (g.f "len") (ge_var 1) rfl)))).is (by rw [wa, wb, wm])) (fun σ1 H1 S1 => ?_)
  refine gq_par (d1 := .lst (prs (padL a (max a.length b.length)))) (d2 := .lst (prs (padL b (max a.length b.length)))) 3 4 S1 rfl sc_lpplus.nd (ga_two ((ge_cat (ge_var 0) (ge_rep (ds := [pair 0]) (n := ((max a.length b.length : Nat) : Int) - (a.length : Int)) (ge_lst (ga_one (ge_tup (ga_two ge_int ge_int)))) ((ge_sub (ge_var 2) (ge_len (g.f "len") (ge_var 0) rfl)).is (by rw [wa])) (by omega) (by omega) (by simp)) ?_).is (by rw [pad_prs]))
    ((ge_cat (ge_var 1) (ge_rep (ds := [pair 0]) (n := ((max a.length b.length : Nat) : Int) - (b.length : Int)) (ge_lst (ga_one (ge_tup (ga_two ge_int ge_int)))) ((ge_sub (ge_var 2) (ge_len (g.f "len") (ge_var 1) rfl)).is (by rw [wb])) (by omega) (by omega) (by simp)) ?_).is (by rw [pad_prs]))) (fun σ3 H3 S3 => ?_)
  · rw [prs_len]
    simp
    omega
  · rw [prs_len]
    simp
    omega
  have l1 : (prs (padL a (max a.length b.length))).length = max a.length b.length := by rw [prs_len, padL_len (by omega)]
  have l2 : (prs (padL b (max a.length b.length))).length = max a.length b.length := by rw [prs_len, padL_len (by omega)]
  refine gq_retP S3 hrt (ge_call hZ hr (ga_one ((ge_lc (g := fun i => pair (cf a i + 1 * cf b i)) rfl sc_lpplus.nd (gi_zipL (g.f "zip") (ge_var 3) (ge_var 4) (by rw [l1, l2])) (own := [("_law_a", 5), ("_law_b", 6)]) (blkOk_by (by rfl)) (fun b O' => tg_two (i := 5) (j := 6) (vs := [5, 6]) rfl sc_lpplus.nd rfl (.inl rfl) rfl (.inl rfl) (by simp) (by simp)) (fun i hi => ⟨_, _, rfl⟩) (by rw [l1]; omega) (fun b0 O' I' _ i hi => ?_)).is ?_)) ⟨(List.range (max a.length b.length)).map fun i => cf a i + 1 * cf b i, rfl, ?_, rfl⟩)
  · rw [l1] at hi
    have e1 : (prs (padL a (max a.length b.length))).getD i .non = pair (cf a i) := by
      rw [prs_get (by rw [padL_len (by omega)]; exact hi), ← cf_in, padL_cf]
    have e2 : (prs (padL b (max a.length b.length))).getD i .non = pair (cf b i) := by
      rw [prs_get (by rw [padL_len (by omega)]; exact hi), ← cf_in, padL_cf]
    rw [e1, e2]
    exact (ge_call hP hr (ga_two (ge_var 5) (ge_var 6)) ⟨_, _, rfl, (ca.hb i).mono (by omega), (cb.hb i).mono (by omega), rfl⟩).is (by rw [Rat.one_mul])
  · rw [l1]
    unfold prs
    rw [List.map_map]
    rfl
  · simp
    omega
def scaleL (a : List Rat) (q : Rat) : List Rat := trim (a.map fun x => x * q)
def RlScaled : List D → D → Prop := fun ds r => ∃ (a : List Rat) (y : D) (c d : Int), ds = [.lst (prs a), y] ∧ items y = some [.int c, .int d] ∧ 0 < d ∧ a.length ≤ 1000 ∧ (∀ q ∈ a, Hb 4490 q) ∧ B4 c d ∧ r = .lst (prs (scaleL a (rt c d)))
theorem sc_lscaled : FnScope ["_law_one", "_law_by", "_law_a"] ["_law_one", "_law_by"] (defScope (top 49)) := ⟨rfl, rfl, rfl, by decide +kernel, rfl, by decide +kernel, by decide +kernel⟩
theorem fn_lscaled (g : Gs K mg C) (hP : FnS P w K mg base k C "_law_times" RlTimes) (hZ : FnS P w K mg base k C "_law_poly" RlPoly) (F : FnP K "_law_p_scaled" "_law_p_scaled" (top 49) f fd) (hm : mg "_law_p_scaled" = some (.ref f)) : FnS P w K mg base (k + 1) C "_law_p_scaled" RlScaled := by
  refine fn_pure F hm sc_lscaled (F.bindsN fun _ _ _ _ _ _ us hl => match us, hl with | [_, _], _ => rfl) (fun ds r h => by obtain ⟨a, y, c, d, rfl, _⟩ := h; rfl) ?_
  rintro cdv A outer s0 H E ds r hr ⟨a, y, c, d, rfl, hy, hd, la, ha, b2, rfl⟩
  intro O H0 vs De hw hn hrt hnx
  have S : Stt C O H0 H0 (start ["_law_one", "_law_by", "_law_a"] vs) [some (.lst (prs a)), some y, none] (ownA O H0) := Stt.start hw hn ownA_refl
  refine gq_retP S hrt (ge_call hZ hr (ga_one ((ge_lc (g := fun i => pair (cf a i * rt c d)) rfl sc_lscaled.nd (gi_list (ge_var 0)) (own := [("_law_a", 2)]) (blkOk_by (by rfl)) (fun b O' => tg_name (i := 2) (vs := [2]) sc_lscaled.nd rfl (.inl rfl) (by simp)) (fun i hi => trivial) (by rw [prs_len]; omega) (fun b0 O' I' _ i hi => ?_)).is ?_)) ⟨a.map fun x => x * rt c d, rfl, by simpa using la, rfl⟩)
  · rw [prs_len] at hi
    rw [prs_get hi, ← cf_in hi]
    exact ge_call hP hr (ga_two (ge_var 2) (ge_var 1)) ⟨_, _, c, d, rfl, hy, hd, by rw [cf_in hi]; exact ha _ (List.getElem_mem hi), b2, rfl⟩
  · rw [prs_len, ← range_getD (fun x => x * rt c d) 0 a]
    unfold prs
    rw [List.map_map]
    rfl
theorem ls_pair {a : List Rat} {q : Rat} (la : a.length ≤ 1000) (ha : ∀ q ∈ a, Hb 4490 q) (hq : Hb 4490 q) : RlScaled [.lst (prs a), pair q] (.lst (prs (scaleL a q))) := ⟨a, pair q, q.num, q.den, rfl, rfl, by have := q.den_pos; omega, la, ha, hq.b4, by rw [rt_self]⟩
def RlMinus2 : List D → D → Prop := fun ds r => ∃ a b : List Rat, ds = [.lst (prs a), .lst (prs b)] ∧ a.length ≤ 100 ∧ b.length ≤ 100 ∧ CD 2200 a ∧ CD 2200 b ∧ CD 2200 (scaleL b (-1)) ∧ r = .lst (prs (addL 1 a (scaleL b (-1))))
theorem sc_lpminus : FnScope ["_law_one", "_law_two"] ["_law_one", "_law_two"] (defScope (top 50)) := ⟨rfl, rfl, rfl, by decide +kernel, rfl, by decide +kernel, by decide +kernel⟩
theorem len_scale (a : List Rat) (q : Rat) : (scaleL a q).length ≤ a.length := by
  unfold scaleL
  refine Nat.le_trans (trim_len _) ?_
  simp
theorem fn_lpminus (hP : FnS P w K mg base k C "_law_p_plus" RlPlus2) (hZ : FnS P w K mg base k C "_law_p_scaled" RlScaled) (F : FnP K "_law_p_minus" "_law_p_minus" (top 50) f fd) (hm : mg "_law_p_minus" = some (.ref f)) : FnS P w K mg base (k + 1) C "_law_p_minus" RlMinus2 := by
  refine fn_pure F hm sc_lpminus (F.bindsN fun _ _ _ _ _ _ us hl => match us, hl with | [_, _], _ => rfl) (fun ds r h => by obtain ⟨a, b, rfl, _⟩ := h; rfl) ?_
  rintro cdv A outer s0 H E ds r hr ⟨a, b, rfl, la, lb, ca, cb, cs, rfl⟩
  intro O H0 vs De hw hn hrt hnx
  have S : Stt C O H0 H0 (start ["_law_one", "_law_two"] vs) [some (.lst (prs a)), some (.lst (prs b))] (ownA O H0) := Stt.start hw hn ownA_refl
  have ls := len_scale b (-1)
  exact gq_retP S hrt (ge_call hP hr (ga_two (ge_var 0) (ge_call hZ hr (ga_two (ge_var 1) (ge_tup (ga_two (ge_neg ge_int) ge_int))) (ls_pair (q := -1) (by omega) (fun q hq => (cd_mem cb q hq).mono (by omega)) ⟨by show 1 < 2 ^ 4490; exact Nat.one_lt_two_pow (by omega), by show 1 < 2 ^ 4490; exact Nat.one_lt_two_pow (by omega)⟩))) ⟨a, _, rfl, la, by omega, ca, cs, rfl⟩)
end
end TM
/-! ## MtMul -/
set_option Elab.async false
set_option linter.all false
set_option exponentiation.threshold 100000
/-! MtMul: the product by adding up; Horner's sizes. -/
namespace TM
def pcF (a b : List Rat) (j t : Nat) : Rat := if t ≤ j then cf a t * cf b (j - t) else 0
def pc (a b : List Rat) (i j : Nat) : Rat := sumR i (pcF a b j)
theorem pc_succ (a b : List Rat) (i j : Nat) : pc a b (i + 1) j = pc a b i j + (if i ≤ j then cf a i * cf b (j - i) else 0) := rfl
theorem pc_all (a b : List Rat) (j : Nat) : pc a b a.length j = convL a b j := by
  unfold pc convL
  by_cases h : a.length ≤ j + 1
  · have e : j + 1 = a.length + (j + 1 - a.length) := by omega
    have e2 : sumR (j + 1) (fun t => cf a t * cf b (j - t)) = sumR (a.length + (j + 1 - a.length)) (fun t => cf a t * cf b (j - t)) := by rw [← e]
    rw [e2, sumR_add, sumR_zero (n := j + 1 - a.length) (f := fun i => cf a (a.length + i) * cf b (j - (a.length + i)))]
    · rw [sumR_congr (g := fun t => cf a t * cf b (j - t)) fun t ht => by unfold pcF; rw [if_pos (by omega)]]
      grind
    · intro i _
      rw [cf_out (l := a) (by omega)]
      grind
  · have e : a.length = (j + 1) + (a.length - (j + 1)) := by omega
    have e2 : sumR a.length (pcF a b j) = sumR ((j + 1) + (a.length - (j + 1))) (pcF a b j) := by rw [← e]
    rw [e2, sumR_add, sumR_zero (n := a.length - (j + 1)) (f := fun i => pcF a b j (j + 1 + i))]
    · rw [sumR_congr (f := pcF a b j) (g := fun t => cf a t * cf b (j - t)) fun t ht => by unfold pcF; rw [if_pos (by omega)]]
      grind
    · intro i _
      unfold pcF
      rw [if_neg (by omega)]
def rowT (a b : List Rat) (N i k : Nat) : List Rat := (List.range N).map fun j => if j < i + k then pc a b (i + 1) j else pc a b i j
theorem rowT_zero (a b : List Rat) (N i : Nat) : rowT a b N i 0 = (List.range N).map (pc a b i) := by
  unfold rowT
  refine List.map_congr_left fun j _ => ?_
  split
  · rw [pc_succ, if_neg (by omega)]
    grind
  · rfl
theorem rowT_all (a b : List Rat) (N i : Nat) : rowT a b N i b.length = (List.range N).map (pc a b (i + 1)) := by
  unfold rowT
  refine List.map_congr_left fun j _ => ?_
  split
  · rfl
  · rw [pc_succ]
    split
    · rw [cf_out (l := b) (by omega)]
      grind
    · grind
theorem rowT_succ (a b : List Rat) (N i k : Nat) : (rowT a b N i k).set (i + k) (pc a b i (i + k) + cf a i * cf b k) = rowT a b N i (k + 1) := by
  unfold rowT
  rw [set_range]
  refine List.map_congr_left fun j _ => ?_
  by_cases h1 : j = i + k
  · subst h1
    rw [if_pos rfl, if_pos (by omega), pc_succ, if_pos (by omega), show i + k - i = k from by omega]
  · rw [if_neg h1]
    by_cases h2 : j < i + k
    · rw [if_pos h2, if_pos (by omega)]
    · rw [if_neg h2, if_neg (by omega)]
theorem cf_rowT {a b : List Rat} {N i k : Nat} (h : i + k < N) : cf (rowT a b N i k) (i + k) = pc a b i (i + k) := by
  unfold rowT
  rw [cf_map, if_pos h, if_neg (by omega)]
theorem trim_rowT (a b : List Rat) : trim ((List.range (a.length + b.length - 1)).map (pc a b a.length)) = mulL a b := by
  unfold mulL
  refine ext_cf (tr_trim _) (tr_trim _) fun j => ?_
  rw [cf_trim, cf_trim, cf_map, cf_map, pc_all]
  by_cases h1 : j < a.length + b.length - 1
  · rw [if_pos h1, if_pos (by omega)]
  · rw [if_neg h1]
    split
    · unfold convL
      refine (sumR_zero fun t ht => ?_).symm
      by_cases h2 : t < a.length
      · rw [cf_out (l := b) (by omega)]
        grind
      · rw [cf_out (l := a) (by omega)]
        grind
    · rfl
theorem hb_pc {n m : Nat} {a b : List Rat} (ha : CD n a) (hb : CD m b) (i j : Nat) (hi : i < 1024) : Hb (n + m + 10) (pc a b i j) := by
  obtain ⟨D, d0, d1, d2⟩ := ha
  obtain ⟨E, e0, e1, e2⟩ := hb
  have hDE : 0 < D * E := Nat.mul_pos d0 e0
  have hlt : D * E < 2 ^ (n + m) := by
    rw [Nat.pow_add]
    exact Nat.mul_lt_mul'' d1 e1
  obtain ⟨z, z1, z2⟩ := sum_div (D := D * E) (M := 2 ^ (n + m)) hDE i (f := pcF a b j) fun t ht => by
    unfold pcF
    split
    · obtain ⟨x, x1, x2⟩ := d2 t
      obtain ⟨y, y1, y2⟩ := e2 (j - t)
      refine ⟨x * y, ?_, ?_⟩
      · rw [Int.natAbs_mul, Nat.pow_add]
        exact Nat.mul_le_mul (Nat.le_of_lt x1) (Nat.le_of_lt y1)
      · rw [x2, y2, Rat.divInt_mul_divInt, Int.natCast_mul]
    · exact ⟨0, by simp, by rw [Rat.divInt_eq_div]; simp; grind⟩
  unfold pc
  rw [z2]
  have h2 : 2 ^ (n + m) < 2 ^ (n + m + 10) := Nat.pow_lt_pow_right (by omega) (by omega)
  refine hb_div hDE (Nat.lt_of_le_of_lt z1 ?_) (by omega)
  rw [Nat.pow_add _ (n + m), Nat.mul_comm]
  exact Nat.mul_lt_mul_of_pos_left (by omega) (Nat.two_pow_pos _)
theorem hb_add {n m : Nat} {x y : Rat} (hx : Hb n x) (hy : Hb m y) : Hb (n + m + 1) (x + y) := by
  have xd := x.den_pos
  have yd := y.den_pos
  have e : x + y = Rat.divInt (x.num * y.den + y.num * x.den) ((x.den * y.den : Nat) : Int) := by
    conv => lhs; rw [← Rat.num_divInt_den x, ← Rat.num_divInt_den y]
    rw [Rat.divInt_add_divInt _ _ (by omega) (by omega), Int.natCast_mul]
  rw [e]
  have hp : 2 ^ (n + m) = 2 ^ n * 2 ^ m := Nat.pow_add ..
  have h2 : 2 ^ (n + m + 1) = 2 ^ (n + m) + 2 ^ (n + m) := by rw [Nat.pow_succ]; omega
  have b1 : (x.num * (y.den : Int)).natAbs < 2 ^ (n + m) := by
    rw [Int.natAbs_mul, hp]
    exact Nat.mul_lt_mul'' hx.1 (by simpa using hy.2)
  have b2 : (y.num * (x.den : Int)).natAbs < 2 ^ (n + m) := by
    rw [Int.natAbs_mul, hp, Nat.mul_comm]
    exact Nat.mul_lt_mul'' (by simpa using hx.2) hy.1
  have b3 : x.den * y.den < 2 ^ (n + m) := by
    rw [hp]
    exact Nat.mul_lt_mul'' hx.2 hy.2
  exact hb_div (Nat.mul_pos xd yd) (by omega) (by omega)
end TM
/-! ## LwPoly2 -/
set_option Elab.async false
set_option linter.all false
set_option maxRecDepth 100000
set_option maxHeartbeats 4000000
set_option exponentiation.threshold 100000
/-! LwPoly2: _law_p_times, _law_p_at, _law_p_slope, _law_p_moved. -/
namespace TM
open PySem L2 PySem.Spec PyProof.Rows
section
variable {P : Program} {w : World} {K : PySem.W.Frag} {mg : Str → Option Value} {base : Heap} {f : Addr} {fd : FuncData} {C : Addr} {k : Nat}
def RlTimes2 : List D → D → Prop := fun ds r => ∃ (a b : List Rat) (n m : Nat), ds = [.lst (prs a), .lst (prs b)] ∧ a.length ≤ 400 ∧ b.length ≤ 400 ∧ CD n a ∧ CD m b ∧ n + m ≤ 4400 ∧ r = .lst (prs (mulL a b))
theorem sc_lptimes : FnScope ["_law_one", "_law_two", "_law_found", "_law_i", "_law_k"] ["_law_one", "_law_two"] (defScope (top 51)) := ⟨rfl, rfl, rfl, by decide +kernel, rfl, by decide +kernel, by decide +kernel⟩
theorem fn_lptimes (g : Gs K mg C) (hP : FnS P w K mg base k C "_law_plus" (Rl2 (· + ·))) (hT : FnS P w K mg base k C "_law_times" RlTimes) (hZ : FnS P w K mg base k C "_law_poly" RlPoly) (F : FnP K "_law_p_times" "_law_p_times" (top 51) f fd) (hm : mg "_law_p_times" = some (.ref f)) : FnS P w K mg base (k + 1) C "_law_p_times" RlTimes2 := by
  refine fn_pure F hm sc_lptimes (F.bindsN fun _ _ _ _ _ _ us hl => match us, hl with | [_, _], _ => rfl) (fun ds r h => by obtain ⟨a, b, n, m, rfl, _⟩ := h; rfl) ?_
  rintro cdv A outer s0 H E ds r hr ⟨a, b, n, m, rfl, la, lb, ca, cb, hnm, rfl⟩
  intro O H0 vs De hw hn hrt hnx
  have S : Stt C O H0 H0 (start ["_law_one", "_law_two", "_law_found", "_law_i", "_law_k"] vs) [some (.lst (prs a)), some (.lst (prs b)), none, none, none] (ownA O H0) := Stt.start hw hn ownA_refl
  have wa : ((prs a).length : Int) = a.length := by rw [prs_len]
  have wb : ((prs b).length : Int) = b.length := by rw [prs_len]
  have eN : max 0 ((a.length : Int) + (b.length : Int) - 1) = ((a.length + b.length - 1 : Nat) : Int) := by omega
  refine gq_newO (ds := (List.replicate ((a.length + b.length - 1 : Nat) : Int).toNat [pair 0]).flatten) 2 S sc_lptimes.nd (evN_rep (ge_lst (ga_one (ge_tup (ga_two ge_int ge_int)))) ((ge_max2 rfl (g.f "max") (ge_lst (ga_two ge_int (ge_sub (ge_add (ge_len (g.f "len") (ge_var 0) rfl) (ge_len (g.f "len") (ge_var 1) rfl)) ge_int)))).is (by rw [wa, wb, eN])) (by omega) (by omega) (by simp)) (fun q σ1 H1 nq S1 => ?_)
  have e0 : (List.replicate ((a.length + b.length - 1 : Nat) : Int).toNat [pair 0]).flatten = prs ((List.range (a.length + b.length - 1)).map (pc a b 0)) := by
    rw [Int.toNat_natCast, rep_zero]
    congr 1
    refine List.ext_getElem (by simp) fun i h1 h2 => ?_
    simp only [List.getElem_replicate, List.getElem_map]
    rfl
  have nq0 : Nq O H0 [(q, prs ((List.range (a.length + b.length - 1)).map (pc a b 0)))] := by rw [← e0]; exact nq
  have S1' : Stt C (owO O [(q, prs ((List.range (a.length + b.length - 1)).map (pc a b 0)))]) H0 H1 σ1 [some (.lst (prs a)), some (.lst (prs b)), some (.val (.ref q)), none, none] (owA C O H0 [(q, prs ((List.range (a.length + b.length - 1)).map (pc a b 0)))]) := by rw [← e0]; exact S1
  clear S1
  have lT : ∀ i k, (rowT a b (a.length + b.length - 1) i k).length = a.length + b.length - 1 := fun i k => by unfold rowT; simp
  refine gq_for S1' PassesOwn.never rfl (gi_range1 (n := (a.length : Int)) (g.f "range") ((ge_len (g.f "len") (ge_var 0) rfl).is (by rw [wa])) (by omega) (by omega)) (tg_name (i := 3) (vs := [3]) sc_lptimes.nd rfl (.inl rfl) (by simp)) (fun i hi => trivial)
    (fun i ρ I => I = owA C O H0 [(q, prs ((List.range (a.length + b.length - 1)).map (pc a b i)))] ∧ Nq O H0 [(q, prs ((List.range (a.length + b.length - 1)).map (pc a b i)))] ∧ ∃ y3 y4, ρ = [some (.lst (prs a)), some (.lst (prs b)), some (.val (.ref q)), y3, y4]) ⟨rfl, nq0, _, _, rfl⟩ ?_ ?_
  · rintro H2 e2 i ρ' I' σ' H' hi ⟨rfl, nqi, y3, y4, rfl⟩ S2
    have hi' : i < a.length := by rw [Int.toNat_natCast] at hi; exact hi
    have S2' : Stt C (owO O [(q, prs (rowT a b (a.length + b.length - 1) i 0))]) H2 H' σ' [some (.lst (prs a)), some (.lst (prs b)), some (.val (.ref q)), some (.int (i : Nat)), y4] (owA C O H0 [(q, prs (rowT a b (a.length + b.length - 1) i 0))]) := by
      rw [rowT_zero]
      exact S2
    have nqi' : Nq O H0 [(q, prs (rowT a b (a.length + b.length - 1) i 0))] := by rw [rowT_zero]; exact nqi
    clear S2
    refine gq_for S2' PassesOwn.never rfl (gi_range1 (n := (b.length : Int)) (g.f "range") ((ge_len (g.f "len") (ge_var 1) rfl).is (by rw [wb])) (by omega) (by omega)) (tg_name (i := 4) (vs := [4]) sc_lptimes.nd rfl (.inl rfl) (by simp)) (fun i hi => trivial)
      (fun j ρ I => I = owA C O H0 [(q, prs (rowT a b (a.length + b.length - 1) i j))] ∧ Nq O H0 [(q, prs (rowT a b (a.length + b.length - 1) i j))] ∧ ∃ y4, ρ = [some (.lst (prs a)), some (.lst (prs b)), some (.val (.ref q)), some (.int (i : Nat)), y4]) ⟨rfl, nqi', _, rfl⟩ ?_ ?_
    · rintro H3 e3 j ρ3 I3 σ3 H4 hj ⟨rfl, nqj, y4, rfl⟩ S3
      have hj' : j < b.length := by rw [Int.toNat_natCast] at hj; exact hj
      have S3' : Stt C (owO O [(q, prs (rowT a b (a.length + b.length - 1) i j))]) H3 H4 σ3 [some (.lst (prs a)), some (.lst (prs b)), some (.val (.ref q)), some (.int (i : Nat)), some (.int (j : Nat))] (owA C O H0 [(q, prs (rowT a b (a.length + b.length - 1) i j))]) := S3
      clear S3
      have hx : (i : Int) + (j : Int) = ((i + j : Nat) : Int) := by omega
      have hlt : i + j < a.length + b.length - 1 := by omega
      refine gq_storeO (q := q) (ds := prs (rowT a b (a.length + b.length - 1) i j)) (d := pair (pc a b i (i + j) + cf a i * cf b j)) (i := (i : Int) + (j : Int)) (j := i + j) [] [] S3' nqj
        ((ge_call hP hr (ga_two (ge_ixO (q := q) (ds := prs (rowT a b (a.length + b.length - 1) i j)) (by simp) (ge_var 2) (ge_add (ge_var 3) (ge_var 4)) (prs_atI (j := i + j) hx (by rw [lT]; omega))) (ge_call hT hr (ga_two (ge_ix (ge_var 0) (ge_var 3) rfl (prs_atI (j := i) rfl hi')) (ge_ix (ge_var 1) (ge_var 4) rfl (prs_atI (j := j) rfl hj'))) (lt_pair ((ca.hb i).mono (by omega)) ((cb.hb j).mono (by omega))))) ⟨_, _, rfl, ?_, (hb_mul (ca.hb i) (cb.hb j)).mono (by omega), rfl⟩).is ?_) (ge_var 2) (ge_add (ge_var 3) (ge_var 4)) hx (by rw [prs_len, lT]; omega) (by omega) (fun H8 nq8 S8 => gq_nil ?_)
      · rw [cf_rowT hlt]
      · rw [prs_set, rowT_succ] at S8 nq8
        exact ⟨_, _, ⟨rfl, nq8, _, rfl⟩, S8⟩
      · rw [cf_rowT hlt]
        exact (hb_pc ca cb i _ (by omega)).mono (by omega)
    · rintro ρ3 I3 σ3 H4 ⟨rfl, nqj, y4, rfl⟩ S3
      rw [Int.toNat_natCast, rowT_all] at S3 nqj
      exact gq_nil ⟨_, _, ⟨rfl, nqj, _, _, rfl⟩, S3⟩
  · rintro ρ' I' σ' H' ⟨rfl, nqi, y3, y4, rfl⟩ S2
    rw [Int.toNat_natCast] at S2 nqi
    have S2' : Stt C (owO O [(q, prs ((List.range (a.length + b.length - 1)).map (pc a b a.length)))]) H0 H' σ' [some (.lst (prs a)), some (.lst (prs b)), some (.val (.ref q)), y3, y4] (owA C O H0 [(q, prs ((List.range (a.length + b.length - 1)).map (pc a b a.length)))]) := S2
    exact gq_retO (q := q) (ds := prs ((List.range (a.length + b.length - 1)).map (pc a b a.length))) 2 S2' nqi (by simp) rfl hrt (ge_call hZ hr (ga_one (ge_var 2)) ⟨_, rfl, by simp; omega, by rw [trim_rowT]⟩)
def RlAt : List D → D → Prop := fun ds r => ∃ (a : List Rat) (x : Rat), ds = [.lst (prs a), pair x] ∧ a.length ≤ 8 ∧ (∀ q ∈ a, Hb 100 q) ∧ Hb 100 x ∧ r = pair (evalL a x)
theorem sc_lpat : FnScope ["_law_one", "_law_point", "_law_amount", "_law_number"] ["_law_one", "_law_point"] (defScope (top 52)) := ⟨rfl, rfl, rfl, by decide +kernel, rfl, by decide +kernel, by decide +kernel⟩
theorem fn_lpat (hP : FnS P w K mg base k C "_law_plus" (Rl2 (· + ·))) (hT : FnS P w K mg base k C "_law_times" RlTimes) (F : FnP K "_law_p_at" "_law_p_at" (top 52) f fd) (hm : mg "_law_p_at" = some (.ref f)) : FnS P w K mg base (k + 1) C "_law_p_at" RlAt := by
  refine fn_pure F hm sc_lpat (F.bindsN fun _ _ _ _ _ _ us hl => match us, hl with | [_, _], _ => rfl) (fun ds r h => by obtain ⟨a, x, rfl, _⟩ := h; rfl) ?_
  rintro cdv A outer s0 H E ds r hr ⟨a, x, rfl, la, ha, hx, rfl⟩
  intro O H0 vs De hw hn hrt hnx
  have S : Stt C O H0 H0 (start ["_law_one", "_law_point", "_law_amount", "_law_number"] vs) [some (.lst (prs a)), some (pair x), none, none] (ownA O H0) := Stt.start hw hn ownA_refl
  refine gq_setP (d := pair 0) 2 S sc_lpat.nd (ge_tup (ga_two ge_int ge_int)) (fun σ1 H1 S1 => ?_)
  refine gq_for S1 PassesOwn.never rfl (gi_list (ge_revL (ge_var 0))) (tg_name (i := 3) (vs := [3]) sc_lpat.nd rfl (.inl rfl) (by simp)) (fun i hi => trivial)
    (fun i ρ I => I = ownA O H0 ∧ Hb (201 * i + 1) (hor a x i) ∧ ∃ y, ρ = [some (.lst (prs a)), some (pair x), some (pair (hor a x i)), y]) ⟨rfl, hb_zero (by omega), none, rfl⟩ ?_ ?_
  · rintro H3 e3 i ρ' I' σ' H' hi ⟨rfl, hh, y, rfl⟩ S3
    rw [prs_reverse, prs_len] at hi
    have hi' : i < a.length := by rw [List.length_reverse] at hi; exact hi
    rw [prs_reverse, prs_get hi] at S3
    have hc := ha (a.reverse[i]) (List.mem_reverse.mp (List.getElem_mem hi))
    have hm1 := hb_mul hh hx
    refine gq_setP (d := pair (hor a x (i + 1))) 2 S3 sc_lpat.nd ((ge_call hP hr (ga_two (ge_call hT hr (ga_two (ge_var 2) (ge_var 1)) (lt_pair (hh.mono (by omega)) (hx.mono (by omega)))) (ge_var 3)) ⟨_, _, rfl, hm1.mono (by omega), hc.mono (by omega), rfl⟩).is ?_) (fun σ4 H4 S4 => gq_nil ⟨_, _, ⟨rfl, ?_, _, rfl⟩, S4⟩)
    · rw [hor_succ a x i hi]
    · rw [hor_succ a x i hi]
      exact (hb_add hm1 hc).mono (by omega)
  · rintro ρ' I' σ' H' ⟨rfl, hh, y, rfl⟩ S3
    rw [prs_reverse, prs_len, List.length_reverse, hor_all] at S3
    exact gq_retP S3 hrt (ge_var 2)
def RlSlope : List D → D → Prop := fun ds r => ∃ a : List Rat, ds = [.lst (prs a)] ∧ a.length ≤ 1000 ∧ (∀ q ∈ a, Hb 4490 q) ∧ r = .lst (prs (slopeL a))
theorem sc_lpslope : FnScope ["_law_one", "_law_k"] ["_law_one"] (defScope (top 53)) := ⟨rfl, rfl, rfl, by decide +kernel, rfl, by decide +kernel, by decide +kernel⟩
theorem fn_lpslope (g : Gs K mg C) (hT : FnS P w K mg base k C "_law_times" RlTimes) (hZ : FnS P w K mg base k C "_law_poly" RlPoly) (F : FnP K "_law_p_slope" "_law_p_slope" (top 53) f fd) (hm : mg "_law_p_slope" = some (.ref f)) : FnS P w K mg base (k + 1) C "_law_p_slope" RlSlope := by
  refine fn_pure F hm sc_lpslope (F.bindsN fun _ _ _ _ _ _ us hl => match us, hl with | [_], _ => rfl) (fun ds r h => by obtain ⟨a, rfl, _⟩ := h; rfl) ?_
  rintro cdv A outer s0 H E ds r hr ⟨a, rfl, la, ha, rfl⟩
  intro O H0 vs De hw hn hrt hnx
  have S : Stt C O H0 H0 (start ["_law_one", "_law_k"] vs) [some (.lst (prs a)), none] (ownA O H0) := Stt.start hw hn ownA_refl
  have wa : ((prs a).length : Int) = a.length := by rw [prs_len]
  have et : ((a.length : Int) - 1).toNat = a.length - 1 := by omega
  refine gq_retP S hrt (ge_call hZ hr (ga_one ((ge_lc (g := fun i => pair (((i + 1 : Nat) : Rat) * cf a (i + 1))) rfl sc_lpslope.nd (gi_range2 (m := 1) (n := (a.length : Int)) (g.f "range") ge_int ((ge_len (g.f "len") (ge_var 0) rfl).is (by rw [wa])) (by omega)) (own := [("_law_k", 1)]) (blkOk_by (by rfl)) (fun b O' => tg_name (i := 1) (vs := [1]) sc_lpslope.nd rfl (.inl rfl) (by simp)) (fun i hi => trivial) (by omega) (fun b0 O' I' _ i hi => ?_)).is (d' := .lst (prs (((List.range a.length).map fun (k : Nat) => (k : Rat) * cf a k).drop 1))) ?_)) ⟨_, rfl, ?_, rfl⟩)
  · rw [et] at hi
    refine (ge_call hT hr (ga_two (ge_ix (ge_var 0) (ge_var 1) rfl (prs_atI (j := i + 1) (by omega) (by omega))) (ge_tup (ga_two (ge_var 1) ge_int))) ⟨_, _, _, _, rfl, rfl, by omega, by rw [cf_in (by omega)]; exact ha _ (List.getElem_mem _), ⟨?_, by decide⟩, rfl⟩).is ?_
    · rw [show (1 : Int) + (i : Nat) = ((i + 1 : Nat) : Int) from by omega, rt_nat, Rat.mul_comm]
    · rw [show (1 : Int) + (i : Nat) = ((i + 1 : Nat) : Int) from by omega]
      exact small_log (by omega) (by omega)
  · rw [et]
    unfold prs
    congr 1
    refine List.ext_getElem (by simp) fun i h1 h2 => ?_
    simp [Nat.add_comm]
  · rw [List.length_drop]
    simp
    omega
def RlMoved : List D → D → Prop := fun ds r => ∃ (a : List Rat) (s t : Rat), ds = [.lst (prs a), pair s, pair t] ∧ Hb 50 s ∧ Hb 50 t ∧ a.length ≤ 8 ∧ (∀ q ∈ a, Hb 50 q) ∧ r = .lst (prs (movedL a s t))
theorem sc_lpmoved : FnScope ["_law_one", "_law_start", "_law_step", "_law_found", "_law_line", "_law_number"] ["_law_one", "_law_start", "_law_step"] (defScope (top 54)) := ⟨rfl, rfl, rfl, by decide +kernel, rfl, by decide +kernel, by decide +kernel⟩
theorem fn_lpmoved (hZ : FnS P w K mg base k C "_law_poly" RlPoly) (hP : FnS P w K mg base k C "_law_p_plus" RlPlus2) (hT : FnS P w K mg base k C "_law_p_times" RlTimes2) (F : FnP K "_law_p_moved" "_law_p_moved" (top 54) f fd) (hm : mg "_law_p_moved" = some (.ref f)) : FnS P w K mg base (k + 1) C "_law_p_moved" RlMoved := by
  refine fn_pure F hm sc_lpmoved (F.bindsN fun _ _ _ _ _ _ us hl => match us, hl with | [_, _, _], _ => rfl) (fun ds r h => by obtain ⟨a, s, t, rfl, _⟩ := h; rfl) ?_
  rintro cdv A outer s0 H E ds r hr ⟨a, s, t, rfl, hs, ht, la, ha, rfl⟩
  intro O H0 vs De hw hn hrt hnx
  have S : Stt C O H0 H0 (start ["_law_one", "_law_start", "_law_step", "_law_found", "_law_line", "_law_number"] vs) [some (.lst (prs a)), some (pair s), some (pair t), none, none, none] (ownA O H0) := Stt.start hw hn ownA_refl
  refine gq_par (d1 := .lst (prs [])) (d2 := .lst (prs (trim [s, t]))) 3 4 S rfl sc_lpmoved.nd (ga_two (ge_lst ga_nil) (ge_call hZ hr (ga_one (ge_lst (ga_two (ge_var 1) (ge_var 2)))) ⟨[s, t], rfl, by simp, rfl⟩)) (fun σ1 H1 S1 => ?_)
  have S1' : Stt C O H0 H1 σ1 [some (.lst (prs a)), some (pair s), some (pair t), some (.lst (prs (movedL (a.drop (a.length - 0)) s t))), some (.lst (prs (trim [s, t]))), none] (ownA O H0) := by
    rw [Nat.sub_zero, List.drop_length]
    exact S1
  refine gq_for S1' PassesOwn.never rfl (gi_list (ge_revL (ge_var 0))) (tg_name (i := 5) (vs := [5]) sc_lpmoved.nd rfl (.inl rfl) (by simp)) (fun i hi => trivial)
    (fun i ρ I => I = ownA O H0 ∧ ∃ y, ρ = [some (.lst (prs a)), some (pair s), some (pair t), some (.lst (prs (movedL (a.drop (a.length - i)) s t))), some (.lst (prs (trim [s, t]))), y]) ⟨rfl, none, rfl⟩ ?_ ?_
  · rintro H3 e3 i ρ' I' σ' H' hi ⟨rfl, y, rfl⟩ S3
    rw [prs_reverse, prs_len] at hi
    have hi' : i < a.length := by rw [List.length_reverse] at hi; exact hi
    rw [prs_reverse, prs_get hi, List.getElem_reverse] at S3
    have hc := ha _ (List.getElem_mem (show a.length - 1 - i < a.length by omega))
    have ed : a.drop (a.length - (i + 1)) = a[a.length - 1 - i] :: a.drop (a.length - i) := by
      rw [show a.length - (i + 1) = a.length - 1 - i from by omega, List.drop_eq_getElem_cons (by omega)]
      congr 1
      congr 1
      omega
    obtain ⟨z1, z2⟩ := moved_size hs ht (a.drop (a.length - i)) (by rw [List.length_drop]; omega) fun q hq => ha q (List.mem_of_mem_drop hq)
    have hdl : (a.drop (a.length - i)).length = i := by rw [List.length_drop]; omega
    rw [hdl] at z1 z2
    have line : CD 100 (trim [s, t]) := cd_trim (cd_cons (n := 50) (m := 50) hs (cd_of_hb (by omega) (by simp) (by simpa using ht)))
    have l2 : (trim [s, t]).length ≤ 2 := trim_len _
    have l1 : (trim [a[a.length - 1 - i]]).length ≤ 1 := trim_len _
    have cc : CD 50 (trim [a[a.length - 1 - i]]) := cd_trim (cd_of_hb (by omega) (by simp) (by simpa using hc))
    have ml := len_mul (movedL (a.drop (a.length - i)) s t) (trim [s, t])
    refine gq_setP (d := .lst (prs (movedL (a.drop (a.length - (i + 1))) s t))) 3 S3 sc_lpmoved.nd ((ge_call hP hr (ga_two (ge_call hT hr (ga_two (ge_var 3) (ge_var 4)) ⟨_, _, 161 * i + 1, 100, rfl, by omega, by omega, z1, line, by omega, rfl⟩) (ge_call hZ hr (ga_one (ge_lst (ga_one (ge_var 5)))) ⟨[a[a.length - 1 - i]], rfl, by simp, rfl⟩)) ⟨_, _, rfl, by omega, by omega, (cd_mul z1 line (by omega)).mono (by omega), cc.mono (by omega), rfl⟩).is ?_) (fun σ4 H4 S4 => gq_nil ⟨_, _, ⟨rfl, _, rfl⟩, S4⟩)
    rw [ed, moved_cons]
  · rintro ρ' I' σ' H' ⟨rfl, y, rfl⟩ S3
    rw [prs_reverse, prs_len, List.length_reverse, Nat.sub_self, List.drop_zero] at S3
    exact gq_retP S3 hrt (ge_var 3)
end
end TM
/-! ## LwDiv -/
set_option Elab.async false
set_option linter.all false
set_option maxRecDepth 100000
set_option maxHeartbeats 4000000
set_option exponentiation.threshold 100000
/-! LwDiv: _law_p_divided, _law_p_plain. -/
namespace TM
open PySem L2 PySem.Spec PyProof.Rows
section
variable {P : Program} {w : World} {K : PySem.W.Frag} {mg : Str → Option Value} {base : Heap} {f : Addr} {fd : FuncData} {C : Addr} {k : Nat}
def RlDivided : List D → D → Prop := fun ds r => ∃ a b : List Rat, ds = [.lst (prs a), .lst (prs b)] ∧ b ≠ [] ∧ Tr b ∧ a.length ≤ 100 ∧ b.length ≤ 100 ∧ DivOk a b ∧ r = .tup [.lst (prs (quoL a b)), .lst (prs (remL a b))]
theorem sc_ldiv : FnScope ["_law_one", "_law_two", "_law_rest", "_law_quotient", "_law_k", "_law_by", "_law_i"] ["_law_one", "_law_two"] (defScope (top 55)) := ⟨rfl, rfl, rfl, by decide +kernel, rfl, by decide +kernel, by decide +kernel⟩
theorem fn_ldiv (g : Gs K mg C) (hS : FnS P w K mg base k C "_law_share" RlShare) (hMi : FnS P w K mg base k C "_law_minus" (Rl2 (· - ·))) (hT : FnS P w K mg base k C "_law_times" RlTimes) (hZ : FnS P w K mg base k C "_law_poly" RlPoly)
    (F : FnP K "_law_p_divided" "_law_p_divided" (top 55) f fd) (hm : mg "_law_p_divided" = some (.ref f)) : FnS P w K mg base (k + 1) C "_law_p_divided" RlDivided := by
  refine fn_pure F hm sc_ldiv (F.bindsN fun _ _ _ _ _ _ us hl => match us, hl with | [_, _], _ => rfl) (fun ds r h => by obtain ⟨a, b, rfl, _⟩ := h; rfl) ?_
  rintro cdv A outer s0 H E ds r hr ⟨a, b, rfl, hb0, tb, la, lb, dk, rfl⟩
  intro O H0 vs De hw hn hrt hnx
  have S : Stt C O H0 H0 (start ["_law_one", "_law_two", "_law_rest", "_law_quotient", "_law_k", "_law_by", "_law_i"] vs) [some (.lst (prs a)), some (.lst (prs b)), none, none, none, none, none] (ownA O H0) := Stt.start hw hn ownA_refl
  have bl := List.length_pos_iff.mpr hb0
  have wa : ((prs a).length : Int) = a.length := by rw [prs_len]
  have wb : ((prs b).length : Int) = b.length := by rw [prs_len]
  have eN : (max 0 ((a.length : Int) - (b.length : Int) + 1)) = ((dN a b : Nat) : Int) := by unfold dN; omega
  have nN : dN a b ≤ 100 := by unfold dN; omega
  have hlast := tr_last tb hb0
  refine gq_parO 2 3 S rfl sc_ldiv.nd (evN_list (x := "list") (g.f "list") (ge_var 0) rfl)
    (fun q1 => evN_rep (n := ((dN a b : Nat) : Int)) (ge_lst (ga_one (ge_tup (ga_two ge_int ge_int)))) ((ge_max2 rfl (g.f "max") (ge_lst (ga_two ge_int (ge_add (ge_sub (ge_len (g.f "len") (ge_var 0) rfl) (ge_len (g.f "len") (ge_var 1) rfl)) ge_int)))).is (by rw [wa, wb, eN])) (by omega) (by omega) (by simp)) (fun q1 q2 σ2 H2 nq S2 => ?_)
  have eR : prs a = prs ((List.range a.length).map (dR a b 0)) := by rw [show dR a b 0 = cf a from rfl, map_cf]
  have eQ : (List.replicate ((dN a b : Nat) : Int).toNat [pair 0]).flatten = prs (rowQ a b 0) := by rw [Int.toNat_natCast, rep_zero, rowQ_zero]
  have lR : ∀ t, ((List.range a.length).map (dR a b t)).length = a.length := fun t => by simp
  have lQ : ∀ t, (rowQ a b t).length = dN a b := fun t => by unfold rowQ; simp
  have lJ : ∀ t j, (rowJ a b t j).length = a.length := fun t j => by unfold rowJ; simp
  have nq0 : Nq O H0 [(q1, prs ((List.range a.length).map (dR a b 0))), (q2, prs (rowQ a b 0))] := by rw [← eR, ← eQ]; exact nq
  have S2' : Stt C (owO O [(q1, prs ((List.range a.length).map (dR a b 0))), (q2, prs (rowQ a b 0))]) H0 H2 σ2 [some (.lst (prs a)), some (.lst (prs b)), some (.val (.ref q1)), some (.val (.ref q2)), none, none, none] (owA C O H0 [(q1, prs ((List.range a.length).map (dR a b 0))), (q2, prs (rowQ a b 0))]) := by rw [← eR, ← eQ]; exact S2
  clear S2
  have cnt : ((a.length : Int) - (b.length : Int) - (-1)).toNat = dN a b := by unfold dN; omega
  refine gq_for S2' PassesOwn.never rfl (gi_range3 (m := (a.length : Int) - (b.length : Int)) (n := -1) (st := -1) (k := dN a b) (g.f "range") ((ge_sub (ge_len (g.f "len") (ge_var 0) rfl) (ge_len (g.f "len") (ge_var 1) rfl)).is (by rw [wa, wb])) (ge_neg ge_int) (ge_neg ge_int) (by rw [← cnt]; exact RgC.neg (by omega) (by omega) (by omega) (by omega))) (tg_name (i := 4) (vs := [4]) sc_ldiv.nd rfl (.inl rfl) (by simp)) (fun i hi => trivial)
    (fun t ρ I => I = owA C O H0 [(q1, prs ((List.range a.length).map (dR a b t))), (q2, prs (rowQ a b t))] ∧ Nq O H0 [(q1, prs ((List.range a.length).map (dR a b t))), (q2, prs (rowQ a b t))] ∧ ∃ y1 y2 y3, ρ = [some (.lst (prs a)), some (.lst (prs b)), some (.val (.ref q1)), some (.val (.ref q2)), y1, y2, y3]) ⟨rfl, nq0, _, _, _, rfl⟩ ?_ ?_
  · rintro H3 e3 t ρ' I' σ' H' ht ⟨rfl, nqt, y1, y2, y3, rfl⟩ S3
    have ey : D.int ((a.length : Int) - (b.length : Int) + (t : Nat) * (-1)) = .int ((dN a b - 1 - t : Nat) : Int) := by
      congr 1
      unfold dN at ht ⊢
      omega
    rw [ey] at S3
    have S3' : Stt C (owO O [(q1, prs ((List.range a.length).map (dR a b t))), (q2, prs (rowQ a b t))]) H3 H' σ' [some (.lst (prs a)), some (.lst (prs b)), some (.val (.ref q1)), some (.val (.ref q2)), some (.int ((dN a b - 1 - t : Nat) : Int)), y2, y3] (owA C O H0 [(q1, prs ((List.range a.length).map (dR a b t))), (q2, prs (rowQ a b t))]) := S3
    clear S3
    have hNn : dN a b - 1 - t + b.length ≤ a.length := by unfold dN at ht ⊢; omega
    refine gq_setP (d := pair (dQ a b (dN a b - 1 - t))) 5 S3' sc_ldiv.nd ((ge_call hS hr (ga_two (ge_ixO (q := q1) (ds := prs ((List.range a.length).map (dR a b t))) (by simp) (ge_var 2) (ge_sub (ge_add (ge_var 4) (ge_len (g.f "len") (ge_var 1) rfl)) ge_int) (prs_atI (j := dN a b - 1 - t + b.length - 1) (by rw [prs_len]; omega) (by rw [lR]; omega))) (ge_ix (ge_var 1) (ge_neg ge_int) rfl (prs_last hb0))) ⟨_, _, rfl, ?_, dk.c _, hlast, rfl⟩).is ?_) (fun σ4 H4 S4 => ?_)
    · rw [cf_map, if_pos (by omega), dQ_at a b t ht]
      rfl
    · refine gq_storeO (q := q2) (ds := prs (rowQ a b t)) (d := pair (dQ a b (dN a b - 1 - t))) (i := ((dN a b - 1 - t : Nat) : Int)) (j := dN a b - 1 - t) [(q1, prs ((List.range a.length).map (dR a b t)))] [] S4 nqt (ge_var 5) (ge_var 3) (ge_var 4) rfl (by rw [prs_len, lQ]; omega) (by omega) (fun H5 nq5 S5 => ?_)
      rw [prs_set, rowQ_succ a b t ht] at S5 nq5
      have S5' : Stt C (owO O [(q1, prs (rowJ a b t 0)), (q2, prs (rowQ a b (t + 1)))]) H3 H5 σ4 [some (.lst (prs a)), some (.lst (prs b)), some (.val (.ref q1)), some (.val (.ref q2)), some (.int ((dN a b - 1 - t : Nat) : Int)), some (pair (dQ a b (dN a b - 1 - t))), y3] (owA C O H0 [(q1, prs (rowJ a b t 0)), (q2, prs (rowQ a b (t + 1)))]) := by
        rw [rowJ_zero]
        exact S5
      have nq5' : Nq O H0 [(q1, prs (rowJ a b t 0)), (q2, prs (rowQ a b (t + 1)))] := by
        rw [rowJ_zero]
        exact nq5
      clear S5 nq5
      refine gq_for S5' PassesOwn.never rfl (gi_range1 (n := (b.length : Int)) (g.f "range") ((ge_len (g.f "len") (ge_var 1) rfl).is (by rw [wb])) (by omega) (by omega)) (tg_name (i := 6) (vs := [6]) sc_ldiv.nd rfl (.inl rfl) (by simp)) (fun i hi => trivial)
        (fun j ρ I => I = owA C O H0 [(q1, prs (rowJ a b t j)), (q2, prs (rowQ a b (t + 1)))] ∧ Nq O H0 [(q1, prs (rowJ a b t j)), (q2, prs (rowQ a b (t + 1)))] ∧ ∃ y6, ρ = [some (.lst (prs a)), some (.lst (prs b)), some (.val (.ref q1)), some (.val (.ref q2)), some (.int ((dN a b - 1 - t : Nat) : Int)), some (pair (dQ a b (dN a b - 1 - t))), y6]) ⟨rfl, nq5', _, rfl⟩ ?_ ?_
      · rintro H6 e6 j ρ6 I6 σ6 H7 hj ⟨rfl, nqj, y6, rfl⟩ S6
        have hj' : j < b.length := by rw [Int.toNat_natCast] at hj; exact hj
        have S6' : Stt C (owO O [(q1, prs (rowJ a b t j)), (q2, prs (rowQ a b (t + 1)))]) H6 H7 σ6 [some (.lst (prs a)), some (.lst (prs b)), some (.val (.ref q1)), some (.val (.ref q2)), some (.int ((dN a b - 1 - t : Nat) : Int)), some (pair (dQ a b (dN a b - 1 - t))), some (.int (j : Nat))] (owA C O H0 [(q1, prs (rowJ a b t j)), (q2, prs (rowQ a b (t + 1)))]) := S6
        clear S6
        have hx : ((dN a b - 1 - t : Nat) : Int) + (j : Int) = ((dN a b - 1 - t + j : Nat) : Int) := by omega
        refine gq_storeO (q := q1) (ds := prs (rowJ a b t j)) (d := pair (dR a b (t + 1) (dN a b - 1 - t + j))) (i := ((dN a b - 1 - t : Nat) : Int) + (j : Int)) (j := dN a b - 1 - t + j) [] [(q2, prs (rowQ a b (t + 1)))] S6' nqj
          ((ge_call hMi hr (ga_two (ge_ixO (q := q1) (ds := prs (rowJ a b t j)) (by simp) (ge_var 2) (ge_add (ge_var 4) (ge_var 6)) (prs_atI (j := dN a b - 1 - t + j) hx (by rw [lJ]; omega))) (ge_call hT hr (ga_two (ge_var 5) (ge_ix (ge_var 1) (ge_var 6) rfl (prs_atI (j := j) rfl hj'))) (lt_pair (dk.q _ (by omega)) (dk.c _)))) ⟨_, _, rfl, ?_, dk.m _ _ (by omega), rfl⟩).is ?_) (ge_var 2) (ge_add (ge_var 4) (ge_var 6)) hx (by rw [prs_len, lJ]; omega) (by omega) (fun H8 nq8 S8 => gq_nil ?_)
        · rw [cf_rowJ (by omega), if_neg (by omega), dR_succ, sh_at, dQ_at a b t ht]
        · rw [prs_set, rowJ_succ] at S8 nq8
          exact ⟨_, _, ⟨rfl, nq8, _, rfl⟩, S8⟩
        · rw [cf_rowJ (by omega), if_neg (by omega)]
          exact dk.r t _ (by omega)
      · rintro ρ6 I6 σ6 H7 ⟨rfl, nqj, y6, rfl⟩ S6
        rw [Int.toNat_natCast, rowJ_all] at S6 nqj
        exact gq_nil ⟨_, _, ⟨rfl, nqj, _, _, _, rfl⟩, S6⟩
    · rw [cf_map, if_pos (by omega)]
      exact dk.r t _ (by omega)
  · rintro ρ' I' σ' H' ⟨rfl, nqt, y1, y2, y3, rfl⟩ S3
    have S3' : Stt C (owO O [(q1, prs ((List.range a.length).map (dR a b (dN a b)))), (q2, prs (rowQ a b (dN a b)))]) H0 H' σ' [some (.lst (prs a)), some (.lst (prs b)), some (.val (.ref q1)), some (.val (.ref q2)), y1, y2, y3] (owA C O H0 [(q1, prs ((List.range a.length).map (dR a b (dN a b)))), (q2, prs (rowQ a b (dN a b)))]) := S3
    obtain ⟨S4, un⟩ := S3'.unown nqt
    have S5 := (S4.reset 2 rfl (un _ (List.mem_cons_self))).reset 3 rfl (un _ (List.mem_cons_of_mem _ List.mem_cons_self))
    exact gq_retP S5 hrt (ge_tup (ga_two (ge_call hZ hr (ga_one (ge_var 3)) ⟨rowQ a b (dN a b), rfl, by rw [lQ]; omega, by rw [rowQ_all]; rfl⟩) (ge_call hZ hr (ga_one (ge_var 2)) ⟨_, rfl, by rw [lR]; omega, by rw [remL_all hlast bl]⟩)))
def RlPlain : List D → D → Prop := fun ds r => ∃ a : List Rat, ds = [.lst (prs a)] ∧ Tr a ∧ a.length ≤ 1000 ∧ (∀ q ∈ a, Hb 4490 q) ∧ r = .lst (prs (plainL a))
theorem sc_lplain : FnScope ["_law_one"] ["_law_one"] (defScope (top 56)) := ⟨rfl, rfl, rfl, by decide +kernel, rfl, by decide +kernel, by decide +kernel⟩
theorem scale_plain (a : List Rat) : scaleL a (1 / a.getLastD 0) = plainL a := by
  unfold scaleL plainL
  congr 1
  refine List.map_congr_left fun x _ => ?_
  rw [Rat.div_def, Rat.div_def, Rat.one_mul]
theorem fn_lplain (hS : FnS P w K mg base k C "_law_share" RlShare) (hC : FnS P w K mg base k C "_law_p_scaled" RlScaled) (F : FnP K "_law_p_plain" "_law_p_plain" (top 56) f fd) (hm : mg "_law_p_plain" = some (.ref f)) : FnS P w K mg base (k + 1) C "_law_p_plain" RlPlain := by
  refine fn_pure F hm sc_lplain (F.bindsN fun _ _ _ _ _ _ us hl => match us, hl with | [_], _ => rfl) (fun ds r h => by obtain ⟨a, rfl, _⟩ := h; rfl) ?_
  rintro cdv A outer s0 H E ds r hr ⟨a, rfl, ta, la, ha, rfl⟩
  intro O H0 vs De hw hn hrt hnx
  have S : Stt C O H0 H0 (start ["_law_one"] vs) [some (.lst (prs a))] (ownA O H0) := Stt.start hw hn ownA_refl
  by_cases h0 : a = []
  · subst h0
    exact gq_retP S hrt (ge_if (k := false) (gt_imp (gt_neD hr (ge_var 0) (ge_lst ga_nil) (fit_prsL _) rfl) rfl) (fun z => by cases z) (fun _ => ge_var 0))
  · have hl := tr_last ta h0
    have hemp : (prs a).isEmpty = false := by
      cases hc : a with
      | nil => exact absurd hc h0
      | cons x b => rfl
    have hbl : Hb 4490 (cf a (a.length - 1)) := by
      have := List.length_pos_iff.mpr h0
      rw [cf_in (by omega)]
      exact ha _ (List.getElem_mem _)
    have hinv : Hb 4490 (1 / cf a (a.length - 1)) := by
      rw [Rat.div_def, Rat.one_mul]
      exact hb_inv hbl hl
    refine gq_retP S hrt (ge_if (k := true) (gt_imp (gt_neD hr (ge_var 0) (ge_lst ga_nil) (fit_prsL _) rfl) (by rw [eqv_nilL, hemp]; rfl)) (fun _ => (ge_call hC hr (ga_two (ge_var 0) (ge_call hS hr (ga_two (ge_tup (ga_two ge_int ge_int)) (ge_ix (ge_var 0) (ge_neg ge_int) rfl (prs_last h0))) ⟨1, _, rfl, ⟨by show 1 < 2 ^ 4490; exact Nat.one_lt_two_pow (by omega), by show 1 < 2 ^ 4490; exact Nat.one_lt_two_pow (by omega)⟩, hbl, hl, rfl⟩)) (ls_pair la ha hinv)).is ?_) (fun z => by cases z))
    rw [← last_cf h0, scale_plain]
end
end TM
/-! ## LwCom -/
set_option Elab.async false
set_option linter.all false
set_option maxRecDepth 100000
set_option maxHeartbeats 4000000
set_option exponentiation.threshold 100000
/-! LwCom: _law_p_short, _law_p_common. -/
namespace TM
open PySem L2 PySem.Spec PyProof.Rows
/-- q's number over the common bottom L -/
def numOn (L : Nat) (q : Rat) : Int := q.num * ((L / q.den : Nat) : Int)
def mostF (L : Nat) (a : List Rat) : Nat := a.foldl (fun m q => Nat.gcd m (numOn L q).natAbs) 0
def shortL (a : List Rat) : List Rat := if a = [] then [] else scaleL a (rt (lcmF a) (mostF (lcmF a) a))
theorem lcmF_take_dvd (a : List Rat) (i : Nat) : lcmF (a.take i) ∣ lcmF a := by
  unfold lcmF
  conv => rhs; rw [← List.take_append_drop i a]
  rw [List.foldl_append]
  have key : ∀ (l : List Rat) (n : Nat), n ∣ l.foldl (fun n q => Nat.lcm n q.den) n := by
    intro l
    induction l with
    | nil => intro n; exact Nat.dvd_refl _
    | cons r l ih => intro n; exact Nat.dvd_trans (Nat.dvd_lcm_left ..) (ih _)
  exact key _ _
theorem mostF_snoc (L : Nat) (a : List Rat) (q : Rat) : mostF L (a ++ [q]) = Nat.gcd (mostF L a) (numOn L q).natAbs := by
  unfold mostF
  rw [List.foldl_append]
  rfl
theorem mostF_dvd (L : Nat) : ∀ (a : List Rat), ∀ q ∈ a, mostF L a ∣ (numOn L q).natAbs := fun a => by
  unfold mostF
  have key : ∀ (l : List Rat) (n : Nat), l.foldl (fun m q => Nat.gcd m (numOn L q).natAbs) n ∣ n ∧ ∀ q ∈ l, l.foldl (fun m q => Nat.gcd m (numOn L q).natAbs) n ∣ (numOn L q).natAbs := by
    intro l
    induction l with
    | nil => intro n; exact ⟨Nat.dvd_refl _, fun q h => by cases h⟩
    | cons r l ih =>
      intro n
      obtain ⟨h1, h2⟩ := ih (Nat.gcd n (numOn L r).natAbs)
      refine ⟨Nat.dvd_trans h1 (Nat.gcd_dvd_left _ _), fun q hq => ?_⟩
      rcases List.mem_cons.mp hq with rfl | hq
      · exact Nat.dvd_trans h1 (Nat.gcd_dvd_right _ _)
      · exact h2 q hq
  exact (key a 0).2
theorem numOn_ne {a : List Rat} {q : Rat} (hq : q ∈ a) (h0 : q ≠ 0) : numOn (lcmF a) q ≠ 0 := by
  have hd := lcm_dvd_mem a q hq
  have hl := lcmF_pos a
  have h1 : 0 < lcmF a / q.den := Nat.div_pos (Nat.le_of_dvd hl hd) q.den_pos
  unfold numOn
  exact Int.mul_ne_zero (fun z => h0 (Rat.num_eq_zero.mp z)) (by omega)
theorem mostF_pos {a : List Rat} (ta : Tr a) (h0 : a ≠ []) : 0 < mostF (lcmF a) a := by
  have hl := List.length_pos_iff.mpr h0
  have hne := tr_last ta h0
  have hm : cf a (a.length - 1) ∈ a := by rw [cf_in (by omega)]; exact List.getElem_mem _
  have h1 := mostF_dvd (lcmF a) a _ hm
  have h2 := numOn_ne hm hne
  rcases Nat.eq_zero_or_pos (mostF (lcmF a) a) with h | h
  · rw [h] at h1
    have := Nat.eq_zero_of_zero_dvd h1
    omega
  · exact h
section
variable {P : Program} {w : World} {K : PySem.W.Frag} {mg : Str → Option Value} {base : Heap} {f : Addr} {fd : FuncData} {C : Addr} {k : Nat}
structure ShOk (a : List Rat) : Prop where
  tr : Tr a
  len : a.length ≤ 100
  hb : ∀ q ∈ a, Hb 4490 q
  l : (lcmF a).log2 < 4490
  m : (mostF (lcmF a) a).log2 < 4490
def RlShort : List D → D → Prop := fun ds r => ∃ a : List Rat, ds = [.lst (prs a)] ∧ ShOk a ∧ r = .lst (prs (shortL a))
theorem sc_lshort : FnScope ["_law_one", "_law_bottom", "_law_most", "_law_number"] ["_law_one"] (defScope (top 57)) := ⟨rfl, rfl, rfl, by decide +kernel, rfl, by decide +kernel, by decide +kernel⟩
theorem fn_lshort (hG : FnS P w K mg base k C "_law_gcd" RlGcd) (hC : FnS P w K mg base k C "_law_p_scaled" RlScaled) (F : FnP K "_law_p_short" "_law_p_short" (top 57) f fd) (hm : mg "_law_p_short" = some (.ref f)) : FnS P w K mg base (k + 1) C "_law_p_short" RlShort := by
  refine fn_pure F hm sc_lshort (F.bindsN fun _ _ _ _ _ _ us hl => match us, hl with | [_], _ => rfl) (fun ds r h => by obtain ⟨a, rfl, _⟩ := h; rfl) ?_
  rintro cdv A outer s0 H E ds r hr ⟨a, rfl, ok, rfl⟩
  intro O H0 vs De hw hn hrt hnx
  have S : Stt C O H0 H0 (start ["_law_one", "_law_bottom", "_law_most", "_law_number"] vs) [some (.lst (prs a)), none, none, none] (ownA O H0) := Stt.start hw hn ownA_refl
  refine gq_two (Φ := Is (.tup [.int 1, .int 0])) S (tg_two (i := 1) (j := 2) (vs := [1, 2]) rfl sc_lshort.nd rfl (.inl rfl) rfl (.inl rfl) (by simp) (by simp)) (ge_tup (ga_two ge_int ge_int)) (fun d e => by cases e; exact ⟨_, _, rfl⟩) (fun σ1 H1 d1 e1 S1 => ?_)
  cases e1
  have S1' : Stt C O H0 H1 σ1 [some (.lst (prs a)), some (.int 1), some (.int 0), none] (ownA O H0) := S1
  clear S1
  refine gq_for S1' PassesOwn.never rfl (gi_list (ge_var 0)) (tg_name (i := 3) (vs := [3]) sc_lshort.nd rfl (.inl rfl) (by simp)) (fun i hi => trivial)
    (fun i ρ I => I = ownA O H0 ∧ ∃ y, ρ = [some (.lst (prs a)), some (.int (lcmF (a.take i) : Nat)), some (.int 0), y]) ⟨rfl, none, rfl⟩ ?_ ?_
  · rintro H2 e2 i ρ' I' σ' H' hi ⟨rfl, y, rfl⟩ S2
    rw [prs_len] at hi
    rw [prs_get hi] at S2
    have dp := a[i].den_pos
    have lp := lcmF_pos (a.take i)
    have l1 : (lcmF (a.take i)).log2 < 4490 := Nat.lt_of_le_of_lt (log2_mono' (Nat.le_of_dvd (lcmF_pos a) (lcmF_take_dvd a i))) ok.l
    have hd := (ok.hb _ (List.getElem_mem hi)).2
    have l2 := log_lt hd (by omega)
    have gp := Nat.gcd_pos_of_pos_left a[i].den lp
    have gl : (Nat.gcd (lcmF (a.take i)) a[i].den).log2 < 4490 := Nat.lt_of_le_of_lt (log2_mono' (Nat.gcd_le_right _ dp)) l2
    refine gq_setP (d := .int (lcmF (a.take (i + 1)) : Nat)) 1 S2 sc_lshort.nd ((ge_fdiv (ge_mul (ge_var 1) (ge_ix (ge_var 3) ge_int rfl rfl) ?_) (ge_call hG hr (ga_two (ge_var 1) (ge_ix (ge_var 3) ge_int rfl rfl)) ⟨_, _, rfl, ?_, rfl⟩) ⟨?_, ?_⟩).is ?_) (fun σ3 H3 S3 => gq_nil ⟨_, _, ⟨rfl, _, rfl⟩, S3⟩)
    · unfold CMulW
      simp only [Int.natAbs_natCast]
      omega
    · simp only [Int.natAbs_natCast]
      omega
    · simp only [Int.natAbs_natCast]
      omega
    · simp only [Int.natAbs_natCast]
      have e : a.take (i + 1) = a.take i ++ [a[i]] := by rw [List.take_add_one, List.getElem?_eq_getElem hi]; rfl
      rw [e, lcmF_snoc, ← Int.natCast_mul, ← Int.natCast_ediv]
      rfl
    · simp only [Int.natAbs_natCast]
      exact Nat.lt_of_lt_of_le hd (Nat.pow_le_pow_right (by omega) (by omega))
  · rintro ρ' I' σ' H' ⟨rfl, y, rfl⟩ S2
    rw [prs_len, List.take_length] at S2
    refine gq_for S2 PassesOwn.never rfl (gi_list (ge_var 0)) (tg_name (i := 3) (vs := [3]) sc_lshort.nd rfl (.inl rfl) (by simp)) (fun i hi => trivial)
      (fun i ρ I => I = ownA O H0 ∧ ∃ y, ρ = [some (.lst (prs a)), some (.int (lcmF a : Nat)), some (.int (mostF (lcmF a) (a.take i) : Nat)), y]) ⟨rfl, y, rfl⟩ ?_ ?_
    · rintro H3 e3 i ρ3 I3 σ3 H4 hi ⟨rfl, y, rfl⟩ S3
      rw [prs_len] at hi
      rw [prs_get hi] at S3
      have dp := a[i].den_pos
      have hq := ok.hb _ (List.getElem_mem hi)
      have l2 := log_lt hq.2 (by omega)
      have q1 : (lcmF a / a[i].den).log2 < 4490 := Nat.lt_of_le_of_lt (log2_mono' (Nat.div_le_self _ _)) ok.l
      refine gq_setP (d := .int (mostF (lcmF a) (a.take (i + 1)) : Nat)) 2 S3 sc_lshort.nd ((ge_call hG hr (ga_two (ge_var 2) ((ge_mul (ge_ix (ge_var 3) ge_int rfl rfl) (ge_fdiv (ge_var 1) (ge_ix (ge_var 3) ge_int rfl rfl) ⟨by omega, ?_⟩) ?_).is (d' := .int (numOn (lcmF a) a[i])) ?_)) ⟨_, _, rfl, ?_, rfl⟩).is ?_) (fun σ5 H5 S5 => gq_nil ⟨_, _, ⟨rfl, _, rfl⟩, S5⟩)
      · simp only [Int.natAbs_natCast]
        omega
      · unfold CMulW
        have := log_lt hq.1 (by omega)
        rw [← Int.natCast_ediv, Int.natAbs_natCast]
        omega
      · unfold numOn
        rw [← Int.natCast_ediv]
      · have e : a.take (i + 1) = a.take i ++ [a[i]] := by rw [List.take_add_one, List.getElem?_eq_getElem hi]; rfl
        rw [e, mostF_snoc, Int.natAbs_natCast]
      · unfold numOn
        rw [Int.natAbs_mul, Int.natAbs_natCast]
        refine Nat.lt_of_lt_of_le (Nat.mul_lt_mul'' hq.1 (lt_of_log q1)) ?_
        rw [← Nat.pow_add]
        exact Nat.pow_le_pow_right (by omega) (by omega)
    · rintro ρ3 I3 σ3 H4 ⟨rfl, y, rfl⟩ S3
      rw [prs_len, List.take_length] at S3
      by_cases h0 : a = []
      · subst h0
        exact gq_retP S3 hrt (ge_if (k := false) (gt_imp (gt_neD hr (ge_var 0) (ge_lst ga_nil) (fit_prsL _) rfl) rfl) (fun z => by cases z) (fun _ => ge_var 0))
      · have hemp : (prs a).isEmpty = false := by
          cases hc : a with
          | nil => exact absurd hc h0
          | cons x b => rfl
        have mp := mostF_pos ok.tr h0
        refine gq_retP S3 hrt (ge_if (k := true) (gt_imp (gt_neD hr (ge_var 0) (ge_lst ga_nil) (fit_prsL _) rfl) (by rw [eqv_nilL, hemp]; rfl)) (fun _ => (ge_call hC hr (ga_two (ge_var 0) (ge_tup (ga_two (ge_var 1) (ge_var 2)))) ⟨a, _, _, _, rfl, rfl, by omega, by have := ok.len; omega, ok.hb, ⟨by simpa using ok.l, by simpa using ok.m⟩, rfl⟩).is ?_) (fun z => by cases z))
        unfold shortL
        rw [if_neg h0]
/-- the law's way by Euclid, in n steps -/
inductive ComL : Nat → List Rat → List Rat → List Rat → Prop
  | stop {a : List Rat} : Tr a → a.length ≤ 100 → (∀ q ∈ a, Hb 4490 q) → ComL 0 a [] (plainL a)
  | step {n : Nat} {a b r : List Rat} : b ≠ [] → Tr b → a.length ≤ 100 → b.length ≤ 100 → DivOk a b → ShOk (remL a b) → ComL n b (shortL (remL a b)) r → ComL (n + 1) a b r
def RlCommon : List D → D → Prop := fun ds r => ∃ (n : Nat) (a b q : List Rat), ds = [.lst (prs a), .lst (prs b)] ∧ n < 200 ∧ ComL n a b q ∧ r = .lst (prs q)
theorem sc_lcommon : FnScope ["_law_one", "_law_two", "_law_lap"] ["_law_one", "_law_two"] (defScope (top 58)) := ⟨rfl, rfl, rfl, by decide +kernel, rfl, by decide +kernel, by decide +kernel⟩
theorem fn_lcommon (g : Gs K mg C) (hP : FnS P w K mg base k C "_law_p_plain" RlPlain) (hD : FnS P w K mg base k C "_law_p_divided" RlDivided) (hS : FnS P w K mg base k C "_law_p_short" RlShort) (F : FnP K "_law_p_common" "_law_p_common" (top 58) f fd) (hm : mg "_law_p_common" = some (.ref f)) : FnS P w K mg base (k + 1) C "_law_p_common" RlCommon := by
  refine fn_pure F hm sc_lcommon (F.bindsN fun _ _ _ _ _ _ us hl => match us, hl with | [_, _], _ => rfl) (fun ds r h => by obtain ⟨n, a, b, q, rfl, _⟩ := h; rfl) ?_
  rintro cdv A outer s0 H E ds r hr ⟨n0, a0, b0, q, rfl, hn0, hc, rfl⟩
  intro O H0 vs De hw hn hrt hnx
  have S : Stt C O H0 H0 (start ["_law_one", "_law_two", "_law_lap"] vs) [some (.lst (prs a0)), some (.lst (prs b0)), none] (ownA O H0) := Stt.start hw hn ownA_refl
  refine gq_for S PassesOwn.never rfl (gi_range1 (n := 200) (g.f "range") ge_int (by omega) (by omega)) (tg_name (i := 2) (vs := [2]) sc_lcommon.nd rfl (.inl rfl) (by simp)) (fun i hi => trivial)
    (fun i ρ I => I = ownA O H0 ∧ ∃ (n : Nat) (a b : List Rat) (y : Option D), ComL n a b q ∧ n + i = n0 ∧ ρ = [some (.lst (prs a)), some (.lst (prs b)), y]) ⟨rfl, n0, a0, b0, none, hc, rfl, rfl⟩ ?_ ?_
  · rintro H2 e2 i ρ' I' σ' H' hi ⟨rfl, n, a, b, y, hc, hni, rfl⟩ S2
    cases hc with
    | stop ta la ha =>
      refine gq_ifP S2 (k := true) (gt_imp (gt_eqD hr (ge_var 1) (ge_lst ga_nil) (fit_prsL _) rfl) rfl) (fun _ H3 S3 => gq_break ?_) (fun z => by cases z)
      exact gq_retP (S3.rebase e2) hrt (ge_call hP hr (ga_one (ge_var 0)) ⟨a, rfl, ta, by omega, ha, rfl⟩)
    | @step n1 _ _ _ hb tb la lb dk sh hc =>
      have hemp : (prs b).isEmpty = false := by
        cases hc : b with
        | nil => exact absurd hc hb
        | cons x b => rfl
      refine gq_ifP S2 (k := false) (gt_imp (gt_eqD hr (ge_var 1) (ge_lst ga_nil) (fit_prsL _) rfl) (by rw [eqv_nilL, hemp])) (fun z => by cases z) (fun _ H3 S3 => gq_nil ?_)
      exact gq_par 0 1 S3 rfl sc_lcommon.nd (ga_two (ge_var 1) (ge_call hS hr (ga_one (ge_ix (ge_call hD hr (ga_two (ge_var 0) (ge_var 1)) ⟨a, b, rfl, hb, tb, la, lb, dk, rfl⟩) ge_int rfl rfl)) ⟨remL a b, rfl, sh, rfl⟩)) (fun σ4 H4 S4 => gq_nil ⟨_, _, ⟨rfl, n1, b, _, _, hc, by omega, rfl⟩, S4⟩)
  · rintro ρ' I' σ' H' ⟨rfl, n, a, b, y, hc, hni, rfl⟩ S2
    exfalso
    have : (200 : Int).toNat = 200 := rfl
    omega
end
end TM
/-! ## MtFact -/
set_option Elab.async false
set_option linter.all false
set_option maxRecDepth 100000
set_option maxHeartbeats 4000000
set_option exponentiation.threshold 100000
/-! MtFact: small rows; what the law asks of quotients and common divisors. -/
namespace TM
/-- a drawn row -/
structure SmallR (n : Nat) (l : List Rat) : Prop where
  tr : Tr l
  len : l.length ≤ n
  hb : ∀ q ∈ l, Hb 10 q
theorem cd_small : ∀ {l : List Rat}, (∀ q ∈ l, Hb 10 q) → CD (10 * l.length + 1) l
  | [], _ => (cd_of_hb (n := 1) (by decide) (by simp) (fun q hq => nomatch hq))
  | q :: l, h => by
    have := cd_cons (h q (.head _)) (cd_small fun x hx => h x (.tail _ hx))
    rw [List.length_cons]
    exact this.mono (by omega)
theorem SmallR.cd {n : Nat} {l : List Rat} (h : SmallR n l) : CD (10 * n + 1) l := (cd_small h.hb).mono (by have := h.len; omega)
/-- what is asked of the products a, b -/
structure DivFacts (a b : List Rat) : Prop where
  com : ∃ n m q, Com n a b q ∧ ComL m a b q ∧ m < 200
  ok : b ≠ [] → DivOk a b
  cq : b ≠ [] → CD 2000 (quoL a b)
  cm : b ≠ [] → CD 2200 (mulL (quoL a b) b)
  cr : b ≠ [] → CD 2200 (remL a b)
  eq : b ≠ [] → addL 1 (mulL (quoL a b) b) (remL a b) = a
/-- .. for all drawn ones -/
def DivAll : Prop := ∀ pl o1 o2 : List Rat, SmallR 3 pl → SmallR 5 o1 → SmallR 5 o2 → DivFacts (mulL pl o1) (mulL pl o2)
theorem small_one : SmallR 5 [1] := ⟨rfl, by simp, fun q hq => by
  have e : q = 1 := by simpa using hq
  rw [e]
  exact ⟨by decide, by decide⟩⟩
theorem small_nil : SmallR 5 [] := ⟨rfl, by simp, fun q hq => by cases hq⟩
theorem tr_mul (a b : List Rat) : Tr (mulL a b) := tr_trim _
theorem mul_cd {pl o : List Rat} (h : SmallR 3 pl) (g : SmallR 5 o) : CD 92 (mulL pl o) := (cd_mul h.cd g.cd (by have := h.len; have := g.len; omega)).mono (by decide)
theorem mul_len {pl o : List Rat} (h : SmallR 3 pl) (g : SmallR 5 o) : (mulL pl o).length ≤ 8 := by
  have := len_mul pl o
  have := h.len
  have := g.len
  omega
end TM
/-! ## MtLaw -/
set_option Elab.async false
set_option linter.all false
set_option maxRecDepth 100000
set_option maxHeartbeats 4000000
set_option exponentiation.threshold 100000
/-! MtLaw: sums, products, slopes of rows, by their numbers. -/
namespace TM
theorem cf_add (s : Rat) (a b : List Rat) (i : Nat) : cf (addL s a b) i = cf a i + s * cf b i := by
  unfold addL
  rw [cf_trim, cf_map]
  split
  · rfl
  · rw [cf_out (l := a) (by omega), cf_out (l := b) (by omega)]
    grind
theorem cf_mapQ (f : Rat → Rat) (h0 : f 0 = 0) (l : List Rat) (i : Nat) : cf (l.map f) i = f (cf l i) := by
  by_cases h : i < l.length
  · rw [cf_in (by rw [List.length_map]; exact h), cf_in h, List.getElem_map]
  · rw [cf_out (by rw [List.length_map]; omega), cf_out (by omega), h0]
theorem cf_scale (a : List Rat) (q : Rat) (i : Nat) : cf (scaleL a q) i = cf a i * q := by
  unfold scaleL
  rw [cf_trim, cf_mapQ (fun x => x * q) (by grind)]
theorem cf_neg (a : List Rat) (i : Nat) : cf (negL a) i = - cf a i := by
  unfold negL
  rw [cf_trim, cf_mapQ (fun x => -x) (by grind)]
theorem cf_slope (a : List Rat) (i : Nat) : cf (slopeL a) i = ((i + 1 : Nat) : Rat) * cf a (i + 1) := by
  unfold slopeL
  rw [cf_trim]
  have e : cf (((List.range a.length).map fun (k : Nat) => (k : Rat) * cf a k).drop 1) i = cf ((List.range a.length).map fun (k : Nat) => (k : Rat) * cf a k) (i + 1) := by
    unfold cf
    rw [List.getD_eq_getElem?_getD, List.getD_eq_getElem?_getD, List.getElem?_drop, Nat.add_comm 1 i]
  rw [e, cf_map]
  split
  · rfl
  · rw [cf_out (l := a) (by omega)]
    grind
theorem cf_area0 (a : List Rat) : cf (areaL a) 0 = 0 := by
  unfold areaL
  rw [cf_trim]
  rfl
theorem cf_areaS (a : List Rat) (i : Nat) : cf (areaL a) (i + 1) = cf a i / ((i : Rat) + 1) := by
  unfold areaL
  rw [cf_trim]
  have e : cf (0 :: (List.range a.length).map fun (k : Nat) => cf a k / ((k : Rat) + 1)) (i + 1) = cf ((List.range a.length).map fun (k : Nat) => cf a k / ((k : Rat) + 1)) i := by
    unfold cf
    rfl
  rw [e, cf_map]
  split
  · rfl
  · rw [cf_out (l := a) (by omega)]
    grind
theorem cf_mul (a b : List Rat) (k : Nat) : cf (mulL a b) k = convL a b k := by
  unfold mulL
  rw [cf_trim, cf_map]
  split
  · rfl
  · refine (sumR_zero fun j hj => ?_).symm
    by_cases h : j < a.length
    · rw [cf_out (l := b) (by omega)]
      grind
    · rw [cf_out (l := a) (by omega)]
      grind
theorem tr_add (s : Rat) (a b : List Rat) : Tr (addL s a b) := tr_trim _
theorem tr_scale (a : List Rat) (q : Rat) : Tr (scaleL a q) := tr_trim _
theorem tr_neg (a : List Rat) : Tr (negL a) := tr_trim _
theorem tr_slope (a : List Rat) : Tr (slopeL a) := tr_trim _
theorem tr_area (a : List Rat) : Tr (areaL a) := tr_trim _
theorem tr_rem (a b : List Rat) : Tr (remL a b) := tr_trim _
theorem tr_quo (a b : List Rat) : Tr (quoL a b) := tr_trim _
theorem add_minus (a b : List Rat) : addL (-1) a b = addL 1 a (scaleL b (-1)) := ext_cf (tr_add _ _ _) (tr_add _ _ _) fun i => by
  rw [cf_add, cf_add, cf_scale]
  grind
theorem add_comm' (a b : List Rat) : addL 1 a b = addL 1 b a := ext_cf (tr_add _ _ _) (tr_add _ _ _) fun i => by
  rw [cf_add, cf_add]
  grind
theorem neg_scale (a : List Rat) : negL a = scaleL a (-1) := ext_cf (tr_neg _) (tr_scale _ _) fun i => by
  rw [cf_neg, cf_scale]
  grind
theorem slope_area {a : List Rat} (h : Tr a) : slopeL (areaL a) = a := ext_cf (tr_slope _) h fun i => by
  rw [cf_slope, cf_areaS]
  have h1 : ((i + 1 : Nat) : Rat) = (i : Rat) + 1 := by simp
  have h2 := nat_succ_ne i
  rw [h1]
  grind
/-- a sum backwards -/
theorem sumR_rev (f : Nat → Rat) : ∀ n : Nat, sumR n f = sumR n fun j => f (n - 1 - j)
  | 0 => rfl
  | n + 1 => by
    rw [sumR_shift (fun j => f (n + 1 - 1 - j)) n]
    have e : sumR n (fun i => f (n + 1 - 1 - (i + 1))) = sumR n f := by
      rw [sumR_rev f n]
      exact sumR_congr fun i hi => by rw [show n + 1 - 1 - (i + 1) = n - 1 - i from by omega]
    rw [e]
    show sumR n f + f n = f (n + 1 - 1 - 0) + sumR n f
    rw [show n + 1 - 1 - 0 = n from by omega]
    grind
theorem conv_comm (a b : List Rat) (k : Nat) : convL a b k = convL b a k := by
  unfold convL
  rw [sumR_rev]
  refine sumR_congr fun i hi => ?_
  rw [show k + 1 - 1 - i = k - i from by omega, show k - (k - i) = i from by omega]
  grind
theorem mul_comm' (a b : List Rat) : mulL a b = mulL b a := ext_cf (tr_mul _ _) (tr_mul _ _) fun i => by
  rw [cf_mul, cf_mul, conv_comm]
theorem eval_cons (c : Rat) (r : List Rat) (x : Rat) : evalL (c :: r) x = evalL r x * x + c := rfl
theorem eval_zero : ∀ a : List Rat, evalL a 0 = cf a 0
  | [] => rfl
  | c :: r => by
    rw [eval_cons]
    show _ = c
    grind
theorem eval_area (a : List Rat) : evalL (areaL a) 0 = 0 := by
  rw [eval_zero, cf_area0]
theorem hb_eval {n m : Nat} {x : Rat} (hx : Hb n x) : ∀ {a : List Rat}, (∀ q ∈ a, Hb m q) → Hb ((n + m + 1) * a.length + 1) (evalL a x)
  | [], _ => hb_zero (by omega)
  | c :: r, h => by
    rw [eval_cons]
    have ih := hb_eval hx (a := r) fun q hq => h q (.tail _ hq)
    have := hb_add (hb_mul ih hx) (h c (.head _))
    refine this.mono ?_
    rw [List.length_cons, Nat.mul_succ]
    omega
end TM
/-! ## MtSize -/
set_option Elab.async false
set_option linter.all false
set_option maxRecDepth 100000
set_option maxHeartbeats 4000000
set_option exponentiation.threshold 100000
/-! MtSize: sizes on the way of a division. -/
namespace TM
theorem int_ne {z : Int} (h : z ≠ 0) : (z : Rat) ≠ 0 := fun e => h (Rat.intCast_inj.mp (e.trans (by rfl : (0 : Rat) = ((0 : Int) : Rat))))
theorem div_nat {z w : Int} (hw : w ≠ 0) : ∃ y : Int, y.natAbs = z.natAbs ∧ (z : Rat) / (w : Rat) = Rat.divInt y w.natAbs := by
  by_cases h : 0 ≤ w
  · refine ⟨z, rfl, ?_⟩
    rw [Rat.divInt_eq_div]
    have e : ((w.natAbs : Int)) = w := by omega
    rw [e]
  · refine ⟨-z, Int.natAbs_neg z, ?_⟩
    rw [Rat.divInt_eq_div]
    have e : ((w.natAbs : Int)) = -w := by omega
    rw [e, Rat.intCast_neg, Rat.intCast_neg]
    have := int_ne hw
    grind
theorem hb_frac {n : Nat} {z w : Int} (hw : w ≠ 0) (h1 : z.natAbs < 2 ^ n) (h2 : w.natAbs < 2 ^ n) : Hb n ((z : Rat) / (w : Rat)) := by
  obtain ⟨y, e1, e2⟩ := div_nat (z := z) hw
  rw [e2]
  exact hb_div (by omega) (by omega) h2
theorem cd_frac {n : Nat} {l : List Rat} {w : Int} (hw : w ≠ 0) (h2 : w.natAbs < 2 ^ n) (h : ∀ i, ∃ z : Int, z.natAbs < 2 ^ n ∧ cf l i = (z : Rat) / (w : Rat)) : CD n l := by
  refine ⟨w.natAbs, by omega, h2, fun i => ?_⟩
  obtain ⟨z, z1, z2⟩ := h i
  obtain ⟨y, e1, e2⟩ := div_nat (z := z) hw
  exact ⟨y, by omega, z2.trans e2⟩
theorem cd_frac' {n : Nat} {l : List Rat} (h : CD n l) : ∃ D : Int, D ≠ 0 ∧ D.natAbs < 2 ^ n ∧ ∀ i, ∃ z : Int, z.natAbs < 2 ^ n ∧ cf l i = (z : Rat) / (D : Rat) := by
  obtain ⟨D, h0, h1, h2⟩ := h
  refine ⟨D, by omega, by simpa using h1, fun i => ?_⟩
  obtain ⟨z, z1, z2⟩ := h2 i
  exact ⟨z, z1, by rw [z2, Rat.divInt_eq_div]⟩
theorem pw_mul {x y : Int} {m n : Nat} (h1 : x.natAbs < 2 ^ m) (h2 : y.natAbs < 2 ^ n) : (x * y).natAbs < 2 ^ (m + n) := by
  rw [Int.natAbs_mul, Nat.pow_add]
  exact Nat.mul_lt_mul'' h1 h2
theorem pw_pow {x : Int} {m : Nat} (h : x.natAbs < 2 ^ m) : ∀ t : Nat, (x ^ t).natAbs ≤ 2 ^ (t * m)
  | 0 => by simp
  | t + 1 => by
    rw [Int.pow_succ, Int.natAbs_mul, Nat.succ_mul, Nat.pow_add]
    exact Nat.mul_le_mul (pw_pow h t) (Nat.le_of_lt h)
theorem pw_mono {x m n : Nat} (h : x < 2 ^ m) (hm : m ≤ n) : x < 2 ^ n := Nat.lt_of_lt_of_le h (Nat.pow_le_pow_right (by omega) hm)
theorem pw_mul_le {x y : Int} {m n : Nat} (h1 : x.natAbs < 2 ^ m) (h2 : y.natAbs ≤ 2 ^ n) : (x * y).natAbs < 2 ^ (m + n) := by
  rw [Int.natAbs_mul, Nat.pow_add]
  exact Nat.mul_lt_mul_of_lt_of_le h1 h2 (Nat.two_pow_pos _)
theorem pw_sub {x y : Int} {m : Nat} (h1 : x.natAbs < 2 ^ m) (h2 : y.natAbs < 2 ^ m) : (x - y).natAbs < 2 ^ (m + 1) := by
  rw [Nat.pow_succ]
  omega
/-- a row's numbers over one bottom, another's lead -/
structure Fr (a b : List Rat) (N M : Nat) (D E v : Int) : Prop where
  D0 : D ≠ 0
  D1 : D.natAbs < 2 ^ N
  at_ : ∀ i, ∃ z : Int, z.natAbs < 2 ^ N ∧ cf a i = (z : Rat) / (D : Rat)
  E0 : E ≠ 0
  E1 : E.natAbs < 2 ^ M
  bt : ∀ i, ∃ z : Int, z.natAbs < 2 ^ M ∧ cf b i = (z : Rat) / (E : Rat)
  v0 : v ≠ 0
  v1 : v.natAbs < 2 ^ M
  ld : cf b (b.length - 1) = (v : Rat) / (E : Rat)
theorem fr_of {a b : List Rat} {N M : Nat} (ha : CD N a) (hb : CD M b) (tb : Tr b) (h0 : b ≠ []) : ∃ D E v : Int, Fr a b N M D E v := by
  obtain ⟨D, d0, d1, d2⟩ := cd_frac' ha
  obtain ⟨E, e0, e1, e2⟩ := cd_frac' hb
  obtain ⟨v, v1, v2⟩ := e2 (b.length - 1)
  refine ⟨D, E, v, d0, d1, d2, e0, e1, e2, fun z => ?_, v1, v2⟩
  have hl := tr_last tb h0
  rw [v2, z] at hl
  exact hl (by have : ((0 : Int) : Rat) = 0 := rfl; rw [this]; grind)
section
variable {a b : List Rat} {N M : Nat} {D E v : Int}
theorem Fr.sh (F : Fr a b N M D E v) (p i : Nat) : ∃ z : Int, z.natAbs < 2 ^ M ∧ sh b p i = (z : Rat) / (E : Rat) := by
  unfold TM.sh
  split
  · exact F.bt _
  · refine ⟨0, Nat.two_pow_pos _, ?_⟩
    have : ((0 : Int) : Rat) = 0 := rfl
    rw [this]
    grind
theorem Fr.w0 (F : Fr a b N M D E v) (t : Nat) : D * v ^ t ≠ 0 := Int.mul_ne_zero F.D0 (Int.pow_ne_zero F.v0)
theorem Fr.w1 (F : Fr a b N M D E v) (t : Nat) : (D * v ^ t).natAbs < 2 ^ (N + t * M) := pw_mul_le F.D1 (pw_pow F.v1 t)
theorem w_succ (t : Nat) : ((D * v ^ (t + 1) : Int) : Rat) = ((D * v ^ t : Int) : Rat) * (v : Rat) := by
  rw [Int.pow_succ, ← Int.mul_assoc, Rat.intCast_mul]
theorem Fr.r (F : Fr a b N M D E v) : ∀ t i : Nat, ∃ z : Int, z.natAbs < 2 ^ (N + t * (M + 1)) ∧ dR a b t i = (z : Rat) / ((D * v ^ t : Int) : Rat)
  | 0, i => by
    obtain ⟨z, z1, z2⟩ := F.at_ i
    refine ⟨z, by simpa using z1, ?_⟩
    rw [show D * v ^ 0 = D from by rw [Int.pow_zero, Int.mul_one]]
    exact z2
  | t + 1, i => by
    obtain ⟨x, x1, x2⟩ := Fr.r F t i
    obtain ⟨u, u1, u2⟩ := Fr.r F t (dN a b - 1 - t + b.length - 1)
    obtain ⟨y, y1, y2⟩ := F.sh (dN a b - 1 - t) i
    refine ⟨x * v - u * y, ?_, ?_⟩
    · have := pw_sub (pw_mul x1 F.v1) (pw_mul u1 y1)
      refine pw_mono this ?_
      rw [Nat.succ_mul]
      omega
    · rw [dR_succ, x2, y2]
      unfold dby
      rw [u2, F.ld, w_succ, Rat.intCast_sub, Rat.intCast_mul, Rat.intCast_mul]
      have h1 := int_ne (F.w0 t)
      have h2 := int_ne F.v0
      have h3 := int_ne F.E0
      generalize ((D * v ^ t : Int) : Rat) = W at *
      grind
theorem Fr.hbR (F : Fr a b N M D E v) (t i : Nat) : Hb (N + t * (M + 1)) (dR a b t i) := by
  obtain ⟨z, z1, z2⟩ := F.r t i
  rw [z2]
  refine hb_frac (F.w0 t) z1 (pw_mono (F.w1 t) ?_)
  have := Nat.mul_le_mul_left t (show M ≤ M + 1 by omega)
  omega
theorem Fr.q (F : Fr a b N M D E v) (t : Nat) : ∃ z : Int, z.natAbs < 2 ^ (N + t * (M + 1)) ∧ dby b (dN a b - 1 - t) (dR a b t) = ((z * E : Int) : Rat) / ((D * v ^ (t + 1) : Int) : Rat) := by
  obtain ⟨z, z1, z2⟩ := F.r t (dN a b - 1 - t + b.length - 1)
  refine ⟨z, z1, ?_⟩
  unfold dby
  rw [z2, F.ld, w_succ, Rat.intCast_mul]
  have h1 := int_ne (F.w0 t)
  have h2 := int_ne F.v0
  have h3 := int_ne F.E0
  generalize ((D * v ^ t : Int) : Rat) = W at *
  grind
theorem Fr.hbQ (F : Fr a b N M D E v) {p : Nat} (hp : p < dN a b) : Hb (N + (dN a b - 1) * (M + 1) + M) (dQ a b p) := by
  obtain ⟨z, z1, z2⟩ := F.q (dN a b - 1 - p)
  have e : dQ a b p = dby b (dN a b - 1 - (dN a b - 1 - p)) (dR a b (dN a b - 1 - p)) := by
    unfold dQ
    rw [show dN a b - 1 - (dN a b - 1 - p) = p from by omega]
  rw [e, z2]
  have k1 := Nat.mul_le_mul_right (M + 1) (show dN a b - 1 - p ≤ dN a b - 1 by omega)
  have k2 := Nat.mul_le_mul_right M (show dN a b - 1 - p + 1 ≤ dN a b - 1 + 1 by omega)
  have k3 := Nat.mul_le_mul_left (dN a b - 1) (show M ≤ M + 1 by omega)
  rw [Nat.succ_mul (dN a b - 1)] at k2
  refine hb_frac (F.w0 _) (pw_mono (pw_mul z1 F.E1) (by omega)) (pw_mono (F.w1 _) (by omega))
theorem Fr.hbM (F : Fr a b N M D E v) {p : Nat} (hp : p < dN a b) (i : Nat) : Hb (N + (dN a b - 1) * (M + 1) + M) (dQ a b p * cf b i) := by
  obtain ⟨z, z1, z2⟩ := F.q (dN a b - 1 - p)
  obtain ⟨y, y1, y2⟩ := F.bt i
  have e : dQ a b p = dby b (dN a b - 1 - (dN a b - 1 - p)) (dR a b (dN a b - 1 - p)) := by
    unfold dQ
    rw [show dN a b - 1 - (dN a b - 1 - p) = p from by omega]
  have e2 : dQ a b p * cf b i = ((z * y : Int) : Rat) / ((D * v ^ (dN a b - 1 - p + 1) : Int) : Rat) := by
    rw [e, z2, y2, Rat.intCast_mul, Rat.intCast_mul]
    have h1 := int_ne (F.w0 (dN a b - 1 - p + 1))
    have h3 := int_ne F.E0
    generalize ((D * v ^ (dN a b - 1 - p + 1) : Int) : Rat) = W at *
    grind
  rw [e2]
  have k1 := Nat.mul_le_mul_right (M + 1) (show dN a b - 1 - p ≤ dN a b - 1 by omega)
  have k2 := Nat.mul_le_mul_right M (show dN a b - 1 - p + 1 ≤ dN a b - 1 + 1 by omega)
  have k3 := Nat.mul_le_mul_left (dN a b - 1) (show M ≤ M + 1 by omega)
  rw [Nat.succ_mul (dN a b - 1)] at k2
  refine hb_frac (F.w0 _) (pw_mono (pw_mul z1 y1) (by omega)) (pw_mono (F.w1 _) (by omega))
end
/-- the rest, number by number -/
theorem cf_rem {a b : List Rat} (tb : Tr b) (h0 : b ≠ []) (i : Nat) : cf (remL a b) i = dR a b (dN a b) i := by
  have hl := List.length_pos_iff.mpr h0
  have hN : dN a b = a.length + 1 - b.length := rfl
  unfold remL
  rw [cf_trim, cf_map]
  split
  · rfl
  · exact (dR_top (tr_last tb h0) hl _ (Nat.le_refl _) i (by omega)).symm
theorem cf_quo (a b : List Rat) (p : Nat) : cf (quoL a b) p = if p < dN a b then dQ a b p else 0 := by
  unfold quoL
  rw [cf_trim, cf_map]
theorem cd_rem {a b : List Rat} {N M : Nat} (ha : CD N a) (hb : CD M b) (tb : Tr b) (h0 : b ≠ []) : CD (N + dN a b * (M + 1)) (remL a b) := by
  obtain ⟨D, E, v, F⟩ := fr_of ha hb tb h0
  have k3 := Nat.mul_le_mul_left (dN a b) (show M ≤ M + 1 by omega)
  refine cd_frac (F.w0 (dN a b)) (pw_mono (F.w1 _) (by omega)) fun i => ?_
  obtain ⟨z, z1, z2⟩ := F.r (dN a b) i
  exact ⟨z, z1, by rw [cf_rem tb h0, z2]⟩
theorem cd_quo {a b : List Rat} {N M : Nat} (ha : CD N a) (hb : CD M b) (tb : Tr b) (h0 : b ≠ []) : CD (N + dN a b * (M + 1)) (quoL a b) := by
  obtain ⟨D, E, v, F⟩ := fr_of ha hb tb h0
  have k3 := Nat.mul_le_mul_left (dN a b) (show M ≤ M + 1 by omega)
  refine cd_frac (F.w0 (dN a b)) (pw_mono (F.w1 _) (by omega)) fun p => ?_
  rw [cf_quo]
  split
  · rename_i hp
    obtain ⟨z, z1, z2⟩ := F.q (dN a b - 1 - p)
    have e : dQ a b p = dby b (dN a b - 1 - (dN a b - 1 - p)) (dR a b (dN a b - 1 - p)) := by
      unfold dQ
      rw [show dN a b - 1 - (dN a b - 1 - p) = p from by omega]
    refine ⟨z * E * v ^ p, ?_, ?_⟩
    · refine pw_mono (pw_mul_le (pw_mul z1 F.E1) (pw_pow F.v1 p)) ?_
      have h1 : (dN a b - 1 - p) * (M + 1) + (p + 1) * (M + 1) = dN a b * (M + 1) := by
        rw [← Nat.add_mul]
        congr 1
        omega
      have h2 : (p + 1) * (M + 1) = p * M + p + M + 1 := by
        rw [Nat.succ_mul, Nat.mul_succ]
        omega
      omega
    · rw [e, z2]
      have e3 : D * v ^ dN a b = D * v ^ (dN a b - 1 - p + 1) * v ^ p := by
        rw [Int.mul_assoc, ← Int.pow_add]
        congr 2
        omega
      rw [e3, Rat.intCast_mul _ (v ^ p), Rat.intCast_mul _ (v ^ p)]
      have h1 := int_ne (F.w0 (dN a b - 1 - p + 1))
      have h2 := int_ne (show v ^ p ≠ 0 from Int.pow_ne_zero F.v0)
      generalize ((D * v ^ (dN a b - 1 - p + 1) : Int) : Rat) = W at *
      generalize ((v ^ p : Int) : Rat) = V at *
      grind
  · exact ⟨0, Nat.two_pow_pos _, by have : ((0 : Int) : Rat) = 0 := rfl; rw [this]; grind⟩
theorem div_ok_of {a b : List Rat} {N M : Nat} (ha : CD N a) (hb : CD M b) (tb : Tr b) (h0 : b ≠ []) (h1 : N + (dN a b - 1) * (M + 1) + M ≤ 4490) (hr : CD 4490 (remL a b)) : DivOk a b := by
  obtain ⟨D, E, v, F⟩ := fr_of ha hb tb h0
  refine ⟨fun t i ht => ?_, fun p hp => (F.hbQ hp).mono h1, fun i => (hb.hb i).mono (by omega), fun p i hp => (F.hbM hp i).mono h1⟩
  by_cases hT : t = dN a b
  · subst hT
    rw [← cf_rem tb h0]
    exact hr.hb i
  · refine (F.hbR t i).mono ?_
    have := Nat.mul_le_mul_right (M + 1) (show t ≤ dN a b - 1 by omega)
    omega
theorem div_ok {a b : List Rat} {N M : Nat} (ha : CD N a) (hb : CD M b) (tb : Tr b) (h0 : b ≠ []) (h1 : N + (dN a b - 1) * (M + 1) + M ≤ 4490) (h2 : N + dN a b * (M + 1) ≤ 4490) : DivOk a b := div_ok_of ha hb tb h0 h1 ((cd_rem ha hb tb h0).mono h2)
end TM
/-! ## MtEuc -/
set_option Elab.async false
set_option linter.all false
set_option maxRecDepth 100000
set_option maxHeartbeats 4000000
set_option exponentiation.threshold 100000
/-! MtEuc: a division of products; the identity. -/
namespace TM
theorem sumR_lin (f g : Nat → Rat) (q : Rat) : ∀ n : Nat, sumR n (fun i => f i - q * g i) = sumR n f - q * sumR n g
  | 0 => by
    unfold sumR
    grind
  | n + 1 => by
    unfold sumR
    rw [sumR_lin f g q n]
    grind
theorem sumR_one {f : Nat → Rat} {k : Nat} : ∀ {n : Nat}, k < n → (∀ i, i < n → i ≠ k → f i = 0) → sumR n f = f k
  | 0, h, _ => by omega
  | n + 1, h, hz => by
    show sumR n f + f n = f k
    by_cases e : k = n
    · rw [sumR_zero fun i hi => hz i (by omega) (by omega), e]
      grind
    · rw [sumR_one (by omega) (fun i hi => hz i (by omega)), hz n (by omega) (fun z => e z.symm)]
      grind
theorem sumR_more {f : Nat → Rat} {n : Nat} (m : Nat) (h : ∀ i, n ≤ i → f i = 0) : sumR (n + m) f = sumR n f := by
  rw [sumR_add, sumR_zero (n := m) (f := fun i => f (n + i)) fun i _ => h _ (by omega)]
  grind
/-- pl times a function -/
def cvF (pl : List Rat) (F : Nat → Rat) (k : Nat) : Rat := sumR (k + 1) fun j => cf pl j * F (k - j)
theorem conv_cv (a b : List Rat) (k : Nat) : convL a b k = cvF a (cf b) k := rfl
theorem cvF_congr {pl : List Rat} {F G : Nat → Rat} (h : ∀ i, F i = G i) (k : Nat) : cvF pl F k = cvF pl G k := sumR_congr fun i _ => by rw [h]
theorem cvF_sub (pl : List Rat) (F G : Nat → Rat) (q : Rat) (k : Nat) : cvF pl (fun i => F i - q * G i) k = cvF pl F k - q * cvF pl G k := by
  unfold cvF
  rw [← sumR_lin]
  exact sumR_congr fun i _ => by grind
theorem cvF_sh (pl b : List Rat) (p i : Nat) : cvF pl (sh b p) i = if p ≤ i then cvF pl (cf b) (i - p) else 0 := by
  unfold cvF
  by_cases h : p ≤ i
  · rw [if_pos h, show i + 1 = (i - p + 1) + p from by omega, sumR_add, sumR_zero (n := p) (f := fun r => cf pl (i - p + 1 + r) * sh b p (i - (i - p + 1 + r))) fun r hr => by
      rw [sh_low (by omega)]
      grind]
    rw [sumR_congr (g := fun j => cf pl j * cf b (i - p - j)) fun j hj => by
      unfold sh
      rw [if_pos (by omega), show i - j - p = i - p - j from by omega]]
    grind
  · rw [if_neg h]
    refine sumR_zero fun j _ => ?_
    rw [sh_low (by omega)]
    grind
theorem cvF_top {pl : List Rat} {F : Nat → Rat} {m : Nat} (hp : pl ≠ []) (hF : ∀ i, m < i → F i = 0) : cvF pl F (pl.length - 1 + m) = cf pl (pl.length - 1) * F m := by
  have hl := List.length_pos_iff.mpr hp
  unfold cvF
  rw [sumR_one (k := pl.length - 1) (by omega) fun j hj hne => ?_]
  · rw [show pl.length - 1 + m - (pl.length - 1) = m from by omega]
  · by_cases h : j < pl.length
    · rw [hF _ (by omega)]
      grind
    · rw [cf_out (by omega)]
      grind
theorem cvF_high {pl : List Rat} {F : Nat → Rat} {n k : Nat} (hF : ∀ i, n ≤ i → F i = 0) (hk : pl.length + n ≤ k + 1) : cvF pl F k = 0 := by
  unfold cvF
  refine sumR_zero fun j hj => ?_
  by_cases h : j < pl.length
  · rw [hF _ (by omega)]
    grind
  · rw [cf_out (by omega)]
    grind
theorem len_of {l : List Rat} {k : Nat} (t : Tr l) (h : cf l k ≠ 0) (hz : ∀ i, k < i → cf l i = 0) : l.length = k + 1 := by
  have h1 : k < l.length := by
    rcases Nat.lt_or_ge k l.length with q | q
    · exact q
    · exact absurd (cf_out q) h
  rcases Nat.lt_or_ge (k + 1) l.length with q | q
  · exact absurd (hz _ (by omega)) (tr_last t (fun e => by rw [e] at q; cases q))
  · omega
theorem nil_of {l : List Rat} (t : Tr l) (h : ∀ i, cf l i = 0) : l = [] := ext_cf t rfl fun i => by
  rw [h]
  rfl
/-- A is c times pl times f -/
structure Rl (pl f A : List Rat) (c : Rat) : Prop where
  ta : Tr A
  c0 : c ≠ 0
  at_ : ∀ i, cf A i = c * cvF pl (cf f) i
section
variable {pl f g A B : List Rat} {c d : Rat}
theorem cvF_nil (k : Nat) : cvF pl (cf []) k = 0 := sumR_zero fun j _ => by
  rw [cf_out (l := []) (by simp)]
  grind
theorem Rl.nil (R : Rl pl [] A c) : A = [] := nil_of R.ta fun i => by
  rw [R.at_, cvF_nil]
  grind
theorem Rl.len (hp : pl ≠ []) (tp : Tr pl) (tf : Tr f) (hf : f ≠ []) (R : Rl pl f A c) : A.length = pl.length - 1 + (f.length - 1) + 1 := by
  have hl := List.length_pos_iff.mpr hp
  have hm := List.length_pos_iff.mpr hf
  refine len_of R.ta ?_ fun i hi => ?_
  · rw [R.at_, cvF_top hp fun i hi => cf_out (by omega)]
    have h1 := tr_last tp hp
    have h2 := tr_last tf hf
    have h3 := R.c0
    grind
  · rw [R.at_, cvF_high (n := f.length) (fun i hi => cf_out hi) (by omega)]
    grind
theorem Rl.nil_iff (hp : pl ≠ []) (tp : Tr pl) (tf : Tr f) (R : Rl pl f A c) : A = [] ↔ f = [] := by
  constructor
  · intro e
    by_cases hf : f = []
    · exact hf
    · have := R.len hp tp tf hf
      rw [e] at this
      simp at this
  · intro e
    subst e
    exact R.nil
theorem Rl.dn (hp : pl ≠ []) (tp : Tr pl) (tf : Tr f) (tg : Tr g) (hg : g ≠ []) (R : Rl pl f A c) (S : Rl pl g B d) : dN A B = dN f g := by
  have hl := List.length_pos_iff.mpr hp
  have hm := List.length_pos_iff.mpr hg
  have h1 := S.len hp tp tg hg
  unfold dN
  by_cases hf : f = []
  · have e := (R.nil_iff hp tp tf).mpr hf
    rw [e, hf]
    simp only [List.length_nil]
    omega
  · have h2 := R.len hp tp tf hf
    have := List.length_pos_iff.mpr hf
    omega
theorem Rl.rest (hp : pl ≠ []) (tp : Tr pl) (tf : Tr f) (tg : Tr g) (hg : g ≠ []) (R : Rl pl f A c) (S : Rl pl g B d) : ∀ t, t ≤ dN f g → ∀ i, dR A B t i = c * cvF pl (dR f g t) i
  | 0, _, i => R.at_ i
  | t + 1, ht, i => by
    have hl := List.length_pos_iff.mpr hp
    have hm := List.length_pos_iff.mpr hg
    have hN : dN f g = f.length + 1 - g.length := rfl
    have e0 := R.dn hp tp tf tg hg S
    have eB := S.len hp tp tg hg
    have ih := Rl.rest hp tp tf tg hg R S t (by omega)
    have hz : ∀ i, dN f g - 1 - t + g.length - 1 < i → dR f g t i = 0 := fun i hi => dR_top (tr_last tg hg) hm t (by omega) i (by omega)
    have top := cvF_top hp hz
    have topg : cvF pl (cf g) (pl.length - 1 + (g.length - 1)) = cf pl (pl.length - 1) * cf g (g.length - 1) := cvF_top hp fun i hi => cf_out (by omega)
    have ld : cf B (B.length - 1) = d * (cf pl (pl.length - 1) * cf g (g.length - 1)) := by
      rw [S.at_, show B.length - 1 = pl.length - 1 + (g.length - 1) from by omega, topg]
    have up : dR A B t (dN f g - 1 - t + B.length - 1) = c * (cf pl (pl.length - 1) * dR f g t (dN f g - 1 - t + g.length - 1)) := by
      rw [ih, show dN f g - 1 - t + B.length - 1 = pl.length - 1 + (dN f g - 1 - t + g.length - 1) from by omega, top]
    have es : TM.sh B (dN f g - 1 - t) i = d * cvF pl (TM.sh g (dN f g - 1 - t)) i := by
      rw [cvF_sh]
      unfold TM.sh
      split
      · exact S.at_ _
      · grind
    have ec : cvF pl (dR f g (t + 1)) i = cvF pl (dR f g t) i - dby g (dN f g - 1 - t) (dR f g t) * cvF pl (TM.sh g (dN f g - 1 - t)) i := by
      rw [← cvF_sub]
      exact cvF_congr (fun i => dR_succ f g t i) i
    rw [ec, dR_succ, e0, ih i, es]
    unfold dby
    rw [ld, up]
    have h1 := tr_last tp hp
    have h2 := tr_last tg hg
    have h3 := R.c0
    have h4 := S.c0
    generalize cf pl (pl.length - 1) = a1 at *
    generalize cf g (g.length - 1) = a2 at *
    generalize dR f g t (dN f g - 1 - t + g.length - 1) = a3 at *
    generalize cvF pl (dR f g t) i = a4 at *
    generalize cvF pl (TM.sh g (dN f g - 1 - t)) i = a5 at *
    have e : c * (a1 * a3) / (d * (a1 * a2)) * (d * a5) = c * (a3 / a2 * a5) := by grind
    rw [e]
    grind
theorem Rl.rem (hp : pl ≠ []) (tp : Tr pl) (tf : Tr f) (tg : Tr g) (hg : g ≠ []) (R : Rl pl f A c) (S : Rl pl g B d) : Rl pl (remL f g) (remL A B) c := by
  have hB : B ≠ [] := fun e => hg ((S.nil_iff hp tp tg).mp e)
  refine ⟨tr_rem _ _, R.c0, fun i => ?_⟩
  rw [cf_rem S.ta hB, R.dn hp tp tf tg hg S, R.rest hp tp tf tg hg S _ (Nat.le_refl _)]
  rw [cvF_congr (fun i => (cf_rem tg hg i).symm) i]
end
/-! ### the identity -/
theorem dR_sum (a b : List Rat) (i : Nat) : ∀ t, dR a b t i + sumR t (fun s => dby b (dN a b - 1 - s) (dR a b s) * sh b (dN a b - 1 - s) i) = cf a i
  | 0 => by
    unfold sumR
    show cf a i + 0 = cf a i
    grind
  | t + 1 => by
    rw [dR_succ]
    have ih := dR_sum a b i t
    unfold sumR
    grind
theorem div_eq {a b : List Rat} (ta : Tr a) (tb : Tr b) (h0 : b ≠ []) : addL 1 (mulL (quoL a b) b) (remL a b) = a := ext_cf (tr_add _ _ _) ta fun i => by
  rw [cf_add, cf_mul, cf_rem tb h0, ← dR_sum a b i (dN a b)]
  have e1 : sumR (dN a b) (fun s => dby b (dN a b - 1 - s) (dR a b s) * sh b (dN a b - 1 - s) i) = sumR (dN a b) fun p => dQ a b p * sh b p i := by
    rw [sumR_rev]
    refine sumR_congr fun p hp => ?_
    rw [show dN a b - 1 - (dN a b - 1 - p) = p from by omega]
    rfl
  have e2 : sumR (dN a b) (fun p => dQ a b p * sh b p i) = sumR (dN a b) fun p => if p < dN a b ∧ p ≤ i then dQ a b p * cf b (i - p) else 0 := sumR_congr fun p hp => by
    unfold sh
    by_cases h : p ≤ i
    · rw [if_pos h, if_pos ⟨hp, h⟩]
    · rw [if_neg h, if_neg (fun z => h z.2)]
      grind
  have e3 : convL (quoL a b) b i = sumR (i + 1) fun p => if p < dN a b ∧ p ≤ i then dQ a b p * cf b (i - p) else 0 := sumR_congr fun p hp => by
    rw [cf_quo]
    by_cases h : p < dN a b
    · rw [if_pos h, if_pos ⟨h, by omega⟩]
    · rw [if_neg h, if_neg (fun z => h z.1)]
      grind
  rw [e1, e2, e3, ← sumR_more (n := dN a b) (i + 1) fun p hp => if_neg (by omega), ← sumR_more (n := i + 1) (dN a b) fun p hp => if_neg (by omega), Nat.add_comm (dN a b) (i + 1)]
  grind
/-! ### made plain -/
theorem cf_plain {a : List Rat} (i : Nat) : cf (plainL a) i = cf a i / cf a (a.length - 1) := by
  have e : a.getLastD 0 = cf a (a.length - 1) := by
    cases a with
    | nil => rfl
    | cons q l =>
      rw [cf_in (by simp), ← List.getLast_eq_getElem (by simp), List.getLastD_eq_getLast?, List.getLast?_eq_some_getLast (by simp)]
      rfl
  unfold plainL
  rw [cf_trim, cf_mapQ (fun q => q / a.getLastD 0) (by grind), e]
theorem len_prop {x y : List Rat} {c : Rat} (tx : Tr x) (ty : Tr y) (hc : c ≠ 0) (h : ∀ i, cf x i = c * cf y i) : x.length = y.length := by
  by_cases hy : y = []
  · subst hy
    rw [nil_of tx fun i => by
      rw [h, cf_out (l := []) (by simp)]
      grind]
  · have hl := List.length_pos_iff.mpr hy
    have := len_of (k := y.length - 1) tx (by
      rw [h]
      have := tr_last ty hy
      grind) (fun i hi => by
      rw [h, cf_out (by omega)]
      grind)
    omega
theorem tr_plain (a : List Rat) : Tr (plainL a) := tr_trim _
theorem plain_prop {x y : List Rat} {c : Rat} (tx : Tr x) (ty : Tr y) (hc : c ≠ 0) (h : ∀ i, cf x i = c * cf y i) : plainL x = plainL y := ext_cf (tr_plain _) (tr_plain _) fun i => by
  rw [cf_plain, cf_plain, len_prop tx ty hc h, h, h]
  by_cases hz : cf y (y.length - 1) = 0
  · rw [hz]
    grind
  · grind
theorem cd_nil {n : Nat} {y : List Rat} (h : CD n y) : CD n [] := by
  obtain ⟨D, d0, d1, _⟩ := h
  refine ⟨D, d0, d1, fun i => ⟨0, Nat.two_pow_pos _, ?_⟩⟩
  rw [cf_out (by simp), Rat.divInt_eq_div]
  have : ((0 : Int) : Rat) = 0 := rfl
  rw [this]
  grind
theorem cd_plain {n : Nat} {y : List Rat} (ty : Tr y) (h : CD n y) : CD n (plainL y) := by
  by_cases hy : y = []
  · subst hy
    exact cd_nil h
  · obtain ⟨D, d0, d1, d2⟩ := cd_frac' h
    obtain ⟨v, v1, v2⟩ := d2 (y.length - 1)
    have hl := tr_last ty hy
    have hD := int_ne d0
    have v0 : v ≠ 0 := fun z => by
      rw [v2, z] at hl
      exact hl (by have : ((0 : Int) : Rat) = 0 := rfl; rw [this]; grind)
    refine cd_frac v0 v1 fun i => ?_
    obtain ⟨z, z1, z2⟩ := d2 i
    refine ⟨z, z1, ?_⟩
    rw [cf_plain, z2, v2]
    have hv := int_ne v0
    grind
end TM
/-! ## MtShort -/
set_option Elab.async false
set_option linter.all false
set_option maxRecDepth 100000
set_option maxHeartbeats 4000000
set_option exponentiation.threshold 100000
/-! MtShort: rows made short. -/
namespace TM
theorem lcm_dvd_all {D : Nat} : ∀ (l : List Rat) (n : Nat), n ∣ D → (∀ q ∈ l, q.den ∣ D) → l.foldl (fun n q => Nat.lcm n q.den) n ∣ D
  | [], _, h, _ => h
  | q :: l, n, h, hl => lcm_dvd_all l _ (Nat.lcm_dvd h (hl q (.head _))) fun x hx => hl x (.tail _ hx)
theorem den_dvd {z : Int} {D : Nat} (hD : 0 < D) : (Rat.divInt z D).den ∣ D := by
  rw [Rat.den_divInt, if_neg (by omega)]
  exact Nat.div_dvd_of_dvd (Int.gcd_dvd_natAbs_left ..)
theorem mem_cf {l : List Rat} {q : Rat} (h : q ∈ l) : ∃ i, i < l.length ∧ cf l i = q := by
  obtain ⟨i, hi, e⟩ := List.mem_iff_getElem.mp h
  exact ⟨i, hi, by rw [cf_in hi, e]⟩
theorem cf_mem {l : List Rat} {i : Nat} (h : i < l.length) : cf l i ∈ l := by
  rw [cf_in h]
  exact List.getElem_mem _
theorem lcm_le_cd {D : Nat} {l : List Rat} (hD : 0 < D) (h : ∀ i, ∃ z : Int, cf l i = Rat.divInt z D) : lcmF l ≤ D := by
  refine Nat.le_of_dvd hD (lcm_dvd_all l 1 (Nat.one_dvd _) fun q hq => ?_)
  obtain ⟨i, _, e⟩ := mem_cf hq
  obtain ⟨z, e2⟩ := h i
  rw [← e, e2]
  exact den_dvd hD
theorem den_num (q : Rat) : q * (q.den : Rat) = (q.num : Rat) := by
  have e : (q.num : Rat) / (((q.den : Nat) : Int) : Rat) = q := by
    rw [← Rat.divInt_eq_div]
    exact Rat.num_divInt_den q
  have h := dn_ne q.den_pos
  have q1 : (((q.den : Nat) : Int) : Rat) = (q.den : Rat) := rfl
  rw [q1] at e
  generalize (q.den : Rat) = d at *
  generalize (q.num : Rat) = n at *
  rw [← e]
  grind
theorem num_on {L : Nat} {q : Rat} (h : q.den ∣ L) : ((numOn L q : Int) : Rat) = q * (L : Rat) := by
  obtain ⟨m, rfl⟩ := h
  unfold numOn
  rw [Nat.mul_div_cancel_left _ q.den_pos, Rat.intCast_mul, Rat.natCast_mul]
  have e : q * (q.den : Rat) = (q.num : Rat) := den_num q
  have e2 : (((m : Nat) : Int) : Rat) = (m : Rat) := rfl
  rw [e2, ← Rat.mul_assoc, e]
theorem most_great {L d : Nat} : ∀ (l : List Rat) (n : Nat), d ∣ n → (∀ q ∈ l, d ∣ (numOn L q).natAbs) → d ∣ l.foldl (fun m q => Nat.gcd m (numOn L q).natAbs) n
  | [], _, h, _ => h
  | q :: l, n, h, hl => most_great l _ (Nat.dvd_gcd h (hl q (.head _))) fun x hx => hl x (.tail _ hx)
theorem sh_ok {n : Nat} {r : List Rat} (tr : Tr r) (len : r.length ≤ 100) (h : CD n r) (hn : n ≤ 4490) (h0 : 0 < n) : ShOk r := by
  obtain ⟨D, d0, d1, d2⟩ := h
  have hL : lcmF r ≤ D := lcm_le_cd d0 fun i => by
    obtain ⟨z, _, e⟩ := d2 i
    exact ⟨z, e⟩
  refine ⟨tr, len, fun q hq => ?_, ?_, ?_⟩
  · obtain ⟨i, _, e⟩ := mem_cf hq
    obtain ⟨z, z1, z2⟩ := d2 i
    rw [← e, z2]
    exact (hb_div d0 z1 d1).mono hn
  · have := log_lt (Nat.lt_of_le_of_lt hL d1) h0
    omega
  · by_cases hr : r = []
    · subst hr
      have e : mostF (lcmF []) [] = 0 := rfl
      rw [e]
      decide
    · have hl := List.length_pos_iff.mpr hr
      have hm : cf r (r.length - 1) ∈ r := cf_mem (by omega)
      have hd := mostF_dvd (lcmF r) r _ hm
      have hne := numOn_ne hm (tr_last tr hr)
      have h1 := Nat.le_of_dvd (by omega) hd
      obtain ⟨z, z1, z2⟩ := d2 (r.length - 1)
      have e := num_on (lcm_dvd_mem r _ hm)
      have hz : (numOn (lcmF r) (cf r (r.length - 1))).natAbs ≤ z.natAbs := by
        generalize numOn (lcmF r) (cf r (r.length - 1)) = x at *
        rw [z2, Rat.divInt_eq_div] at e
        have hD := dn_ne d0
        have e3 : ((x * (D : Int) : Int) : Rat) = ((z * (lcmF r : Int) : Int) : Rat) := by
          rw [Rat.intCast_mul, Rat.intCast_mul]
          have q1 : (((D : Nat) : Int) : Rat) = (D : Rat) := rfl
          have q2 : (((lcmF r : Nat) : Int) : Rat) = (lcmF r : Rat) := rfl
          rw [q1] at e ⊢
          rw [q2]
          rw [e]
          grind
        have e4 : x * (D : Int) = z * (lcmF r : Int) := Rat.intCast_inj.mp e3
        have e5 : x.natAbs * D = z.natAbs * lcmF r := by
          have := congrArg Int.natAbs e4
          rw [Int.natAbs_mul, Int.natAbs_mul, Int.natAbs_natCast, Int.natAbs_natCast] at this
          exact this
        refine Nat.le_of_mul_le_mul_right (c := D) ?_ d0
        rw [e5]
        exact Nat.mul_le_mul_left _ hL
      have := log_lt (n := n) (a := mostF (lcmF r) r) (by omega) h0
      omega
/-- the short row's numbers -/
theorem short_at {r : List Rat} (tr : Tr r) (hr : r ≠ []) : ∃ k : Rat, k ≠ 0 ∧ (∀ i, cf (shortL r) i = k * cf r i) ∧ (∀ i, ∃ w : Int, cf (shortL r) i = (w : Rat)) ∧ ∀ u : Nat, (∀ i (w : Int), cf (shortL r) i = (w : Rat) → u ∣ w.natAbs) → u = 1 := by
  have hG := mostF_pos tr hr
  have hL := lcmF_pos r
  have eG := dn_ne hG
  have eL := dn_ne hL
  have ek : rt (lcmF r) (mostF (lcmF r) r) = (lcmF r : Rat) / (mostF (lcmF r) r : Rat) := Rat.divInt_eq_div ..
  have at_ : ∀ i, cf (shortL r) i = (lcmF r : Rat) / (mostF (lcmF r) r : Rat) * cf r i := fun i => by
    unfold shortL
    rw [if_neg hr, cf_scale, ek]
    grind
  have key : ∀ i, i < r.length → cf (shortL r) i * (mostF (lcmF r) r : Rat) = ((numOn (lcmF r) (cf r i) : Int) : Rat) := fun i hi => by
    rw [at_, num_on (lcm_dvd_mem r _ (cf_mem hi))]
    grind
  refine ⟨_, by grind, at_, fun i => ?_, fun u hu => ?_⟩
  · by_cases hi : i < r.length
    · have hd := mostF_dvd (lcmF r) r _ (cf_mem hi)
      obtain ⟨w, hw⟩ : ((mostF (lcmF r) r : Nat) : Int) ∣ numOn (lcmF r) (cf r i) := Int.ofNat_dvd_left.mpr hd
      refine ⟨w, ?_⟩
      have e := key i hi
      rw [hw, Rat.intCast_mul] at e
      have q1 : (((mostF (lcmF r) r : Nat) : Int) : Rat) = (mostF (lcmF r) r : Rat) := rfl
      rw [q1] at e
      grind
    · refine ⟨0, ?_⟩
      rw [at_, cf_out (by omega)]
      have : ((0 : Int) : Rat) = 0 := rfl
      rw [this]
      grind
  · have hd : mostF (lcmF r) r * u ∣ mostF (lcmF r) r := by
      refine most_great r 0 (Nat.dvd_zero _) fun q hq => ?_
      obtain ⟨i, hi, e⟩ := mem_cf hq
      have hd := mostF_dvd (lcmF r) r _ hq
      obtain ⟨w, hw⟩ : ((mostF (lcmF r) r : Nat) : Int) ∣ numOn (lcmF r) q := Int.ofNat_dvd_left.mpr hd
      have e2 := key i hi
      rw [e, hw, Rat.intCast_mul] at e2
      have q1 : (((mostF (lcmF r) r : Nat) : Int) : Rat) = (mostF (lcmF r) r : Rat) := rfl
      rw [q1] at e2
      have e3 : cf (shortL r) i = (w : Rat) := by grind
      rw [hw, Int.natAbs_mul, Int.natAbs_natCast]
      exact Nat.mul_dvd_mul_left _ (hu i w e3)
    have h2 := Nat.le_of_dvd hG hd
    have h3 : mostF (lcmF r) r * u ≤ mostF (lcmF r) r * 1 := by omega
    have h4 : u ≤ 1 := Nat.le_of_mul_le_mul_left h3 hG
    rcases Nat.eq_zero_or_pos u with h5 | h5
    · rw [h5, Nat.mul_zero] at hd
      have := Nat.eq_zero_of_zero_dvd hd
      omega
    · omega
theorem cd_short {n : Nat} {r y : List Rat} {c : Rat} (tr : Tr r) (ty : Tr y) (hc : c ≠ 0) (h : ∀ i, cf r i = c * cf y i) (hy : CD n y) : CD n (shortL r) := by
  by_cases hr : r = []
  · have e : shortL r = [] := by
      unfold shortL
      rw [if_pos hr]
    rw [e]
    exact cd_nil hy
  · obtain ⟨k, k0, k1, k2, k3⟩ := short_at tr hr
    obtain ⟨D, d0, d1, d2⟩ := cd_frac' hy
    have hD := int_ne d0
    have n1 : 1 < 2 ^ n := by
      have : 0 < D.natAbs := by omega
      omega
    have eq : ∀ i (w z : Int), cf (shortL r) i = (w : Rat) → cf y i = (z : Rat) / (D : Rat) → w * (k * c / (D : Rat)).den = (k * c / (D : Rat)).num * z := fun i w z e1 e2 => by
      have e3 : (w : Rat) = (k * c / (D : Rat)) * (z : Rat) := by
        rw [← e1, k1, h, e2]
        grind
      have e4 := den_num (k * c / (D : Rat))
      refine Rat.intCast_inj.mp ?_
      rw [Rat.intCast_mul, Rat.intCast_mul, e3]
      have q1 : ((((k * c / (D : Rat)).den : Nat) : Int) : Rat) = ((k * c / (D : Rat)).den : Rat) := rfl
      rw [q1, ← e4]
      grind
    have hu : (k * c / (D : Rat)).num.natAbs = 1 := by
      refine k3 _ fun i w e => ?_
      obtain ⟨z, _, e2⟩ := d2 i
      have e3 := congrArg Int.natAbs (eq i w z e e2)
      rw [Int.natAbs_mul, Int.natAbs_mul, Int.natAbs_natCast] at e3
      refine Nat.Coprime.dvd_of_dvd_mul_right (k * c / (D : Rat)).reduced ?_
      exact ⟨_, e3⟩
    refine cd_frac (w := 1) (by decide) n1 fun i => ?_
    obtain ⟨w, e⟩ := k2 i
    obtain ⟨z, z1, e2⟩ := d2 i
    refine ⟨w, ?_, ?_⟩
    · have e3 := congrArg Int.natAbs (eq i w z e e2)
      rw [Int.natAbs_mul, Int.natAbs_mul, Int.natAbs_natCast, hu, Nat.one_mul] at e3
      have hp := (k * c / (D : Rat)).den_pos
      have : w.natAbs * 1 ≤ w.natAbs * (k * c / (D : Rat)).den := Nat.mul_le_mul_left _ hp
      omega
    · rw [e]
      have : ((1 : Int) : Rat) = 1 := rfl
      rw [this]
      grind
theorem tr_short {r : List Rat} : Tr (shortL r) := by
  unfold shortL
  split
  · rfl
  · exact tr_scale _ _
end TM
/-! ## MtDivAll -/
set_option Elab.async false
set_option linter.all false
set_option maxRecDepth 100000
set_option maxHeartbeats 4000000
set_option exponentiation.threshold 100000
/-! MtDivAll: Euclid's way over products of drawn rows. -/
namespace TM
/-- every way through the lengths keeps small -/
def okW : Nat → Nat → Nat → Nat → Nat → Bool
  | 0, _, _, _, _ => false
  | k + 1, la, lb, n, m => decide (n + 41 ≤ 4490) && (decide (lb = 0) || (decide (n + 41 + (la + 1 - lb - 1) * (m + 41 + 1) + (m + 41) ≤ 4490) && ((decide (lb = 1) || decide (n + 41 + (la + 1 - lb) * (m + 41 + 1) ≤ 4490)) && (List.range lb).all fun r => okW k lb r m (n + (la + 1 - lb) * (m + 1)))))
theorem okW_all : ((List.range 6).all fun a => (List.range 6).all fun b => okW 10 a b 51 51) = true := by decide +kernel
theorem okW_at {a b : Nat} (ha : a ≤ 5) (hb : b ≤ 5) : okW 10 a b 51 51 = true := List.all_eq_true.mp (List.all_eq_true.mp okW_all a (List.mem_range.mpr (by omega))) b (List.mem_range.mpr (by omega))
structure Stn (pl f A : List Rat) (n : Nat) : Prop where
  tf : Tr f
  rl : ∃ c, Rl pl f A c
  cf : CD n f
  ca : CD (n + 41) A
  lf : f.length ≤ 5
section
variable {pl f g A B : List Rat} {n m : Nat}
theorem Stn.len (hp : pl ≠ []) (tp : Tr pl) (lp : pl.length ≤ 3) (S : Stn pl f A n) : A.length ≤ 100 := by
  obtain ⟨c, R⟩ := S.rl
  have := S.lf
  by_cases hf : f = []
  · rw [(R.nil_iff hp tp S.tf).mpr hf]
    decide
  · rw [R.len hp tp S.tf hf]
    omega
theorem Rl.prod {c : Rat} (R : Rl pl f A c) (i : Nat) : TM.cf A i = c * TM.cf (mulL pl f) i := by rw [R.at_, cf_mul, conv_cv]
theorem st_plain {R : List Rat} {c : Rat} (cp : CD 31 pl) (lp : pl.length ≤ 3) (tf : Tr f) (L : Rl pl f R c) (hc : CD n f) (lf : f.length ≤ 5) : Stn pl f (plainL R) n := by
  refine ⟨tf, ?_, hc, ?_, lf⟩
  · by_cases hR : R = []
    · subst hR
      exact ⟨c, L⟩
    · have hl := tr_last L.ta hR
      refine ⟨c / TM.cf R (R.length - 1), tr_plain _, ?_, fun i => ?_⟩
      · have := L.c0
        grind
      · rw [cf_plain, L.at_ i]
        grind
  · rw [plain_prop L.ta (tr_mul pl f) L.c0 L.prod]
    exact (cd_plain (tr_mul pl f) (cd_mul cp hc (by omega))).mono (by omega)
theorem st_short {R : List Rat} {c : Rat} (cp : CD 31 pl) (lp : pl.length ≤ 3) (tf : Tr f) (L : Rl pl f R c) (hc : CD n f) (lf : f.length ≤ 5) : Stn pl f (shortL R) n := by
  refine ⟨tf, ?_, hc, ?_, lf⟩
  · by_cases hR : R = []
    · subst hR
      exact ⟨c, L⟩
    · obtain ⟨k, k0, k1, _⟩ := short_at L.ta hR
      refine ⟨k * c, tr_short, ?_, fun i => ?_⟩
      · have := L.c0
        grind
      · rw [k1, L.at_ i]
        grind
  · exact (cd_short L.ta (tr_mul pl f) L.c0 L.prod (cd_mul cp hc (by omega))).mono (by omega)
theorem chain (hp : pl ≠ []) (tp : Tr pl) (cp : CD 31 pl) (lp : pl.length ≤ 3) : ∀ (k : Nat) (f g : List Rat) (n m : Nat), okW k f.length g.length n m = true → CD n f → CD m g → Tr f → Tr g →
    ∃ q, (∀ A B, Stn pl f A n → Stn pl g B m → ∃ j, j ≤ k ∧ Com j A B q) ∧ ∀ A B, Stn pl f A n → Stn pl g B m → ∃ j, j ≤ k ∧ ComL j A B q
  | 0, _, _, _, _, h, _, _, _, _ => nomatch h
  | k + 1, f, g, n, m, h, cdf, cdg, tf, tg => by
    have h' : (decide (n + 41 ≤ 4490) && (decide (g.length = 0) || (decide (n + 41 + (f.length + 1 - g.length - 1) * (m + 41 + 1) + (m + 41) ≤ 4490) && ((decide (g.length = 1) || decide (n + 41 + (f.length + 1 - g.length) * (m + 41 + 1) ≤ 4490)) && (List.range g.length).all fun r => okW k g.length r m (n + (f.length + 1 - g.length) * (m + 1)))))) = true := h
    simp only [Bool.and_eq_true, Bool.or_eq_true, decide_eq_true_eq] at h'
    obtain ⟨h1, h2⟩ := h'
    by_cases hg : g = []
    · subst hg
      refine ⟨plainL (mulL pl f), fun A B SA SB => ⟨0, by omega, ?_⟩, fun A B SA SB => ⟨0, by omega, ?_⟩⟩
      · obtain ⟨c, R⟩ := SA.rl
        obtain ⟨d, S⟩ := SB.rl
        rw [S.nil, ← plain_prop R.ta (tr_mul pl f) R.c0 R.prod]
        exact .stop R.ta (SA.len hp tp lp) (SA.ca.mono h1)
      · obtain ⟨c, R⟩ := SA.rl
        obtain ⟨d, S⟩ := SB.rl
        rw [S.nil, ← plain_prop R.ta (tr_mul pl f) R.c0 R.prod]
        refine .stop R.ta (SA.len hp tp lp) fun q hq => ?_
        obtain ⟨i, _, e⟩ := mem_cf hq
        rw [← e]
        exact (SA.ca.hb i).mono h1
    · have hgl := List.length_pos_iff.mpr hg
      rcases h2 with h2 | ⟨h3, h4, h5⟩
      · omega
      have lr := len_rem f g
      have cdr := cd_rem cdf cdg tg hg
      have e0 : dN f g = f.length + 1 - g.length := rfl
      rw [e0] at cdr
      obtain ⟨q, q1, q2⟩ := chain hp tp cp lp k g (remL f g) m _ (List.all_eq_true.mp h5 _ (List.mem_range.mpr (by omega))) cdg cdr tg (tr_rem _ _)
      have step : ∀ A B, Stn pl f A n → Stn pl g B m → B ≠ [] ∧ Tr B ∧ A.length ≤ 100 ∧ B.length ≤ 100 ∧ DivOk A B ∧ CD 4490 (remL A B) ∧ (remL A B).length ≤ 100 ∧ Stn pl (remL f g) (plainL (remL A B)) (n + (f.length + 1 - g.length) * (m + 1)) ∧ Stn pl (remL f g) (shortL (remL A B)) (n + (f.length + 1 - g.length) * (m + 1)) := fun A B SA SB => by
        obtain ⟨c, R⟩ := SA.rl
        obtain ⟨d, S⟩ := SB.rl
        have hB : B ≠ [] := fun e => hg ((S.nil_iff hp tp tg).mp e)
        have eN := R.dn hp tp tf tg hg S
        rw [e0] at eN
        have lB := SB.len hp tp lp
        have lB2 := S.len hp tp tg hg
        have hpl := List.length_pos_iff.mpr hp
        have lR := len_rem A B
        have L := R.rem hp tp tf tg hg S
        have rg := SB.lf
        have hd : dN A B - 1 = f.length + 1 - g.length - 1 := by rw [eN]
        have cr : CD 4490 (remL A B) := by
          rcases h4 with h4 | h4
          · have e : remL f g = [] := by
              have : (remL f g).length = 0 := by omega
              exact List.length_eq_zero_iff.mp this
            rw [e] at L
            rw [L.nil]
            exact (cd_nil SA.ca).mono h1
          · have := cd_rem SA.ca SB.ca S.ta hB
            rw [eN] at this
            exact this.mono h4
        have dk : DivOk A B := by
          refine div_ok_of SA.ca SB.ca S.ta hB ?_ cr
          rw [hd]
          exact h3
        refine ⟨hB, S.ta, SA.len hp tp lp, lB, dk, cr, by omega, ?_, ?_⟩
        · exact st_plain cp lp (tr_rem _ _) L cdr (by omega)
        · exact st_short cp lp (tr_rem _ _) L cdr (by omega)
      refine ⟨q, fun A B SA SB => ?_, fun A B SA SB => ?_⟩
      · obtain ⟨hB, tB, lA, lB, dk, cr, lR, s1, s2⟩ := step A B SA SB
        obtain ⟨j, j1, j2⟩ := q1 B _ SB s1
        exact ⟨j + 1, by omega, .step hB tB lA lB dk cr j2⟩
      · obtain ⟨hB, tB, lA, lB, dk, cr, lR, s1, s2⟩ := step A B SA SB
        obtain ⟨j, j1, j2⟩ := q2 B _ SB s2
        exact ⟨j + 1, by omega, .step hB tB lA lB dk (sh_ok (tr_rem _ _) lR cr (Nat.le_refl _) (by decide)) j2⟩
end
theorem rl_mul (pl o : List Rat) : Rl pl o (mulL pl o) 1 := ⟨tr_mul _ _, by decide, fun i => by
  rw [cf_mul, conv_cv]
  grind⟩
theorem mul_nil (o : List Rat) : mulL [] o = [] := nil_of (tr_mul _ _) fun i => by
  rw [cf_mul]
  refine sumR_zero fun j _ => ?_
  rw [cf_out (l := []) (by simp)]
  grind
theorem stn_mul {pl o : List Rat} (hp : SmallR 3 pl) (ho : SmallR 5 o) : Stn pl o (mulL pl o) 51 := ⟨ho.tr, ⟨1, rl_mul pl o⟩, ho.cd, mul_cd hp ho, ho.len⟩
theorem div_com {pl o1 o2 : List Rat} (hp : SmallR 3 pl) (h1 : SmallR 5 o1) (h2 : SmallR 5 o2) : ∃ n m q, Com n (mulL pl o1) (mulL pl o2) q ∧ ComL m (mulL pl o1) (mulL pl o2) q ∧ m < 200 := by
  by_cases hpl : pl = []
  · subst hpl
    rw [mul_nil, mul_nil]
    refine ⟨0, 0, plainL [], .stop rfl (by decide) ?_, .stop rfl (by decide) (fun q hq => nomatch hq), by decide⟩
    exact (cd_nil hp.cd).mono (by decide)
  · obtain ⟨q, q1, q2⟩ := chain hpl hp.tr hp.cd hp.len 10 o1 o2 51 51 (okW_at h1.len h2.len) h1.cd h2.cd h1.tr h2.tr
    obtain ⟨j, j1, j2⟩ := q1 _ _ (stn_mul hp h1) (stn_mul hp h2)
    obtain ⟨i, i1, i2⟩ := q2 _ _ (stn_mul hp h1) (stn_mul hp h2)
    exact ⟨j, i, q, j2, i2, by omega⟩
theorem div_all : DivAll := fun pl o1 o2 hp h1 h2 => by
  have ca := mul_cd hp h1
  have cb := mul_cd hp h2
  have la := mul_len hp h1
  have lb := mul_len hp h2
  have tb := tr_mul pl o2
  have ta := tr_mul pl o1
  have hN : dN (mulL pl o1) (mulL pl o2) = (mulL pl o1).length + 1 - (mulL pl o2).length := rfl
  have lN : mulL pl o2 ≠ [] → dN (mulL pl o1) (mulL pl o2) ≤ 8 := fun h0 => by
    have := List.length_pos_iff.mpr h0
    omega
  have k1 : mulL pl o2 ≠ [] → dN (mulL pl o1) (mulL pl o2) * (92 + 1) ≤ 8 * 93 := fun h0 => Nat.mul_le_mul_right 93 (lN h0)
  have cq : mulL pl o2 ≠ [] → CD 836 (quoL (mulL pl o1) (mulL pl o2)) := fun h0 => (cd_quo ca cb tb h0).mono (by have := k1 h0; omega)
  refine ⟨div_com hp h1 h2, fun h0 => ?_, fun h0 => (cq h0).mono (by decide), fun h0 => ?_, fun h0 => (cd_rem ca cb tb h0).mono (by have := k1 h0; omega), fun h0 => div_eq ta tb h0⟩
  · have := k1 h0
    have k2 : (dN (mulL pl o1) (mulL pl o2) - 1) * (92 + 1) ≤ 8 * 93 := Nat.mul_le_mul_right 93 (by have := lN h0; omega)
    exact div_ok ca cb tb h0 (by omega) (by omega)
  · refine (cd_mul (cq h0) cb ?_).mono (by decide)
    have := trim_len ((List.range (dN (mulL pl o1) (mulL pl o2))).map (dQ (mulL pl o1) (mulL pl o2)))
    have e : quoL (mulL pl o1) (mulL pl o2) = trim ((List.range (dN (mulL pl o1) (mulL pl o2))).map (dQ (mulL pl o1) (mulL pl o2))) := rfl
    rw [e]
    rw [List.length_map, List.length_range] at this
    have := lN h0
    omega
end TM
/-! ## TmPen -/
set_option Elab.async false
set_option linter.all false
set_option maxRecDepth 100000
set_option maxHeartbeats 4000000
set_option exponentiation.threshold 100000
/-! TmPen: the pen, an owned dict; what draws from it. -/
namespace TM
open PySem L2 PySem.Spec PyProof.Rows
structure PenS where
  cs : Addr
  ns : List Int
  at_ : Int
  dg : Int
  cn : Int
  fo : Int
def penK (s : PenS) : List (Key × V) := [(.inr "cells", .ref s.cs), (.inr "at", .int s.at_), (.inr "digits", .int s.dg), (.inr "count", .int s.cn), (.inr "fold", .int s.fo)]
/-- at p the pen in the state s; what else O owns is as it was in H0 -/
def penX (O : Addr → Prop) (H0 : Hp) (p : Addr) (s : PenS) : Asr := ⟨fun H => H p = some (.dK (penK s)) ∧ H s.cs = some (.lst (s.ns.map V.int)) ∧ ∀ a o, O a → a ≠ p → H0 a = some o → H a = some o, fun e h => ⟨e _ _ h.1, e _ _ h.2.1, fun a o w n q => e _ _ (h.2.2 a o w n q)⟩⟩
structure PenOk (s : PenS) (N : Nat) : Prop where
  a0 : 0 ≤ s.at_
  d0 : 0 ≤ s.dg
  c0 : 0 ≤ s.cn
  c1 : s.cn ≤ N
  f0 : 0 ≤ s.fo
  f1 : s.fo < 2147483648
  l : s.ns.length ≤ 1000
/-- .. in some state of at most N draws -/
def penG (O : Addr → Prop) (H0 : Hp) (p : Addr) (N : Nat) : Asr := ⟨fun H => ∃ s, PenOk s N ∧ ¬ O s.cs ∧ (penX O H0 p s).P H, fun e ⟨s, a, n, b⟩ => ⟨s, a, n, (penX _ _ _ s).st e b⟩⟩
theorem PenOk.mono {s : PenS} {N M : Nat} (h : PenOk s N) (hm : N ≤ M) : PenOk s M := ⟨h.a0, h.d0, h.c0, by have := h.c1; omega, h.f0, h.f1, h.l⟩
theorem penG_mono {O : Addr → Prop} {H0 : Hp} {p : Addr} {N M : Nat} (hm : N ≤ M) {H : Hp} (h : (penG O H0 p N).P H) : (penG O H0 p M).P H := let ⟨s, a, b⟩ := h; ⟨s, a.mono hm, b⟩
section
variable {C : Addr} {X : Cx} {O : Addr → Prop} {ρ : Env} {I J : Asr} {H0 B H : Hp} {σ : L2.St} {De : Ends} {rest : List Stmt} {a b e : Expr} {pos p2 : Pos} {p : Addr} {s : PenS} {d : D} {i : Int} {k : Nat} {key : Str} {j : Nat}
/-- pen['key'], a number -/
theorem ge_pget {v : V} (hr : Room k X.A) (ha : GE C X O ρ (penX O H0 p s) a (penX O H0 p s) (Is (.val (.ref p)))) (hv : valV (penK s) (.inr key) = some v) (hd : ∀ H, (penX O H0 p s).P H → Dn C O H v d) (hs : NoSl (.Constant (.str key) j p2) := by exact fun _ _ => rfl) :
    GE C X O ρ (penX O H0 p s) (.Subscript a (.Constant (.str key) j p2) pos) (penX O H0 p s) (Is d) := ge_of (pe_dget (hu_of hr) pe_tw pe_str hs) fun σ H Q w dn ii kk => ha σ H _ w dn ii fun v1 H1 z1 e1 w1 j1 p1 n1 => by
      cases p1
      cases n1
      exact ⟨p, v, rfl, hv ▸ DGet.k (k := .inr key) j1.1, kk v H1 d e1 w1 j1 rfl (hd H1 j1)⟩
theorem ge_pgetI (hr : Room k X.A) (ha : GE C X O ρ (penX O H0 p s) a (penX O H0 p s) (Is (.val (.ref p)))) (hv : valV (penK s) (.inr key) = some (.int i)) (hs : NoSl (.Constant (.str key) j p2) := by exact fun _ _ => rfl) :
    GE C X O ρ (penX O H0 p s) (.Subscript a (.Constant (.str key) j p2) pos) (penX O H0 p s) (Is (.int i)) := ge_pget hr ha hv (fun _ _ => .int i) hs
theorem ge_pcells (hr : Room k X.A) (ha : GE C X O ρ (penX O H0 p s) a (penX O H0 p s) (Is (.val (.ref p)))) (hs : NoSl (.Constant (.str "cells") j p2) := by exact fun _ _ => rfl) :
    GE C X O ρ (penX O H0 p s) (.Subscript a (.Constant (.str "cells") j p2) pos) (penX O H0 p s) (Is (.val (.ref s.cs))) := ge_pget hr ha rfl (fun _ _ => .val _) hs
theorem ge_plen (hm : X.mg "len" = none) (ha : GE C X O ρ (penX O H0 p s) e (penX O H0 p s) (Is (.val (.ref s.cs)))) (hg : Gl X "len" := by rfl) (he : starEach [e] X.env = (false, eval e X.env) :: starEach [] X.env := by rfl) (hpl : (backTo pos (starEach [] X.env)).any (·.1) = false := by rfl) :
    GE C X O ρ (penX O H0 p s) (.Call (.Name "len" p2) [e] [] pos) (penX O H0 p s) (Is (.int (s.ns.length : Int))) := ge_of (pe_callB call_len_seq hg hm PySem.boot_len (pa_cons pe_tw pa_nil he) (by decide) (by decide) he hpl) fun σ H Q w dn ii kk => ha σ H _ w dn ii fun v1 H1 z1 e1 w1 j1 p1 n1 => by
      cases p1
      cases n1
      refine ⟨s.cs, s.ns.map V.int, rfl, .inl (SqL.of j1.2.1), ?_⟩
      rw [List.length_map]
      exact kk _ H1 _ e1 w1 j1 rfl (.int _)
theorem ge_pix (ha : GE C X O ρ (penX O H0 p s) a (penX O H0 p s) (Is (.val (.ref s.cs)))) (hb : GE C X O ρ (penX O H0 p s) b (penX O H0 p s) (Is (.int i))) (h : atI s.ns i = some j0) (hs : PlainIx b := by exact fun _ _ => rfl) :
    GE C X O ρ (penX O H0 p s) (.Subscript a b pos) (penX O H0 p s) (Is (.int j0)) := ge_of (pe_ix ix_seq pe_tw pe_tw hs) fun σ H Q w dn ii kk => by
  refine ha σ H _ w dn ii fun v1 H1 z1 e1 w1 j1 p1 n1 => ?_
  cases p1
  cases n1
  refine hb σ H1 _ w1 (dn.ext e1) j1 fun v2 H2 z2 e2 w2 j2 p2 n2 => ?_
  cases p2
  cases n2
  refine .inl ⟨s.cs, s.ns.map V.int, i, .int j0, rfl, rfl, SqL.of j2.2.1, ?_, kk _ H2 _ (e1.trans e2) w2 j2 rfl (.int _)⟩
  unfold atI at h ⊢
  rw [List.length_map]
  cases hq : ixN s.ns.length i with
  | none => rw [hq] at h; cases h
  | some m =>
    rw [hq] at h
    have h' : s.ns[m]? = some j0 := h
    show (s.ns.map V.int)[m]? = some (V.int j0)
    rw [List.getElem?_map, h']
    rfl
/-- pen['key'] = e -/
theorem gq_pput {s' : PenS} (hr : Room k X.A) (S : Stt C O B H σ ρ (penX O H0 p s)) (hO : O p) (hcp : s.cs ≠ p) (he : GE C X O ρ (penX O H0 p s) e (penX O H0 p s) (Is (.int i))) (ha : GE C X O ρ (penX O H0 p s) a (penX O H0 p s) (Is (.val (.ref p))))
    (hput : putK (penK s) (.inr key) (.int i) = penK s') (hc : s'.cs = s.cs) (hns : s'.ns = s.ns) (kk : ∀ H', Stt C O B H' σ ρ (penX O H0 p s') → ssw X rest De σ H')
    (hs : swapsWith e (some (.Subscript a (.Constant (.str key) j p2) pos)) pos'.line X.env = pure false := by rfl) : ssw X (.Assign [.Subscript a (.Constant (.str key) j p2) pos] e pos' :: rest) De σ H := by
  refine gq_of (ps_dput (hu_of hr) pe_tw pe_str pe_tw hs) ?_
  refine S.geE he fun v1 H1 d1 p1 n1 e1 S1 => ?_
  cases p1
  cases n1
  refine S1.geE ha fun v2 H2 d2 p2 n2 e2 S2 => ?_
  cases p2
  cases n2
  refine ⟨p, _, rfl, DPut.k (k := .inr key) S2.asr.1 (by show (5 : Nat) < sizeLine; decide), ?_⟩
  rw [hput]
  have ex : Ext O H2 (upd H2 p (.dK (penK s'))) := fun c o nc hc => by
    rw [upd_ne (fun z => nc (by rw [z]; exact hO))]
    exact hc
  refine kk _ ⟨fun c hc => ?_, S2.den.ext ex, ⟨upd_same, ?_, fun c o w n q => ?_⟩, S2.ext.trans ex⟩
  · by_cases h : c = p
    · rw [h, upd_same]
      exact fun z => nomatch z
    · rw [upd_ne h]
      exact S2.wf c hc
  · rw [hc, hns, upd_ne hcp]
    exact S2.asr.2.1
  · rw [upd_ne n]
    exact S2.asr.2.2 c o w n q
end
/-! ### defs that draw -/
def penAt (O : Addr → Prop) (H : Hp) (p : Addr) (N : Nat) : Prop := ∃ s, PenOk s N ∧ ¬ O s.cs ∧ H p = some (.dK (penK s)) ∧ H s.cs = some (.lst (s.ns.map V.int))
theorem penAt_g {O : Addr → Prop} {H : Hp} {p : Addr} {N : Nat} (h : penAt O H p N) : (penG O H p N).P H := let ⟨s, a, n, b, c⟩ := h; ⟨s, a, n, b, c, fun _ _ _ _ q => q⟩
theorem penG_at {O : Addr → Prop} {H0 H : Hp} {p : Addr} {N : Nat} (h : (penG O H0 p N).P H) : penAt O H p N := let ⟨s, a, n, b, c, _⟩ := h; ⟨s, a, n, b, c⟩
theorem penG_kp {O : Addr → Prop} {H0 H : Hp} {p : Addr} {N : Nat} (h : (penG O H0 p N).P H) : ∀ a o, O a → a ≠ p → H0 a = some o → H a = some o := let ⟨s, _, _, _, _, c⟩ := h; c
/-- of at most m draws: the pen ahead of the rest, what the rest must be, what may come out -/
def spN (C : Addr) (m : Nat) (pre : List D → Prop) (R : List D → D → Prop) : Sp := fun vs H Q _ => ∃ (O : Addr → Prop) (p : Addr) (vs' : List V) (ds : List D) (N : Nat), vs = .ref p :: vs' ∧ O p ∧ Wf O H ∧ DnAll C O H vs' ds ∧ penAt O H p N ∧ N + m ≤ 2 ^ 40 ∧ pre ds ∧
  ∀ v H' r, R ds r → Ext O H H' → Wf O H' → (penG O H p (N + m)).P H' → Dn C O H' v r → Q v H'
abbrev FnN (P : Program) (w : World) (K : PySem.W.Frag) (mg : Str → Option Value) (base : Heap) (k : Nat) (C : Addr) (x : Str) (m : Nat) (pre : List D → Prop) (R : List D → D → Prop) : Prop := Fn P w K mg base CX0 k x (spN C m pre R)
def BodyN (P : Program) (w : World) (K : PySem.W.Frag) (mg : Str → Option Value) (base : Heap) (C : Addr) (N : List Str) (q : Str) (st : Stmt) (f : Addr) (k m : Nat) (pre : List D → Prop) (R : List D → D → Prop) : Prop :=
  ∀ (cdv : Value) (A : Around) (outer : List PySem.Env) (s : Shared) (H : Hp) (E : XK) (ds : List D), Room k (A.deeper (envOfC q (defScope st) s.heap.objs.size f cdv)) → pre ds →
    ∀ (O : Addr → Prop) (H0 : Hp) (p : Addr) (vs : List V) (M : Nat) (De : Ends), O p → DnAll C O H0 vs ds → M + m ≤ 2 ^ 40 →
      Stt C O H0 H0 (L2.start N (.ref p :: vs)) ((.val (.ref p) :: ds).map some ++ List.replicate (N.length - (ds.length + 1)) Option.none) (penG O H0 p M) →
      (∀ v H' r, R ds r → Ext O H0 H' → Wf O H' → (penG O H0 p (M + m)).P H' → Dn C O H' v r → De.rt v H') → ssw (bX P w K mg base N q st f cdv A outer s H E) (defBody st) De (L2.start N (.ref p :: vs)) H0
section
variable {P : Program} {w : World} {K : PySem.W.Frag} {mg : Str → Option Value} {base : Heap} {x q : Str} {f : Addr} {fd : FuncData} {N ps : List Str} {k m : Nat} {C : Addr} {st : Stmt} {pre : List D → Prop} {R : List D → D → Prop}
theorem fn_pen (F : FnP K x q st f fd) (hm : mg x = some (.ref f)) (S : FnScope N ps (defScope st)) (hb : Binds K fd ps []) (hl : ∀ ds, pre ds → ds.length + 1 = ps.length) (body : BodyN P w K mg base C N q st f k m pre R) : FnN P w K mg base (k + 1) C x m pre R := by
  refine ⟨f, fd, ps, F.ok S (fun vs H Q E h => ?_) fun cdv A outer s H vs Q E hr h => ?_, hm, F.kp, hb⟩
  · obtain ⟨O, p, vs', ds, M, rfl, _, _, hn, _, _, hp, _⟩ := h
    show vs'.length + 1 = _
    rw [hn.length]
    exact hl ds hp
  · obtain ⟨O, p, vs', ds, M, rfl, hO, hw, hn, ha, hM, hp, hQ⟩ := h
    refine ⟨_, PSs.nox pss_tw, ?_⟩
    refine body cdv A outer s H E ds hr hp O H p vs' M _ hO hn hM ?_ fun v H' r hR e w' i n => hQ v H' r hR e w' i n
    have := Stt.start (N := N) (I := penG O H p M) hw (DnAll.cons (.val (.ref p)) hn) (penAt_g ha)
    exact this
end
section
variable {C : Addr} {X : Cx} {O : Addr → Prop} {ρ : Env} {I J : Asr} {H0 B H : Hp} {σ : L2.St} {De : Ends} {rest : List Stmt} {a b e : Expr} {es : List Expr} {pos p2 : Pos} {p : Addr} {Φ : D → Prop} {ds : List D} {k m N M : Nat} {x : Str} {pre : List D → Prop} {R : List D → D → Prop} {r : D}
/-- f(pen, ..), arguments known -/
theorem ge_callN (F : FnN X.prog X.w X.K X.mg X.base k C x m pre R) (hr : Room k X.A) (hO : O p) (ha : GA C X O ρ I (e :: es) (penG O H0 p N) (· = .val (.ref p) :: ds)) (hp : pre ds) (hN : N + m ≤ 2 ^ 40) (hg : Gl X x := by rfl)
    (hdb : (x == ("__debug__" : Str)) = false := by decide) (he : starEach (e :: es) X.env = (false, eval e X.env) :: starEach es X.env := by rfl) (hpl : (backTo pos (starEach es X.env)).any (·.1) = false := by rfl) :
    GE C X O ρ I (.Call (.Name x p2) (e :: es) [] pos) (penG O H0 p (N + m)) (R ds) := by
  obtain ⟨f, fd, ps, ok, hm, hk, hb⟩ := F.ex
  refine ge_of (pe_call ok hr hg hm hk hb .nil pass0 pa_tw hdb he hpl) fun σ H Q w dn i kk => ha σ H _ w dn i fun vs H1 zs e1 w1 j1 p1 n1 => ?_
  cases p1
  rw [List.append_nil]
  cases n1 with
  | cons hh t =>
    cases hh
    refine ⟨O, p, _, ds, N, rfl, hO, w1, t, penG_at j1, hN, hp, fun v H' r hR ex w' g n => kk v H' r (e1.trans ex) w' ?_ hR n⟩
    obtain ⟨s, s1, s0, s2, s3, s4⟩ := g
    exact ⟨s, s1, s0, s2, s3, fun a o wo ne q => s4 a o wo ne (penG_kp j1 a o wo ne q)⟩
/-- .. arguments told by a word -/
theorem ge_callNn {Ψ : List D → Prop} (F : FnN X.prog X.w X.K X.mg X.base k C x m pre R) (hr : Room k X.A) (hO : O p) (ha : GA C X O ρ I (e :: es) (penG O H0 p N) (fun zs => ∃ ds, zs = .val (.ref p) :: ds ∧ Ψ ds)) (hp : ∀ ds, Ψ ds → pre ds) (hN : N + m ≤ 2 ^ 40) (hg : Gl X x := by rfl)
    (hdb : (x == ("__debug__" : Str)) = false := by decide) (he : starEach (e :: es) X.env = (false, eval e X.env) :: starEach es X.env := by rfl) (hpl : (backTo pos (starEach es X.env)).any (·.1) = false := by rfl) :
    GE C X O ρ I (.Call (.Name x p2) (e :: es) [] pos) (penG O H0 p (N + m)) (fun r => ∃ ds, Ψ ds ∧ R ds r) := by
  obtain ⟨f, fd, ps, ok, hm, hk, hb⟩ := F.ex
  refine ge_of (pe_call ok hr hg hm hk hb .nil pass0 pa_tw hdb he hpl) fun σ H Q w dn i kk => ha σ H _ w dn i fun vs H1 zs e1 w1 j1 p1 n1 => ?_
  obtain ⟨ds, rfl, hψ⟩ := p1
  rw [List.append_nil]
  cases n1 with
  | cons hh t =>
    cases hh
    refine ⟨O, p, _, ds, N, rfl, hO, w1, t, penG_at j1, hN, hp ds hψ, fun v H' r hR ex w' g n => kk v H' r (e1.trans ex) w' ?_ ⟨ds, hψ, hR⟩ n⟩
    obtain ⟨s, s1, s0, s2, s3, s4⟩ := g
    exact ⟨s, s1, s0, s2, s3, fun a o wo ne q => s4 a o wo ne (penG_kp j1 a o wo ne q)⟩
theorem gq_retN (S : Stt C O H0 H σ ρ I) (hrt : ∀ v H' r, R ds r → Ext O H0 H' → Wf O H' → (penG O H0 p M).P H' → Dn C O H' v r → De.rt v H') (h : GE C X O ρ I e J Φ) (hJ : ∀ H, J.P H → (penG O H0 p M).P H) (hR : ∀ d, Φ d → R ds d) : ssw X (.Return (some e) pos :: rest) De σ H :=
  gq_ret S h fun v H' d pd n ex j w => hrt v H' d (hR d pd) ex w (hJ H' j) n
end
/-! ### what is walked, its length not known before -/
structure GIn (C : Addr) (X : Cx) (O : Addr → Prop) (ρ : Env) (I : Asr) (tg iter : Expr) (J : Asr) (ns : Nat → Prop) (y : Nat → Nat → D) : Prop where
  ex : ∃ wi : TI, PI X tg iter wi ∧ ∀ (σ : L2.St) (H : Hp) (R : It → Hp → Prop), Wf O H → Den C O H σ ρ → I.P H → (∀ Jt H1 n, Ext O H H1 → Wf O H1 → J.P H1 → ns n → Wlk C O Jt H1 n (y n) → R Jt H1) → wi σ H R
section
variable {C : Addr} {X : Cx} {O : Addr → Prop} {ρ : Env} {I J : Asr} {a : Expr} {pos p2 : Pos}
theorem GI.gin {tg iter : Expr} {n : Nat} {y : Nat → D} (G : GI C X O ρ I tg iter J n y) : GIn C X O ρ I tg iter J (· = n) (fun _ => y) := by
  obtain ⟨wi, h, hg⟩ := G.ex
  exact ⟨wi, h, fun σ H R w dn i k => hg σ H R w dn i fun Jt H1 e w1 j W => k Jt H1 n e w1 j rfl W⟩
theorem gin_range1 {tg : Expr} {Φ : D → Prop} (hm : X.mg "range" = none) (ha : GE C X O ρ I a J (fun z => ∃ n : Int, z = .int n ∧ 0 ≤ n ∧ n < 2 ^ 62 ∧ Φ z)) (hg : Gl X "range" := by rfl) (hs : starEach [a] X.env = [(false, eval a X.env)] := by rfl) :
    GIn C X O ρ I tg (.Call (.Name "range" p2) [a] [] pos) J (fun n => Φ (.int (n : Nat))) (fun _ i => .int (i : Nat)) := by
  refine ⟨_, pi_range1 hg hm (pa_cons pe_tw pa_nil hs) hs, fun σ H R w dn i k => ha σ H _ w dn i fun v H1 z e1 w1 j1 p1 n1 => ?_⟩
  obtain ⟨n, rfl, h0, h1, hΦ⟩ := p1
  cases n1
  have en : ((n.toNat : Nat) : Int) = n := by omega
  refine ⟨n, rfl, by omega, h1, k _ H1 n.toNat e1 w1 j1 (by rw [en]; exact hΦ) ⟨fun O' ho i H hi e => hi, fun O' ho H e => Nat.le_refl _, fun O' ho i H x H' hi e wf yy => ?_⟩⟩
  obtain ⟨e2, hx⟩ := yy
  subst e2 hx
  rw [Int.zero_add]
  exact ⟨Same.refl _, .int _⟩
/-- [elt for tg in iter], elt drawing from the pen -/
theorem ge_lcN {elt tg iter : Expr} {scope : Scope} {own : List (Str × Nat)} {y : Nat → Nat → D} {f : D → Env → Env} {dom : D → Prop} {ns : Nat → Prop} {Gd : Nat → Nat → D → Prop} {p : Addr} {N m L : Nat} {H0 : Hp} (hc : X.calm = true) (hN : X.N.Nodup) (hO : O p) (G : GIn C X O ρ I tg iter (penG O H0 p N) ns y)
    (ok : BlkOk X.N X.env.scope scope own) (T : ∀ b O', Tg C (ibk X scope b) O' tg (own.map (·.2)) f dom) (hd : ∀ n i, ns n → i < n → dom (y n i)) (hL : ∀ n, ns n → n ≤ L) (hL2 : L ≤ 100000) (hNL : N + L * m ≤ 2 ^ 40)
    (he : ∀ b O' H2 n i M, (∀ a, O a → O' a) → O' p → ns n → i < n → M + m ≤ 2 ^ 40 → GE C (ibk X scope b) O' (f (y n i) (wipeR ρ (own.map (·.2)))) (penG O' H2 p M) elt (penG O' H2 p (M + m)) (Gd n i)) (hs : ∀ x, foldedSetIterable iter X.env x = pure x := by intro _; rfl) :
    GE C X O ρ I (.ListComp elt [⟨tg, iter, [], 0⟩] scope pos) (penG O H0 p (N + L * m)) (fun z => ∃ n zs, ns n ∧ z = .lst zs ∧ zs.length = n ∧ ∀ i d, zs[i]? = some d → Gd n i d) := by
  obtain ⟨wi, hpi, hG⟩ := G.ex
  refine ge_of (pe_lc (g := fun v σ H Q => ∀ b, gw (ibk X scope b) tg v σ H Q) (tt := fun σ H Q => Q true H) (te := fun σ H Q => ∀ b, tw (ibk X scope b) elt σ H Q) hc hN hpi ok
    (fun s H C cl fp => ⟨fun pins s' σ H' v u Q Iv r h => h (s, H, C, cl, fp) pins s' u Iv r⟩) (fun s H C cl fp => pts_nil) (fun s H C cl fp => ⟨fun pins s' σ H' Q Iv h => h (s, H, C, cl, fp) pins s' Iv⟩) hs) fun σ H Q w dn i k => ?_
  refine hG σ H _ w dn i fun Jt H1 n e1 w1 j1 hns W => ?_
  intro Dl hDl
  have hnl := hL n hns
  have sub : ∀ a, (O a ∨ a = Dl) → O a ∨ H1 a = none := fun a h => h.elim .inl fun e => .inr (by rw [e]; exact hDl)
  have hpD : p ≠ Dl := fun z => w1 p hO (by rw [z]; exact hDl)
  have dn1 : Den C (fun a => O a ∨ a = Dl) H1 (L2.wipe σ (own.map (·.2))) (wipeR ρ (own.map (·.2))) := ((dn.ext e1).wipe _).go Ext.refl fun a no hs z => (sub a z).elim no hs
  refine lc_it (g := fun v σ H Q => ∀ b, gw (ibk X scope b) tg v σ H Q) (tt := fun σ H Q => Q true H) (te := fun σ H Q => ∀ b, tw (ibk X scope b) elt σ H Q) (vs := own.map (·.2)) (σ := σ) (Qd := fun H' => Q (V.ref Dl) H') (J := Jt) (n := n) (G := fun H' => Ext (fun a => O a ∨ a = Dl) H1 H' ∧ Wf (fun a => O a ∨ a = Dl) H') (Y := fun i H2 x H3 => Same H2 H3 ∧ Dn C (fun a => O a ∨ a = Dl) H3 x (y n i))
    ⟨fun i H' hi h => W.go _ sub i H' hi h.1, fun H' h => W.stop _ sub H' h.1, fun i H' x H2 hi h yy => W.yld _ sub i H' x H2 hi h.1 h.2 yy⟩
    (fun i H' => Ext (fun a => O a ∨ a = Dl) H1 H' ∧ Wf (fun a => O a ∨ a = Dl) H' ∧ penAt (fun a => O a ∨ a = Dl) H' p (N + i * m) ∧ (∀ a o, O a → a ≠ p → H1 a = some o → H' a = some o) ∧ ∃ acc zs, H' Dl = some (.lst acc) ∧ DnAll C (fun a => O a ∨ a = Dl) H' acc zs ∧ zs.length = i ∧ ∀ j d, zs[j]? = some d → Gd n j d) ⟨?_, ?_, ?_, ?_, [], [], upd_same, .nil, rfl, fun j d h => by simp at h⟩ ?_ ?_ ?_
  · exact Ext.of (same_new hDl)
  · intro a ha
    rcases ha with ha | ha
    · exact (w1.same (same_new hDl)) a ha
    · rw [ha, upd_same]
      exact fun z => nomatch z
  · obtain ⟨s, s1, s0, s2, s3⟩ := penG_at j1
    rw [Nat.zero_mul, Nat.add_zero]
    exact ⟨s, s1, (fun z => z.elim s0 fun e => by rw [e, hDl] at s3; cases s3), (same_new hDl) _ _ s2, (same_new hDl) _ _ s3⟩
  · exact fun a o _ _ h => (same_new hDl) a o h
  · rintro i H' hi ⟨ex, wf, _⟩
    exact ⟨ex, wf⟩
  · rintro i x H' H2 hi ⟨ex, wf, pa, kp, acc, zs, hl, nacc, hzl, hz⟩ ⟨sm2, nx⟩ b
    have wf2 : Wf (fun a => O a ∨ a = Dl) H2 := wf.same sm2
    refine (T b _).ok _ H2 _ x (y n i) _ wf2 (dn1.ext (ex.trans (Ext.of sm2))) nx (hd n i hns hi) fun σ' dn' hw => ?_
    have idem : L2.wipe (L2.wipe σ (own.map (·.2))) (own.map (·.2)) = L2.wipe σ (own.map (·.2)) := by
      refine List.ext_getElem? fun j => ?_
      by_cases hm : j ∈ own.map (·.2)
      · have key : ∀ (τ : L2.St) (ws : List Nat), j ∈ ws → (L2.wipe τ ws)[j]? = if j < τ.length then some Option.none else Option.none := by
          intro τ ws
          induction ws with
          | nil => intro h; cases h
          | cons u ws ih =>
            intro h
            unfold L2.wipe
            by_cases hu : u = j
            · subst hu
              by_cases hl : u < τ.length
              · rw [if_pos hl, List.getElem?_set_self (by rw [wipe_length]; exact hl)]
              · rw [if_neg hl]
                exact List.getElem?_eq_none_iff.mpr (by rw [List.length_set, wipe_length]; omega)
            · rw [List.getElem?_set_ne hu]
              exact ih ((List.mem_cons.mp h).resolve_left fun e => hu e.symm)
        rw [key _ _ hm, key _ _ hm, wipe_length]
      · rw [wipe_out hm]
    refine ⟨hw.trans idem, ?_⟩
    show (if true = true then _ else _)
    rw [if_pos rfl]
    intro b
    have him : i * m + m ≤ L * m := by
      have := Nat.mul_le_mul_right m (show i + 1 ≤ L by omega)
      rw [Nat.succ_mul] at this
      exact this
    have pa2 : penAt (fun a => O a ∨ a = Dl) H2 p (N + i * m) := by
      obtain ⟨s, s1, s0, s2, s3⟩ := pa
      exact ⟨s, s1, s0, sm2 _ _ s2, sm2 _ _ s3⟩
    refine he b (fun a => O a ∨ a = Dl) H2 n i (N + i * m) (fun a h => .inl h) (.inl hO) hns hi (by omega) σ' H2 _ wf2 dn' (penAt_g pa2) fun v H4 z e4 w4 s4 p4 n4 => ?_
    have kp4 := penG_kp s4
    have hacc : H4 Dl = some (.lst acc) := kp4 Dl _ (.inr rfl) (Ne.symm hpD) (sm2 _ _ hl)
    have lenA : acc.length = zs.length := nacc.length
    have exD : Ext (fun a => O a ∨ a = Dl) H4 (upd H4 Dl (.lst (acc ++ [v]))) := fun c o hno hc2 => by
      rw [upd_ne (fun z => hno (.inr z))]
      exact hc2
    refine ⟨acc, hacc, Nat.lt_of_le_of_lt (show acc.length ≤ 100000 by omega) (by decide), ((ex.trans (Ext.of sm2)).trans e4).trans exD, ?_, ?_, ?_, acc ++ [v], zs ++ [z], upd_same, ?_, by rw [List.length_append, hzl]; rfl, ?_⟩
    · intro a ha
      by_cases hc : a = Dl
      · rw [hc, upd_same]
        exact fun z => nomatch z
      · rw [upd_ne hc]
        exact w4 a ha
    · obtain ⟨s, s1, s0, s2, s3⟩ := penG_at s4
      refine ⟨s, ?_, s0, by rw [upd_ne hpD]; exact s2, by rw [upd_ne (fun z => s0 (.inr z))]; exact s3⟩
      rw [Nat.succ_mul, ← Nat.add_assoc]
      exact s1
    · intro a o ha hne h
      rw [upd_ne (fun z => w1 a ha (by rw [z]; exact hDl))]
      exact kp4 a o (.inl ha) hne (sm2 _ _ (kp a o ha hne h))
    · exact (((nacc.ext (Ext.of sm2)).ext e4).ext exD).append (.cons (n4.ext exD) .nil)
    · intro j d hj
      by_cases hjl : j < zs.length
      · rw [List.getElem?_append_left hjl] at hj
        exact hz j d hj
      · rw [List.getElem?_append_right (by omega)] at hj
        cases hq : j - zs.length with
        | zero =>
          rw [hq] at hj
          have e0 : z = d := by simpa using hj
          have ej : j = i := by omega
          rw [ej, ← e0]
          exact p4
        | succ q => rw [hq] at hj; simp at hj
  · rintro H' ⟨ex, wf, pa, kp, acc, zs, hl, nacc, hzl, hz⟩
    have hnO : ¬ O Dl := fun z => w1 Dl z hDl
    have exO : Ext O H1 H' := fun c o nc hc => ex c o (fun z => z.elim nc fun e => by rw [e, hDl] at hc; cases hc) hc
    refine k _ H' _ (e1.trans exO) (fun a ha => wf a (.inl ha)) ?_ ⟨n, zs, hns, rfl, hzl, hz⟩ (.lst hnO hl (nacc.less fun a h => .inl h))
    obtain ⟨s, s1, s0, s2, s3⟩ := pa
    refine ⟨s, s1.mono ?_, fun z => s0 (.inl z), s2, s3, fun a o ha hne h => kp a o ha hne (penG_kp j1 a o ha hne h)⟩
    have := Nat.mul_le_mul_right m hnl
    omega
end
end TM
/-! ## LwPen -/
set_option Elab.async false
set_option linter.all false
set_option maxRecDepth 100000
set_option maxHeartbeats 4000000
set_option exponentiation.threshold 100000
/-! LwPen: _law_draw, _law_pick, _law_passed, _law_ratio. -/
namespace TM
open PySem L2 PySem.Spec PyProof.Rows
section
variable {C : Addr} {X : Cx} {O : Addr → Prop} {ρ : Env} {I J : Asr} {a b : Expr} {pos : Pos} {k1 : Bool} {Φ : Bool → Prop}
theorem gt_andN (ha : GT C X O ρ I a I (· = k1)) (hJ : ∀ H, I.P H → J.P H) (hb : k1 = true → GT C X O ρ I b J Φ) : GT C X O ρ I (.BoolOp .And [a, b] pos) J (fun z => z = true → k1 = true) := gt_of (PW.pt (pw_and pt_tw (pw_and1 pt_tw))) fun σ H Q w dn i q => by
  refine ha σ H _ w dn i fun b1 H1 e1 w1 j1 p1 => ?_
  cases p1
  cases k1 with
  | true =>
    show ptw X b σ H1 Q
    exact hb rfl σ H1 _ w1 (dn.ext e1) j1 fun b2 H2 e2 w2 j2 p2 => q b2 H2 (e1.trans e2) w2 j2 (fun _ => rfl)
  | false => exact q false H1 e1 w1 (hJ _ j1) (fun z => by cases z)
theorem ga_imp {es : List Expr} {Ψ Ψ' : List D → Prop} (h : GA C X O ρ I es J Ψ) (f : ∀ ds, Ψ ds → Ψ' ds) : GA C X O ρ I es J Ψ' := fun σ H Q w dn i k => h σ H Q w dn i fun vs H' zs e w' j p n => k vs H' zs e w' j (f zs p) n
/-- a pure def, arguments told by a word -/
theorem ge_callP {k : Nat} {R : List D → D → Prop} {Ψ : List D → Prop} {e : Expr} {es : List Expr} {x : Str} {p2 : Pos} (F : Fn X.prog X.w X.K X.mg X.base CX0 k x (spP C R)) (hr : Room k X.A) (ha : GA C X O ρ I (e :: es) J Ψ) (hR : ∀ ds, Ψ ds → ∃ r, R ds r) (hg : Gl X x := by rfl)
    (hdb : (x == ("__debug__" : Str)) = false := by decide) (he : starEach (e :: es) X.env = (false, eval e X.env) :: starEach es X.env := by rfl) (hpl : (backTo pos (starEach es X.env)).any (·.1) = false := by rfl) :
    GE C X O ρ I (.Call (.Name x p2) (e :: es) [] pos) J (fun r => ∃ ds, Ψ ds ∧ R ds r) := by
  obtain ⟨f, fd, ps, ok, hm, hk, hb⟩ := F.ex
  refine ge_of (pe_call ok hr hg hm hk hb .nil pass0 pa_tw hdb he hpl) fun σ H Q w dn i k => ha σ H _ w dn i fun vs H1 zs e1 w1 j1 p1 n1 => ?_
  obtain ⟨r, hr⟩ := hR zs p1
  rw [List.append_nil]
  exact ⟨O, zs, r, w1, n1, hr, fun v H' s n => k v H' r (e1.trans (Ext.of s)) (w1.same s) (J.st s j1) ⟨zs, p1, hr⟩ n⟩
theorem gt_eqn {r : D → Prop} (ha : GE C X O ρ I a J (fun z => ∃ i : Int, z = .int i ∧ r z)) {j : Int} (hb : GE C X O ρ J b J (Is (.int j))) : GT C X O ρ I (.Compare a [.Eq] [b] pos) J (fun _ => True) := gt_of (pt_cmpR op_eq pe_tw pe_tw (nomark _)) fun σ H Q w dn i q => by
  refine ha σ H _ w dn i fun v1 H1 z1 e1 w1 j1 p1 n1 => ?_
  obtain ⟨i1, rfl, _⟩ := p1
  refine hb σ H1 _ w1 (dn.ext e1) j1 fun v2 H2 z2 e2 w2 j2 p2 n2 => ?_
  cases p2
  cases n1
  cases n2
  refine ⟨rfl, ?_⟩
  rw [dec_V]
  exact ⟨_, rfl, q _ H2 (e1.trans e2) w2 j2 trivial⟩
end
section
variable {P : Program} {w : World} {K : PySem.W.Frag} {mg : Str → Option Value} {base : Heap} {f : Addr} {fd : FuncData} {C : Addr} {k : Nat}
def preDraw : List D → Prop := fun ds => ∃ n : Int, ds = [.int n] ∧ 0 < n ∧ n < 2 ^ 60
def Rdraw : List D → D → Prop := fun ds r => ∃ n i : Int, ds = [.int n] ∧ 0 ≤ i ∧ i < n ∧ r = .int i
theorem sc_draw : FnScope ["_law_pen_here", "_law_many", "_law_cell", "_law_digit", "_law_blend"] ["_law_pen_here", "_law_many"] (defScope (top 35)) := ⟨rfl, rfl, rfl, by decide +kernel, rfl, by decide +kernel, by decide +kernel⟩
theorem Stt.open {O : Addr → Prop} {B H0 H : Hp} {σ : L2.St} {ρ : Env} {p : Addr} {N : Nat} (S : Stt C O B H σ ρ (penG O H0 p N)) : ∃ s, PenOk s N ∧ s.cs ≠ p ∧ ¬ O s.cs ∧ Stt C O B H σ ρ (penX O H0 p s) := by
  obtain ⟨s, ok, hno, hx⟩ := S.asr
  refine ⟨s, ok, fun z => ?_, hno, S.wf, S.den, hx, S.ext⟩
  have h1 := hx.1
  have h2 := hx.2.1
  rw [z, h1] at h2
  cases h2
theorem fn_draw (g : Gs K mg C) (F : FnP K "_law_draw" "_law_draw" (top 35) f fd) (hm : mg "_law_draw" = some (.ref f)) : FnN P w K mg base (k + 1) C "_law_draw" 1 preDraw Rdraw := by
  refine fn_pen F hm sc_draw (F.bindsN fun _ _ _ _ _ _ us hl => match us, hl with | [_, _], _ => rfl) (fun ds h => by obtain ⟨n, rfl, _⟩ := h; rfl) ?_
  rintro cdv A outer s0 H E ds hr ⟨n, rfl, hn0, hn1⟩
  intro O H0 p vs N De hO hn hN S hrt
  obtain ⟨s, ok, hcp, hno, S⟩ := S.open
  have hN2 : N < 1099511627776 := by omega
  have hn2 : n < 1152921504606846976 := by omega
  have nl : n.natAbs.log2 < 60 := log_lt (by omega) (by omega)
  have step : ∀ (s' : PenS) (σ' : L2.St) (H' : Hp) (y : Option D), PenOk s' (N + 1) → s'.cs ≠ p → ¬ O s'.cs → Stt C O H0 H' σ' [some (.val (.ref p)), some (.int n), y, none, none] (penX O H0 p s') →
      ssw (bX P w K mg base ["_law_pen_here", "_law_many", "_law_cell", "_law_digit", "_law_blend"] "_law_draw" (top 35) f cdv A outer s0 H E) (List.drop 2 (defBody (top 35))) De σ' H' := by
    intro s' σ' H' y ok' hcp' hno' S'
    refine gq_ifP S' (gt_gt (ge_pgetI hr (ge_var 0) rfl) ge_int) (fun h H1 S1 => ?_) (fun h H1 S1 => gq_nil ?_)
    · have hd := of_decide_eq_true h
      have l1 : 0 ≤ s'.dg / n := Int.ediv_nonneg ok'.d0 (by omega)
      refine gq_setP 3 S1 sc_draw.nd (ge_mod (ge_toInt (g.f "int") (ge_pgetI hr (ge_var 0) rfl)) (ge_var 1) hn0) (fun σ2 H2 S2 => ?_)
      refine gq_pput (s' := { s' with dg := s'.dg / n }) hr S2 hO hcp' (ge_fdiv (ge_pgetI hr (ge_var 0) rfl) (ge_var 1) ⟨hn0, by omega⟩) (ge_var 0) rfl rfl rfl (fun H3 S3 => ?_)
      refine gq_retN (M := N + 1) S3 hrt (ge_var 3) (fun H h => ⟨{ s' with dg := s'.dg / n }, ⟨ok'.a0, l1, ok'.c0, ok'.c1, ok'.f0, ok'.f1, ok'.l⟩, hno', h⟩) (fun d e => by cases e; exact ⟨n, _, rfl, Int.emod_nonneg _ (by omega), Int.emod_lt_of_pos _ hn0, rfl⟩)
    · have c1 := ok'.c1
      have f1 := ok'.f1
      have f0 := ok'.f0
      have c0 := ok'.c0
      refine gq_setP 4 S1 sc_draw.nd (ge_add (ge_add (ge_pgetI hr (ge_var 0) rfl) (ge_mul' (ge_pgetI hr (ge_var 0) rfl) ge_int (.inr (by omega)))) ge_int) (fun σ2 H2 S2 => ?_)
      refine gq_retN (M := N + 1) S2 hrt (ge_mod (ge_fdiv (ge_toInt (g.f "int") (ge_mod (ge_pow (ge_var 4) ge_int ⟨by omega, by omega, by omega⟩) ge_int (by omega))) ge_int ⟨by omega, by decide⟩) (ge_var 1) hn0) (fun H h => ⟨_, ok', hno', h⟩) (fun d e => by cases e; exact ⟨n, _, rfl, Int.emod_nonneg _ (by omega), Int.emod_lt_of_pos _ hn0, rfl⟩)
  refine gq_pput (s' := { s with cn := s.cn + 1 }) hr S hO hcp (ge_add (ge_pgetI hr (ge_var 0) rfl) ge_int) (ge_var 0) rfl rfl rfl (fun H1 S1 => ?_)
  have ok1 : PenOk { s with cn := s.cn + 1 } (N + 1) := ⟨ok.a0, ok.d0, by have := ok.c0; show 0 ≤ s.cn + 1; omega, by have := ok.c1; show s.cn + 1 ≤ ((N + 1 : Nat) : Int); omega, ok.f0, ok.f1, ok.l⟩
  refine gq_ifP S1 (k := decide (s.dg = 0) && decide (s.at_ < s.ns.length)) (gt_and (gt_eqI (ge_pgetI hr (ge_var 0) rfl) ge_int) (fun _ => gt_lt (ge_pgetI hr (ge_var 0) rfl) (ge_plen (s := { s with cn := s.cn + 1 }) (g.f "len") (ge_pcells hr (ge_var 0))))) (fun h H2 S2 => ?_) (fun h H2 S2 => gq_nil (step _ _ _ _ ok1 hcp hno S2))
  obtain ⟨h1, h2⟩ := Bool.and_eq_true_iff.mp h
  have h2 := of_decide_eq_true h2
  have a0 := ok.a0
  have hat : atI s.ns s.at_ = some (s.ns[s.at_.toNat]'(by omega)) := atI_n (j := s.at_.toNat) (by omega) (List.getElem?_eq_getElem (by omega))
  generalize s.ns[s.at_.toNat]'(by omega) = cell at hat
  refine gq_setP 2 S2 sc_draw.nd (ge_pix (s := { s with cn := s.cn + 1 }) (ge_pcells hr (ge_var 0)) (ge_pgetI hr (ge_var 0) rfl) hat) (fun σ3 H3 S3 => ?_)
  refine gq_pput (s' := { s with cn := s.cn + 1, at_ := s.at_ + 1 }) hr S3 hO hcp (ge_add (ge_pgetI hr (ge_var 0) rfl) ge_int) (ge_var 0) rfl rfl rfl (fun H4 S4 => ?_)
  refine gq_ifP S4 (gt_ge (ge_var 2) (ge_pow ge_int ge_int ⟨by omega, by omega, by decide⟩)) (fun h H5 S5 => ?_) (fun h H5 S5 => ?_)
  · have hc := of_decide_eq_true h
    refine gq_pput (s' := { s with cn := s.cn + 1, at_ := s.at_ + 1, dg := cell - 10 ^ 18 }) hr S5 hO hcp (ge_sub (ge_var 2) (ge_pow ge_int ge_int ⟨by omega, by omega, by decide⟩)) (ge_var 0) rfl rfl rfl (fun H6 S6 => gq_nil (gq_nil (step { s with cn := s.cn + 1, at_ := s.at_ + 1, dg := cell - 10 ^ 18 } _ _ _ ?_ hcp hno S6)))
    exact ⟨by show 0 ≤ s.at_ + 1; omega, by show 0 ≤ cell - 10 ^ 18; have : (10 : Int) ^ (18 : Int).toNat ≤ cell := hc; have e : (10 : Int) ^ (18 : Int).toNat = 10 ^ 18 := rfl; omega, ok1.c0, ok1.c1, ok.f0, ok.f1, ok.l⟩
  · refine gq_pput (s' := { s with cn := s.cn + 1, at_ := s.at_ + 1, fo := (s.fo * 69069 + cell) % 2147483587 }) hr S5 hO hcp (ge_mod (ge_toInt (g.f "int") (ge_add (ge_mul' (ge_pgetI hr (ge_var 0) rfl) ge_int (.inr (by omega))) (ge_var 2))) ge_int (by omega)) (ge_var 0) rfl rfl rfl (fun H6 S6 => gq_nil (gq_nil (step { s with cn := s.cn + 1, at_ := s.at_ + 1, fo := (s.fo * 69069 + cell) % 2147483587 } _ _ _ ?_ hcp hno S6)))
    have e1 := Int.emod_nonneg (s.fo * 69069 + cell) (show (2147483587 : Int) ≠ 0 by omega)
    have e2 := Int.emod_lt_of_pos (s.fo * 69069 + cell) (show (0 : Int) < 2147483587 by omega)
    exact ⟨by show 0 ≤ s.at_ + 1; omega, ok.d0, ok1.c0, ok1.c1, e1, by show (s.fo * 69069 + cell) % 2147483587 < _; omega, ok.l⟩
def prePick : List D → Prop := fun ds => ∃ d es, ds = [d] ∧ items d = some es ∧ es ≠ [] ∧ es.length ≤ 1000
def Rpick : List D → D → Prop := fun ds r => ∃ d es, ds = [d] ∧ items d = some es ∧ r ∈ es
theorem sc_pick : FnScope ["_law_pen_here", "_law_some"] ["_law_pen_here", "_law_some"] (defScope (top 36)) := ⟨rfl, rfl, rfl, by decide +kernel, rfl, by decide +kernel, by decide +kernel⟩
theorem fn_pick (g : Gs K mg C) (hD : FnN P w K mg base k C "_law_draw" 1 preDraw Rdraw) (F : FnP K "_law_pick" "_law_pick" (top 36) f fd) (hm : mg "_law_pick" = some (.ref f)) : FnN P w K mg base (k + 1) C "_law_pick" 1 prePick Rpick := by
  refine fn_pen F hm sc_pick (F.bindsN fun _ _ _ _ _ _ us hl => match us, hl with | [_, _], _ => rfl) (fun ds h => by obtain ⟨d, es, rfl, _⟩ := h; rfl) ?_
  rintro cdv A outer s0 H E ds hr ⟨d, es, rfl, hi, hne, hl⟩
  intro O H0 p vs N De hO hn hN S hrt
  have hp := List.length_pos_iff.mpr hne
  refine gq_retN (M := N + 1) S hrt (ge_ixn (Φb := fun _ => True) (Φ := fun z => z ∈ es) (ge_var 1) ((ge_callN hD hr hO (ga_two (ge_var 0) (ge_len (g.f "len") (ge_var 1) hi)) ⟨_, rfl, by omega, by omega⟩ hN).imp ?_) hi) (fun H h => h) (fun r hr => ⟨d, es, rfl, hi, hr⟩)
  rintro z ⟨n, i, e, h0, h1, rfl⟩
  cases e
  refine ⟨i, rfl, es[i.toNat]'(by omega), atI_n (j := i.toNat) (by omega) (List.getElem?_eq_getElem (by omega)), List.getElem_mem _⟩
/-- how a ratio may be passed -/
def passedD (q : Rat) (r : D) : Prop := (q.den = 1 ∧ r = .int q.num) ∨ ∃ m : Int, (m = 1 ∨ m = 2 ∨ m = 3) ∧ (r = .tup [.int (q.num * m), .int (q.den * m)] ∨ r = .lst [.int (q.num * m), .int (q.den * m)])
def prePassed : List D → Prop := fun ds => ∃ q : Rat, ds = [pair q] ∧ Hb 4000 q
def Rpassed : List D → D → Prop := fun ds r => ∃ q : Rat, ds = [pair q] ∧ passedD q r
theorem sc_passed : FnScope ["_law_pen_here", "_law_ratio_here", "_law_by"] ["_law_pen_here", "_law_ratio_here"] (defScope (top 45)) := ⟨rfl, rfl, rfl, by decide +kernel, rfl, by decide +kernel, by decide +kernel⟩
theorem fn_passed (hD : FnN P w K mg base k C "_law_draw" 1 preDraw Rdraw) (hK : FnN P w K mg base k C "_law_pick" 1 prePick Rpick) (F : FnP K "_law_passed" "_law_passed" (top 45) f fd) (hm : mg "_law_passed" = some (.ref f)) : FnN P w K mg base (k + 1) C "_law_passed" 3 prePassed Rpassed := by
  refine fn_pen F hm sc_passed (F.bindsN fun _ _ _ _ _ _ us hl => match us, hl with | [_, _], _ => rfl) (fun ds h => by obtain ⟨q, rfl, _⟩ := h; rfl) ?_
  rintro cdv A outer s0 H E ds hr ⟨q, rfl, hq⟩
  intro O H0 p vs N De hO hn hN S hrt
  refine gq_ifn (J := penG O H0 p (N + 1)) S (gt_andN (gt_eqI (ge_ix (ge_var 1) ge_int rfl rfl) ge_int) (fun H h => penG_mono (by omega) h) (fun _ => gt_eqn (r := fun _ => True) ((ge_callN hD hr hO (ga_two (ge_var 0) ge_int) ⟨2, rfl, by omega, by omega⟩ (by omega)).imp fun z ⟨n, i, e, h0, h1, h2⟩ => ⟨i, h2, trivial⟩) ge_int)) (fun h H1 S1 => ?_) (fun h H1 S1 => gq_nil ?_)
  · have h1 := of_decide_eq_true (h rfl)
    exact gq_retN (M := N + 3) S1 hrt (ge_ix (ge_var 1) ge_int rfl rfl) (fun H h => penG_mono (by omega) h) (fun r e => by cases e; exact ⟨q, rfl, .inl ⟨by omega, rfl⟩⟩)
  · refine gq_set (J := penG O H0 p (N + 1 + 1)) 2 S1 sc_passed.nd (ge_callN hK hr hO (ga_two (ge_var 0) (ge_lst (ga_cons ge_int (ga_cons ge_int (ga_two ge_int ge_int))))) ⟨_, _, rfl, rfl, by simp, by simp⟩ (by omega)) (fun σ2 H2 m hm S2 => ?_)
    obtain ⟨d, es, e1, e2, e3⟩ := hm
    cases e1
    cases e2
    have hm : ∃ m0 : Int, m = .int m0 ∧ (m0 = 1 ∨ m0 = 2 ∨ m0 = 3) := by
      simp only [List.mem_cons, List.not_mem_nil, or_false] at e3
      rcases e3 with rfl | rfl | rfl | rfl
      · exact ⟨1, rfl, .inl rfl⟩
      · exact ⟨1, rfl, .inl rfl⟩
      · exact ⟨2, rfl, .inr (.inl rfl)⟩
      · exact ⟨3, rfl, .inr (.inr rfl)⟩
    obtain ⟨m0, rfl, hm0⟩ := hm
    have c1 : ∀ x : Int, CMul x m0 := fun x => .inr (by rcases hm0 with rfl | rfl | rfl <;> omega)
    refine gq_retN (M := N + 3) S2 hrt (ge_callN hK hr hO (ga_two (ge_var 0) (ge_lst (ga_two (ge_tup (ga_two (ge_mul' (ge_ix (ge_var 1) ge_int rfl rfl) (ge_var 2) (c1 _)) (ge_mul' (ge_ix (ge_var 1) ge_int rfl rfl) (ge_var 2) (c1 _)))) (ge_lst (ga_two (ge_mul' (ge_ix (ge_var 1) ge_int rfl rfl) (ge_var 2) (c1 _)) (ge_mul' (ge_ix (ge_var 1) ge_int rfl rfl) (ge_var 2) (c1 _))))))) ⟨_, _, rfl, rfl, by simp, by simp⟩ (by omega)) (fun H h => penG_mono (by omega) h) (fun r hR => ?_)
    obtain ⟨d, es, e1, e2, e3⟩ := hR
    cases e1
    cases e2
    refine ⟨q, rfl, .inr ⟨m0, hm0, ?_⟩⟩
    simpa using e3
def preRatio : List D → Prop := fun ds => ∃ m : Int, ds = [.int m] ∧ 0 ≤ m ∧ m ≤ 10
def Rratio : List D → D → Prop := fun ds r => ∃ q : Rat, r = pair q ∧ Hb 10 q
theorem sc_ratio : FnScope ["_law_pen_here", "_law_most", "_law_bottom"] ["_law_pen_here", "_law_most"] (defScope (top 46)) := ⟨rfl, rfl, rfl, by decide +kernel, rfl, by decide +kernel, by decide +kernel⟩
theorem ga_consK {C : Addr} {X : Cx} {O : Addr → Prop} {ρ : Env} {I J L : Asr} {a : Expr} {es : List Expr} {d : D} {Ψ : List D → Prop} (ha : GE C X O ρ I a J (Is d)) (hs : GA C X O ρ J es L Ψ) (hst : starEach (a :: es) X.env = (false, eval a X.env) :: starEach es X.env := by rfl) : GA C X O ρ I (a :: es) L (fun zs => ∃ ds, zs = d :: ds ∧ Ψ ds) := ga_of (pa_cons pe_tw pa_tw hst) fun σ H Q w dn i k => by
  refine ha σ H _ w dn i fun v1 H1 z1 e1 w1 j1 p1 n1 => ?_
  cases p1
  refine hs σ H1 _ w1 (dn.ext e1) j1 fun vs H2 zs e2 w2 j2 p2 n2 => ?_
  exact k _ H2 _ (e1.trans e2) w2 j2 ⟨zs, rfl, p2⟩ (.cons (n1.ext e2) n2)
theorem ga_oneN {C : Addr} {X : Cx} {O : Addr → Prop} {ρ : Env} {I J : Asr} {a : Expr} {Φ : D → Prop} (ha : GE C X O ρ I a J Φ) (hst : starEach [a] X.env = (false, eval a X.env) :: starEach [] X.env := by rfl) : GA C X O ρ I [a] J (fun zs => ∃ d, zs = [d] ∧ Φ d) := ga_of (pa_cons pe_tw pa_nil hst) fun σ H Q w dn i k => by
  refine ha σ H _ w dn i fun v1 H1 z1 e1 w1 j1 p1 n1 => ?_
  exact k _ H1 _ e1 w1 j1 ⟨z1, rfl, p1⟩ (.cons n1 .nil)
theorem ge_addN {C : Addr} {X : Cx} {O : Addr → Prop} {ρ : Env} {I J L : Asr} {a b : Expr} {pos : Pos} {r s : Int → Prop} (ha : GE C X O ρ I a J (fun z => ∃ i : Int, z = .int i ∧ r i)) (hb : GE C X O ρ J b L (fun z => ∃ i : Int, z = .int i ∧ s i)) : GE C X O ρ I (.BinOp a .Add b pos) L (fun z => ∃ i j : Int, z = .int (i + j) ∧ r i ∧ s j) :=
  ge_binn op_add ha (fun _ _ => hb) fun d1 d2 p1 p2 H x y Q w h1 h2 k => by
    obtain ⟨i, rfl, hi⟩ := p1
    obtain ⟨j, rfl, hj⟩ := p2
    cases h1
    cases h2
    exact ⟨i, j, rfl, rfl, k _ H _ (Same.refl H) ⟨i, j, rfl, hi, hj⟩ (.int _)⟩
theorem ge_subN {C : Addr} {X : Cx} {O : Addr → Prop} {ρ : Env} {I J L : Asr} {a b : Expr} {pos : Pos} {r s : Int → Prop} (ha : GE C X O ρ I a J (fun z => ∃ i : Int, z = .int i ∧ r i)) (hb : GE C X O ρ J b L (fun z => ∃ i : Int, z = .int i ∧ s i)) : GE C X O ρ I (.BinOp a .Sub b pos) L (fun z => ∃ i j : Int, z = .int (i - j) ∧ r i ∧ s j) :=
  ge_binn op_sub ha (fun _ _ => hb) fun d1 d2 p1 p2 H x y Q w h1 h2 k => by
    obtain ⟨i, rfl, hi⟩ := p1
    obtain ⟨j, rfl, hj⟩ := p2
    cases h1
    cases h2
    exact ⟨i, j, rfl, rfl, k _ H _ (Same.refl H) ⟨i, j, rfl, hi, hj⟩ (.int _)⟩
theorem ge_isN {C : Addr} {X : Cx} {O : Addr → Prop} {ρ : Env} {I J : Asr} {a : Expr} {i : Int} (h : GE C X O ρ I a J (Is (.int i))) : GE C X O ρ I a J (fun z => ∃ j : Int, z = .int j ∧ j = i) := h.imp fun z e => ⟨i, e, rfl⟩
theorem fn_ratio (hD : FnN P w K mg base k C "_law_draw" 1 preDraw Rdraw) (hK : FnN P w K mg base k C "_law_pick" 1 prePick Rpick) (hQ : FnS P w K mg base k C "_law_q" RlQ) (F : FnP K "_law_ratio" "_law_ratio" (top 46) f fd) (hm : mg "_law_ratio" = some (.ref f)) : FnN P w K mg base (k + 1) C "_law_ratio" 3 preRatio Rratio := by
  refine fn_pen F hm sc_ratio (F.bindsN fun _ _ _ _ _ _ us hl => match us, hl with | [_, _], _ => rfl) (fun ds h => by obtain ⟨q, rfl, _⟩ := h; rfl) ?_
  rintro cdv A outer s0 H E ds hr ⟨m, rfl, hm0, hm1⟩
  intro O H0 p vs N De hO hn hN S hrt
  refine gq_set (J := penG O H0 p (N + 1 + 1)) 2 S sc_ratio.nd (ge_callNn (Ψ := fun zs => ∃ b7 : Int, 1 ≤ b7 ∧ b7 ≤ 99 ∧ zs = [.lst [.int 1, .int 1, .int 2, .int 3, .int 7, .int 10, .int b7]]) hK hr hO ?_ (fun zs ⟨b7, _, _, e⟩ => ⟨_, _, e, rfl, by simp, by simp⟩) (by omega)) (fun σ1 H1 bt hb S1 => ?_)
  · refine ga_imp (ga_consK (ge_var 0) (ga_oneN (ge_lstn (ga_consK ge_int (ga_consK ge_int (ga_consK ge_int (ga_consK ge_int (ga_consK ge_int (ga_consK ge_int (ga_oneN (ge_addN (r := fun i => i = 1) (s := fun i => 0 ≤ i ∧ i < 99) (ge_isN ge_int) ((ge_callN hD hr hO (ga_two (ge_var 0) ge_int) ⟨99, rfl, by omega, by omega⟩ (by omega)).imp fun z ⟨n, i, e, h0, h1, h2⟩ => ⟨i, h2, h0, by cases e; exact h1⟩)))))))))
      (fun ds h => ?_)))) fun ds h => ?_
    · obtain ⟨_, rfl, _, rfl, _, rfl, _, rfl, _, rfl, _, rfl, _, rfl, _⟩ := h
      simp
    · obtain ⟨_, rfl, d1, rfl, ds1, rfl, _, rfl, _, rfl, _, rfl, _, rfl, _, rfl, _, rfl, _, rfl, i, j, rfl, rfl, h0, h1⟩ := h
      exact ⟨_, rfl, 1 + j, by omega, by omega, rfl⟩
  · obtain ⟨_, ⟨b7, h7, h8, rfl⟩, d, es, e1, e2, e3⟩ := hb
    cases e1
    cases e2
    have hbt : ∃ b : Int, bt = .int b ∧ 1 ≤ b ∧ b ≤ 99 := by
      simp only [List.mem_cons, List.not_mem_nil, or_false] at e3
      rcases e3 with rfl | rfl | rfl | rfl | rfl | rfl | rfl
      · exact ⟨1, rfl, by omega, by omega⟩
      · exact ⟨1, rfl, by omega, by omega⟩
      · exact ⟨2, rfl, by omega, by omega⟩
      · exact ⟨3, rfl, by omega, by omega⟩
      · exact ⟨7, rfl, by omega, by omega⟩
      · exact ⟨10, rfl, by omega, by omega⟩
      · exact ⟨b7, rfl, h7, h8⟩
    obtain ⟨b, rfl, hb1, hb2⟩ := hbt
    have hmb : 0 ≤ m * b ∧ m * b ≤ 990 := by
      have h1 : m * b ≤ 10 * b := Int.mul_le_mul_of_nonneg_right hm1 (by omega)
      have h2 : 0 ≤ m * b := Int.mul_nonneg hm0 (by omega)
      omega
    have h2m : 2 * m * b = 2 * (m * b) := Int.mul_assoc ..
    have cm : CMul 2 m := .inr (by omega)
    have cm2 : CMul (2 * m) b := .inr (by omega)
    have cm3 : CMul m b := .inr (by omega)
    refine gq_retN (M := N + 3) S1 hrt (ge_callP hQ hr (ga_imp (Ψ' := fun ds => ∃ i : Int, 0 ≤ i ∧ i < 2 * m * b + 1 ∧ ds = [.int (i - m * b), .int b]) (ga_consn (Ψ := fun _ ds => ds = [.int b]) (ge_subN (r := fun i => 0 ≤ i ∧ i < 2 * m * b + 1) (s := fun i => i = m * b) ((ge_callN hD hr hO (ga_two (ge_var 0) (ge_add (ge_mul' (ge_mul' ge_int (ge_var 1) cm) (ge_var 2) cm2) ge_int)) ⟨2 * m * b + 1, rfl, by omega, by omega⟩ (by omega)).imp fun z ⟨n, i, e, h0, h1, h2⟩ => ⟨i, h2, h0, by cases e; exact h1⟩) (ge_isN (ge_mul' (ge_var 1) (ge_var 2) cm3))) (fun d _ => ga_one (ge_var 2))) ?_) ?_) (fun H h => penG_mono (by omega) h) (fun r hR => ?_)
    · rintro ds ⟨d, ds', rfl, ⟨i, j, rfl, ⟨h0, h1⟩, rfl⟩, rfl⟩
      exact ⟨i, h0, h1, rfl⟩
    · rintro ds ⟨i, h0, h1, rfl⟩
      exact ⟨_, _, _, rfl, by omega, Nat.lt_of_lt_of_le (log_lt (n := 7) (by omega) (by omega)) (by omega), rfl⟩
    · obtain ⟨ds, ⟨i, h0, h1, rfl⟩, a', b', e, _, _, rfl⟩ := hR
      cases e
      refine ⟨_, rfl, Nat.lt_of_le_of_lt (rt_num_le (by omega)) (by omega), Nat.lt_of_le_of_lt (rt_den_le (by omega)) (by omega)⟩
end
end TM
/-! ## LwPen2 -/
set_option Elab.async false
set_option linter.all false
set_option maxRecDepth 100000
set_option maxHeartbeats 4000000
set_option exponentiation.threshold 100000
/-! LwPen2: _law_made_poly, _law_drawn, _law_any, _law_far, _law_some_ratio. -/
namespace TM
open PySem L2 PySem.Spec PyProof.Rows
section
variable {C : Addr} {X : Cx} {O : Addr → Prop} {ρ : Env} {I J L : Asr} {a b e : Expr} {pos p2 : Pos} {Φ : D → Prop} {H0 H : Hp} {σ : L2.St} {De : Ends} {rest body : List Stmt} {x : Str} {k : Nat}
/-- Poly(e), what e is not known but what it makes -/
theorem ge_makeN {R : D → List Rat → Prop} {nsr : List Rat} (F : Mkr X.prog X.w X.K X.mg X.base CX0 k C x (spInit C R)) (hr : Room (k + 1) X.A) (ha : GE C X O ρ I e J Φ) (hR : ∀ d, Φ d → R d nsr) (hg : Gl X x := by rfl)
    (hdb : (x == ("__debug__" : Str)) = false := by decide) (he : starEach [e] X.env = (false, eval e X.env) :: starEach [] X.env := by rfl) (hpl : (backTo pos (starEach [] X.env)).any (·.1) = false := by rfl) :
    GE C X O ρ I (.Call (.Name x p2) [e] [] pos) J (Is (.poly nsr)) := by
  obtain ⟨f, fd, ps, ok, M, hm, hb⟩ := F.ex
  refine ge_of (pe_make M ok hr hg hm hb .nil pass0 (pa_cons pe_tw pa_nil he) hdb he hpl) fun σ H Q w dn i k => ha σ H _ w dn i fun v H1 d1 e1 w1 j1 p1 n1 => ?_
  intro x dx hx hd hne
  have hx1 : (upd H1 dx (.own x)) x = none := by rw [upd_ne (Ne.symm hne)]; exact hx
  have s12 : Same H1 (upd (upd H1 dx (.own x)) x (.ins C dx [])) := (same_new hd).trans (same_new hx1)
  refine ⟨O, x, dx, v, d1, nsr, rfl, w1.same s12, own_not w1 hx, own_not w1 hd, upd_same, n1.ext (Ext.of s12), hR d1 p1, fun H' t xs keep hx' nt ht pr => ⟨rfl, ?_⟩⟩
  have sm : Same H1 H' := fun c o hc => keep c o (ne_of_none hc hx) (s12 c o hc)
  exact k _ H' _ (e1.trans (Ext.of sm)) (w1.same sm) (J.st sm j1) rfl (.poly (own_not w1 hx) hx' nt ht pr)
theorem ge_catN {P1 P2 : List D → Prop} (ha : GE C X O ρ I a J (fun z => ∃ ds, z = .lst ds ∧ P1 ds)) (hb : GE C X O ρ J b L (fun z => ∃ ds, z = .lst ds ∧ P2 ds)) (hz : ∀ d1 d2, P1 d1 → P2 d2 → d1.length + d2.length ≤ 1000000) : GE C X O ρ I (.BinOp a .Add b pos) L (fun z => ∃ ds es, z = .lst (ds ++ es) ∧ P1 ds ∧ P2 es) :=
  ge_binn op_cat ha (fun _ _ => hb) fun d1 d2 p1 p2 H x y Q w h1 h2 k => by
    obtain ⟨ds, rfl, hd⟩ := p1
    obtain ⟨es, rfl, he⟩ := p2
    cases h1 with
    | lst n1 r1 t1 =>
      cases h2 with
      | lst n2 r2 t2 => exact ⟨_, _, _, _, rfl, rfl, r1, r2, by rw [t1.length, t2.length]; exact Nat.le_trans (hz ds es hd he) (by decide), fun q hq => k _ _ _ (same_new hq) ⟨ds, es, rfl, hd, he⟩ (.lst (own_not w hq) upd_same ((t1.append t2).ext (Ext.of (same_new hq))))⟩
theorem ge_repN {d : D} {r : Int → Prop} (ha : GE C X O ρ I a J (Is (.lst [d]))) (hb : GE C X O ρ J b L (fun z => ∃ i : Int, z = .int i ∧ r i)) (h0 : ∀ i, r i → -1000 ≤ i ∧ i ≤ 1000) : GE C X O ρ I (.BinOp a .Mult b pos) L (fun z => ∃ ds, z = .lst ds ∧ ∃ i, r i ∧ ds = List.replicate i.toNat d) :=
  ge_binn op_rep ha (fun _ _ => hb) fun d1 d2 p1 p2 H x y Q w h1 h2 k => by
    cases p1
    obtain ⟨i, rfl, hi⟩ := p2
    cases h2
    have hb := h0 i hi
    cases h1 with
    | lst n1 r1 t1 =>
      refine ⟨_, i, _, rfl, rfl, r1, by omega, by omega, ?_, fun q hq => k _ _ _ (same_new hq) ⟨_, rfl, i, hi, rfl⟩ (.lst (own_not w hq) upd_same ?_)⟩
      · rw [t1.length]
        have : [d].length * i.toNat ≤ 1 * 1000 := Nat.mul_le_mul (Nat.le_refl _) (by omega)
        exact Nat.le_trans this (by decide)
      · have e0 : (List.replicate i.toNat [d]).flatten = List.replicate i.toNat d := by
          generalize i.toNat = m
          induction m with
          | zero => rfl
          | succ m ih => rw [List.replicate_succ, List.flatten_cons, ih, List.replicate_succ]; rfl
        rw [← e0]
        exact (t1.replicate i.toNat).ext (Ext.of (same_new hq))
theorem ge_absN {r : Int → Prop} (hm : X.mg "abs" = none) (ha : GE C X O ρ I e J (fun z => ∃ i : Int, z = .int i ∧ r i)) (hg : Gl X "abs" := by rfl) (he : starEach [e] X.env = (false, eval e X.env) :: starEach [] X.env := by rfl) (hpl : (backTo pos (starEach [] X.env)).any (·.1) = false := by rfl) :
    GE C X O ρ I (.Call (.Name "abs" p2) [e] [] pos) J (fun z => ∃ j : Int, z = .int j ∧ ∃ i, r i ∧ j = (i.natAbs : Int)) := ge_of (pe_callB call_abs hg hm PyProof.Rows.boot_abs (pa_cons pe_tw pa_nil he) (by decide) (by decide) he hpl) fun σ H Q w dn i k => ha σ H _ w dn i fun v H1 d1 e1 w1 j1 p1 n1 => by
      obtain ⟨i, rfl, hi⟩ := p1
      cases n1
      refine ⟨i, rfl, ?_⟩
      have e : (if i < 0 then -i else i) = (i.natAbs : Int) := by split <;> omega
      rw [e]
      exact k _ H1 _ e1 w1 j1 ⟨_, rfl, i, hi, rfl⟩ (.int _)
/-- a for whose length is not known before -/
theorem gq_forN {tg iter : Expr} {ns : Nat → Prop} {y : Nat → Nat → TM.D} {vs : List Nat} {f : TM.D → Env → Env} {dom : TM.D → Prop} (S : Stt C O H0 H σ ρ I) (hp : PassesOwn (model X.prog X.w) X.A X.env X.xe) (hc : X.calm = true) (G : GIn C X O ρ I tg iter J ns y) (T : Tg C X O tg vs f dom) (hd : ∀ n i, ns n → i < n → dom (y n i)) (P : Nat → Nat → Env → Asr → Prop) (h0 : ∀ n, ns n → P n 0 ρ J)
    (step : ∀ n, ns n → ∀ H1, Ext O H0 H1 → ∀ k ρ' I' σ' H', k < n → P n k ρ' I' → Stt C O H1 H' σ' (f (y n k) ρ') I' → ssw X body { De with nx := fun σ2 H2 => ∃ ρ2 I2, P n (k + 1) ρ2 I2 ∧ Stt C O H1 H2 σ2 ρ2 I2, ct := fun σ2 H2 => ∃ ρ2 I2, P n (k + 1) ρ2 I2 ∧ Stt C O H1 H2 σ2 ρ2 I2, bk := ssw X rest De } σ' H')
    (hend : ∀ n, ns n → ∀ ρ' I' σ' H', P n n ρ' I' → Stt C O H0 H' σ' ρ' I' → ssw X rest De σ' H') (hs : ∀ x, foldedSetIterable iter X.env x = pure x := by intro _; rfl) : ssw X (.For tg iter body [] pos :: rest) De σ H := by
  obtain ⟨wi, hpi, hG⟩ := G.ex
  refine gq_of (ps_for hp hc hpi pg_gw pss_tw hs) (hG σ H _ S.wf S.den S.asr fun Jt H1 n e1 w1 j1 hns W => ?_)
  have sub : ∀ a, O a → O a ∨ H1 a = none := fun a h => .inl h
  refine for_it (J := Jt) (n := n) (G := fun H' => Ext O H1 H' ∧ Wf O H') (Y := fun i H2 x H3 => Same H2 H3 ∧ Dn C O H3 x (y n i)) ⟨fun i H' hi h => W.go O sub i H' hi h.1, fun H' h => W.stop O sub H' h.1, fun i H' x H2 hi h yy => W.yld O sub i H' x H2 hi h.1 h.2 yy⟩
    (fun i σ' H' => ∃ ρ' I', P n i ρ' I' ∧ Stt C O H1 H' σ' ρ' I') ⟨ρ, J, h0 n hns, w1, S.den.ext e1, j1, Ext.refl⟩ (fun i σ' H' _ ⟨ρ', I', _, S'⟩ => ⟨S'.ext, S'.wf⟩) ?_ ?_
  · rintro i xv σ' H' H2 hi ⟨ρ', I', pp, S'⟩ ⟨sm, nn⟩
    refine T.ok σ' H2 ρ' xv (y n i) _ (S'.wf.same sm) (S'.den.ext (Ext.of sm)) nn (hd n i hns hi) fun σ2 dn _ => ?_
    exact step n hns H1 (S.ext.trans e1) i ρ' I' σ2 H2 hi pp ⟨S'.wf.same sm, dn, I'.st sm S'.asr, S'.ext.trans (Ext.of sm)⟩
  · rintro σ' H' ⟨ρ', I', pp, S'⟩
    exact hend n hns ρ' I' σ' H' pp ⟨S'.wf, S'.den, S'.asr, (S.ext.trans e1).trans S'.ext⟩
/-- {"a": 1} -/
theorem ge_dic {j1 j2 : Nat} {p3 p4 : Pos} : GE C X O ρ I (.Dict [some (.Constant (.str "a") j1 p3)] [.Constant (.int 1) j2 p4] pos) I (Is .dic) := ge_of (pe_disp (pps_cons pe_str pe_int pps_nil) rfl rfl (by simp) (by simp)) fun σ H Q w dn i k => by
  intro q hq
  refine ⟨upd_same, [(.inr "a", .int 1)], rfl, by simp, ?_⟩
  have e0 : mergeK [] [((.inr "a" : Key), V.int 1)] = [((.inr "a" : Key), V.int 1)] := rfl
  rw [e0]
  have e1 : upd (upd H q (.dK [])) q (.dK [((.inr "a" : Key), V.int 1)]) = upd H q dicO := by
    funext b
    by_cases hb : b = q
    · rw [hb, upd_same, upd_same]
      rfl
    · rw [upd_ne hb, upd_ne hb, upd_ne hb]
  rw [e1]
  exact k _ _ _ (Ext.of (same_new hq)) (wf_new w hq) (I.st (same_new hq) i) rfl (.dic (own_not w hq) upd_same)
end
/-! ### passed ratios -/
theorem passed_wr {q : Rat} {r : D} (h : passedD q r) : ∃ a b, Wr r a b ∧ rt a b = q ∧ a.natAbs ≤ 3 * q.num.natAbs ∧ b.natAbs ≤ 3 * q.den := by
  have qd := q.den_pos
  rcases h with ⟨h1, rfl⟩ | ⟨m, hm, h⟩
  · refine ⟨q.num, 1, wr_int _, ?_, by omega, by simp; omega⟩
    have e := Rat.num_divInt_den q
    rw [h1] at e
    exact e
  · have hm0 : 0 < m := by rcases hm with rfl | rfl | rfl <;> omega
    have hb : 0 < (q.den : Int) * m := Int.mul_pos (by omega) hm0
    have er : rt (q.num * m) (q.den * m) = q := by
      have e := Rat.num_divInt_den q
      rw [Rat.divInt_eq_div, Rat.intCast_natCast] at e
      rw [rt, Rat.divInt_eq_div, Rat.intCast_mul, Rat.intCast_mul, Rat.intCast_natCast]
      have h1 := dn_ne qd
      have h2 : (m : Rat) ≠ 0 := fun z => by
        have := Rat.intCast_inj.mp (z.trans (by rfl : (0 : Rat) = ((0 : Int) : Rat)))
        omega
      grind
    have s1 : (q.num * m).natAbs ≤ 3 * q.num.natAbs := by
      rw [Int.natAbs_mul, Nat.mul_comm]
      exact Nat.mul_le_mul_right _ (by rcases hm with rfl | rfl | rfl <;> decide)
    have s2 : ((q.den : Int) * m).natAbs ≤ 3 * q.den := by
      rw [Int.natAbs_mul, Nat.mul_comm, Int.natAbs_natCast]
      exact Nat.mul_le_mul_right _ (by rcases hm with rfl | rfl | rfl <;> decide)
    rcases h with rfl | rfl
    · exact ⟨_, _, wr_tup hb, er, s1, s2⟩
    · exact ⟨_, _, wr_lst hb, er, s1, s2⟩
theorem three_lt {a b n : Nat} (h : a ≤ 3 * b) (hb : b < 2 ^ n) : a < 2 ^ (n + 2) := by
  rw [Nat.pow_add]
  omega
theorem passed_wq {q : Rat} {r : D} {n : Nat} (h : passedD q r) (hq : Hb n q) (hn : n + 2 ≤ 9000) : Wq r q := by
  obtain ⟨a, b, h1, h2, _, h4⟩ := passed_wr h
  exact ⟨a, b, h1, Nat.lt_of_lt_of_le (log_lt (three_lt h4 hq.2) (by omega)) hn, h2⟩
section
variable {P : Program} {w : World} {K : PySem.W.Frag} {mg : Str → Option Value} {base : Heap} {f : Addr} {fd : FuncData} {C : Addr} {k : Nat}
def preMade : List D → Prop := fun ds => ∃ qs : List Rat, ds = [.lst (prs qs)] ∧ qs.length ≤ 20 ∧ ∀ q ∈ qs, Hb 4000 q
def Rmade : List D → D → Prop := fun ds r => ∃ qs : List Rat, ds = [.lst (prs qs)] ∧ r = .poly (trim qs)
theorem sc_made : FnScope ["_law_pen_here", "_law_one", "_law_numbers", "_law_number"] ["_law_pen_here", "_law_one"] (defScope (top 59)) := ⟨rfl, rfl, rfl, by decide +kernel, rfl, by decide +kernel, by decide +kernel⟩
/-- every one passed, then noughts -/
def passedL (qs : List Rat) (ds : List D) : Prop := ∃ zs m, ds = zs ++ List.replicate m (.int 0) ∧ m ≤ 20 ∧ zs.length = qs.length ∧ ∀ i d, zs[i]? = some d → passedD (cf qs i) d
theorem trim_zeros (qs : List Rat) (m : Nat) : trim (qs ++ List.replicate m 0) = trim qs := by
  refine ext_cf (tr_trim _) (tr_trim _) fun i => ?_
  rw [cf_trim, cf_trim]
  by_cases h : i < qs.length
  · rw [cf_in h, cf_in (by rw [List.length_append]; omega), List.getElem_append_left h]
  · rw [cf_out (l := qs) (by omega)]
    by_cases h2 : i < (qs ++ List.replicate m 0).length
    · rw [cf_in h2, List.getElem_append_right (by omega), List.getElem_replicate]
    · exact cf_out (by omega)
theorem paired_at {ds : List D} {qs : List Rat} (hl : ds.length = qs.length) (h : ∀ i d, ds[i]? = some d → Wq d (cf qs i)) : Paired Wq ds qs := by
  induction ds generalizing qs with
  | nil =>
    cases qs with
    | nil => exact .nil
    | cons q qs => simp at hl
  | cons d ds ih =>
    cases qs with
    | nil => simp at hl
    | cons q qs =>
      exact .cons (h 0 d rfl) (ih (by simpa using hl) fun i e he => h (i + 1) e (by simpa using he))
theorem passedL_wq {qs : List Rat} {ds : List D} (h : passedL qs ds) (hq : ∀ q ∈ qs, Hb 4000 q) : ∃ m, m ≤ 20 ∧ Paired Wq ds (qs ++ List.replicate m 0) := by
  obtain ⟨zs, m, rfl, hm, hl, hz⟩ := h
  refine ⟨m, hm, paired_at (by simp [hl]) fun i d hd => ?_⟩
  by_cases hi : i < zs.length
  · rw [List.getElem?_append_left hi] at hd
    have e : cf (qs ++ List.replicate m 0) i = cf qs i := by
      rw [cf_in (by rw [List.length_append]; omega), cf_in (by omega), List.getElem_append_left (by omega)]
    rw [e]
    exact passed_wq (hz i d hd) (by rw [cf_in (by omega)]; exact hq _ (List.getElem_mem _)) (by omega)
  · rw [List.getElem?_append_right (by omega), List.getElem?_replicate] at hd
    split at hd
    · cases hd
      have e : cf (qs ++ List.replicate m 0) i = 0 := by
        rw [cf_in (by rw [List.length_append, List.length_replicate]; omega), List.getElem_append_right (by omega), List.getElem_replicate]
      rw [e]
      exact ⟨0, 1, wr_int 0, by decide, by rw [rt, Rat.divInt_eq_div]; simp; grind⟩
    · cases hd
theorem fn_made (g : Gs K mg C) (hD : FnN P w K mg base k C "_law_draw" 1 preDraw Rdraw) (hK : FnN P w K mg base k C "_law_pick" 1 prePick Rpick) (hP : FnN P w K mg base k C "_law_passed" 3 prePassed Rpassed) (hM : MkS P w K mg base k C) (F : FnP K "_law_made_poly" "_law_made_poly" (top 59) f fd) (hm : mg "_law_made_poly" = some (.ref f)) : FnN P w K mg base (k + 2) C "_law_made_poly" 62 preMade Rmade := by
  refine fn_pen F hm sc_made (F.bindsN fun _ _ _ _ _ _ us hl => match us, hl with | [_, _], _ => rfl) (fun ds h => by obtain ⟨q, rfl, _⟩ := h; rfl) ?_
  rintro cdv A outer s0 H E ds hr ⟨qs, rfl, hl, hq⟩
  intro O H0 p vs N De hO hn hN S hrt
  have hr1 : Room k (A.deeper (envOfC "_law_made_poly" (defScope (top 59)) s0.heap.objs.size f cdv)) := hr.mono (by omega)
  refine gq_set (J := penG O H0 p (N + 20 * 3 + 1)) (Φ := fun z => ∃ ds, z = .lst ds ∧ passedL qs ds) 2 S sc_made.nd ((ge_catN (P1 := fun ds => ds.length = qs.length ∧ ∀ i d, ds[i]? = some d → passedD (cf qs i) d) (P2 := fun ds => ∃ i : Int, (0 ≤ i ∧ i < 2) ∧ ds = List.replicate i.toNat (.int 0))
    ((ge_lcN (m := 3) (L := 20) (ns := fun n => n = (prs qs).length) (Gd := fun _ i d => passedD (cf qs i) d) rfl sc_made.nd hO (GI.gin (gi_list (ge_var 1))) (own := [("_law_number", 3)]) (blkOk_by (by rfl)) (fun b O' => tg_name (i := 3) (vs := [3]) sc_made.nd rfl (.inl rfl) (by simp)) (fun n i hn hi => trivial) (fun n hn => by rw [hn, prs_len]; exact hl) (by omega) (by omega) (fun b O' H2 n i M hsub hp hns hi hM => ?_)).imp fun z ⟨n, zs, hn, e1, e2, e3⟩ => ⟨zs, e1, by rw [e2, hn, prs_len], e3⟩)
    (ge_repN (r := fun i => 0 ≤ i ∧ i < 2) (ge_lst (ga_one ge_int)) ((ge_callN hD hr1 hO (ga_two (ge_var 0) ge_int) ⟨2, rfl, by omega, by omega⟩ (by omega)).imp fun z ⟨n, i, e, h0, h1, h2⟩ => ⟨i, h2, h0, by cases e; exact h1⟩) (fun i hi => by omega)) (fun d1 d2 h1 h2 => ?_)).imp fun z ⟨ds, es, e1, ⟨e2, e3⟩, i, hi, e4⟩ => ⟨ds ++ es, e1, ds, i.toNat, by rw [e4], by omega, e2, e3⟩) (fun σ1 H1 d hd S1 => ?_)
  · have hi' : i < qs.length := by rw [hns, prs_len] at hi; exact hi
    rw [prs_get hi', ← cf_in hi']
    have hqi : Hb 4000 (cf qs i) := by rw [cf_in hi']; exact hq _ (List.getElem_mem _)
    refine (ge_callN hP hr1 hp (ga_two (ge_var 0) (ge_var 3)) ⟨_, rfl, hqi⟩ hM).imp fun r ⟨q, e1, e2⟩ => ?_
    have : pair (cf qs i) = pair q := by simpa using e1
    have e3 : cf qs i = q := by
      have h1 := eqv_pair (cf qs i) q
      rw [this, eqv_pair] at h1
      simpa using h1
    rw [e3]
    exact e2
  · obtain ⟨i, hi, rfl⟩ := h2
    rw [h1.1, List.length_replicate]
    omega
  · obtain ⟨zs, rfl, hz⟩ := hd
    obtain ⟨m, hm20, hw⟩ := passedL_wq hz hq
    have hzl := wq_len hw
    rw [List.length_append, List.length_replicate] at hzl
    refine gq_retN (M := N + 62) S1 hrt (ge_makeN hM hr (ge_callN hK hr1 hO (ga_two (ge_var 0) (ge_lst (ga_two (ge_toTup (g.f "tuple") (ge_var 2)) (ge_var 2)))) ⟨_, _, rfl, rfl, by simp, by simp⟩ (by omega)) (nsr := trim qs) (fun d hd => ?_)) (fun H h => penG_mono (by omega) h) (fun r e => by cases e; exact ⟨qs, rfl, rfl⟩)
    obtain ⟨d0, es, e1, e2, e3⟩ := hd
    cases e1
    cases e2
    have hi : items d = some zs := by
      simp only [List.mem_cons, List.not_mem_nil, or_false] at e3
      rcases e3 with rfl | rfl <;> rfl
    exact ⟨zs, qs ++ List.replicate m 0, hi, hw, by omega, (trim_zeros qs m).symm⟩
end
end TM
/-! ## LwPen3 -/
set_option Elab.async false
set_option linter.all false
set_option maxRecDepth 100000
set_option maxHeartbeats 4000000
set_option exponentiation.threshold 100000
/-! LwPen3: _law_drawn, _law_any, _law_far, _law_some_ratio. -/
namespace TM
open PySem L2 PySem.Spec PyProof.Rows
/-- pairs told one by one are a row -/
theorem prs_of {Pq : Rat → Prop} : ∀ {zs : List D}, (∀ (i : Nat) (d : D), zs[i]? = some d → ∃ q, d = pair q ∧ Pq q) → ∃ qs : List Rat, zs = prs qs ∧ qs.length = zs.length ∧ ∀ q ∈ qs, Pq q
  | [], _ => ⟨[], rfl, rfl, fun q h => by cases h⟩
  | z :: zs, h => by
    obtain ⟨q, rfl, hq⟩ := h 0 z rfl
    obtain ⟨qs, rfl, hl, hp⟩ := prs_of (zs := zs) fun i d hd => h (i + 1) d (by simpa using hd)
    exact ⟨q :: qs, rfl, by simp [hl], fun r hr => (List.mem_cons.mp hr).elim (fun e => e ▸ hq) (hp r)⟩
theorem trim_mem {qs : List Rat} : ∀ q ∈ trim qs, q ∈ qs := fun q h => by
  rw [trim_take qs] at h
  exact List.mem_of_mem_take h
section
variable {P : Program} {w : World} {K : PySem.W.Frag} {mg : Str → Option Value} {base : Heap} {f : Addr} {fd : FuncData} {C : Addr} {k : Nat}
def preDrawn : List D → Prop := fun ds => ∃ d m : Int, ds = [.int d, .int m] ∧ 0 ≤ d ∧ d ≤ 10 ∧ 0 ≤ m ∧ m ≤ 10
def Rdrawn : List D → D → Prop := fun ds r => ∃ (d m : Int) (qs : List Rat), ds = [.int d, .int m] ∧ r = .lst (prs qs) ∧ Tr qs ∧ (qs.length : Int) ≤ d + 1 ∧ ∀ q ∈ qs, Hb 10 q
theorem sc_drawn : FnScope ["_law_pen_here", "_law_degree", "_law_most", "_law_k"] ["_law_pen_here", "_law_degree", "_law_most"] (defScope (top 60)) := ⟨rfl, rfl, rfl, by decide +kernel, rfl, by decide +kernel, by decide +kernel⟩
theorem fn_drawn (g : Gs K mg C) (hD : FnN P w K mg base k C "_law_draw" 1 preDraw Rdraw) (hR : FnN P w K mg base k C "_law_ratio" 3 preRatio Rratio) (hZ : FnS P w K mg base k C "_law_poly" RlPoly) (F : FnP K "_law_drawn" "_law_drawn" (top 60) f fd) (hm : mg "_law_drawn" = some (.ref f)) : FnN P w K mg base (k + 1) C "_law_drawn" 34 preDrawn Rdrawn := by
  refine fn_pen F hm sc_drawn (F.bindsN fun _ _ _ _ _ _ us hl => match us, hl with | [_, _, _], _ => rfl) (fun ds h => by obtain ⟨d, m, rfl, _⟩ := h; rfl) ?_
  rintro cdv A outer s0 H E ds hr ⟨d, m, rfl, hd0, hd1, hm0, hm1⟩
  intro O H0 p vs N De hO hn hN S hrt
  refine gq_retN (M := N + 34) S hrt (ge_callP hZ hr (ga_oneN (ge_lcN (N := N + 1) (m := 3) (L := 11) (Gd := fun _ i z => ∃ q, z = pair q ∧ Hb 10 q) rfl sc_drawn.nd hO (gin_range1 (Φ := fun z => ∃ i : Int, z = .int i ∧ i ≤ d + 1) (g.f "range") ((ge_addN (r := fun i => i = 1) (s := fun i => 0 ≤ i ∧ i < d + 1) (ge_isN ge_int) ?_).imp fun z hz => ?_))
    (own := [("_law_k", 3)]) (blkOk_by (by rfl)) (fun b O' => tg_name (i := 3) (vs := [3]) sc_drawn.nd rfl (.inl rfl) (by simp)) (fun n i hn hi => trivial) (fun n hn => ?_) (by omega) (by omega) (fun b O' H2 n i M hsub hp hns hi hM => ?_))) (fun ds h => ?_)) (fun H h => penG_mono (by omega) h) (fun r hr => ?_)
  · exact (ge_callN hD hr hO (ga_two (ge_var 0) (ge_add (ge_var 1) ge_int)) ⟨d + 1, rfl, by omega, by omega⟩ (by omega)).imp fun z ⟨n, i, e, h0, h1, h2⟩ => ⟨i, h2, h0, by cases e; exact h1⟩
  · obtain ⟨i, j, e, hi, hj0, hj1⟩ := hz
    exact ⟨i + j, e, by omega, by omega, i + j, e, by omega⟩
  · obtain ⟨i, e, hi⟩ := hn
    have : (n : Int) = i := by injection e
    omega
  · exact (ge_callN hR hr hp (ga_two (ge_var 0) (ge_var 2)) ⟨m, rfl, hm0, hm1⟩ hM).imp fun z h => h
  · obtain ⟨z, rfl, n, zs, ⟨i, e, hi⟩, rfl, hl, hz⟩ := h
    have : (n : Int) = i := by injection e
    obtain ⟨qs, rfl, hql, hq⟩ := prs_of hz
    exact ⟨_, qs, rfl, by omega, rfl⟩
  · obtain ⟨ds, ⟨z, rfl, n, zs, ⟨i, e, hi⟩, rfl, hl, hz⟩, qs, e1, _, rfl⟩ := hr
    have : (n : Int) = i := by injection e
    obtain ⟨qs', rfl, hql, hq⟩ := prs_of hz
    have e2 : prs qs' = prs qs := by simpa using e1
    have e3 : qs' = qs := by
      have := eqv_prsT qs' qs
      rw [e2, eqv_prsT] at this
      simpa using this
    subst e3
    have tl := trim_len qs'
    exact ⟨d, m, trim qs', rfl, rfl, tr_trim _, by omega, fun q h => hq q (trim_mem q h)⟩
def Rfar : List D → D → Prop := fun ds r => ds = [] ∧ ∃ i : Int, r = .int i ∧ i.natAbs < 10 ^ 18
theorem sc_far : FnScope ["_law_pen_here", "_law_found", "_law_k"] ["_law_pen_here"] (defScope (top 64)) := ⟨rfl, rfl, rfl, by decide +kernel, rfl, by decide +kernel, by decide +kernel⟩
theorem fn_far (g : Gs K mg C) (hD : FnN P w K mg base k C "_law_draw" 1 preDraw Rdraw) (hK : FnN P w K mg base k C "_law_pick" 1 prePick Rpick) (F : FnP K "_law_far" "_law_far" (top 64) f fd) (hm : mg "_law_far" = some (.ref f)) : FnN P w K mg base (k + 1) C "_law_far" 8 (fun ds => ds = []) Rfar := by
  refine fn_pen F hm sc_far (F.bindsN fun _ _ _ _ _ _ us hl => match us, hl with | [_], _ => rfl) (fun ds h => by cases h; rfl) ?_
  rintro cdv A outer s0 H E ds hr rfl
  intro O H0 p vs N De hO hn hN S hrt
  refine gq_setP 1 S sc_far.nd ge_int (fun σ1 H1 S1 => ?_)
  refine gq_forN (J := penG O H0 p (N + 1)) S1 PassesOwn.never rfl (gin_range1 (Φ := fun z => ∃ n : Nat, z = .int n ∧ n ≤ 6) (g.f "range") ((ge_callN hK hr hO (ga_two (ge_var 0) (ge_lst (ga_cons ge_int (ga_cons ge_int (ga_cons ge_int (ga_two ge_int ge_int)))))) ⟨_, _, rfl, rfl, by simp, by simp⟩ (by omega)).imp fun z hz => ?_)) (tg_name (i := 2) (vs := [2]) sc_far.nd rfl (.inl rfl) (by simp)) (fun n i hn hi => trivial)
    (fun n i ρ I => I = penG O H0 p (N + 1 + i) ∧ ∃ (x : Int) (y : Option D), 0 ≤ x ∧ x < 1000 ^ i ∧ ρ = [some (.val (.ref p)), some (.int x), y]) (fun n hn => ⟨rfl, 0, none, by omega, by simp, rfl⟩) ?_ ?_
  · obtain ⟨d, es, e1, e2, e3⟩ := hz
    cases e1
    cases e2
    simp only [List.mem_cons, List.not_mem_nil, or_false] at e3
    rcases e3 with rfl | rfl | rfl | rfl | rfl
    · exact ⟨0, rfl, by omega, by omega, 0, rfl, by omega⟩
    · exact ⟨1, rfl, by omega, by omega, 1, rfl, by omega⟩
    · exact ⟨1, rfl, by omega, by omega, 1, rfl, by omega⟩
    · exact ⟨2, rfl, by omega, by omega, 2, rfl, by omega⟩
    · exact ⟨6, rfl, by omega, by omega, 6, rfl, by omega⟩
  · rintro n ⟨n', en, hn6⟩ H2 e2 i ρ' I' σ' H' hi ⟨rfl, x, y, hx0, hx1, rfl⟩ S2
    have hn : n ≤ 6 := by
      have : (n : Int) = (n' : Int) := by injection en
      omega
    refine gq_set (J := penG O H0 p (N + 1 + i + 1)) 1 S2 sc_far.nd (ge_addN (r := fun j => j = x * 1000) (s := fun j => 0 ≤ j ∧ j < 1000) (ge_isN (ge_mul' (ge_var 1) ge_int (.inr (by omega)))) ((ge_callN hD hr hO (ga_two (ge_var 0) ge_int) ⟨1000, rfl, by omega, by omega⟩ (by omega)).imp fun z ⟨n, i, e, h0, h1, h2⟩ => ⟨i, h2, h0, by cases e; exact h1⟩)) (fun σ3 H3 d hd S3 => gq_nil ?_)
    obtain ⟨u, v, rfl, rfl, hv0, hv1⟩ := hd
    refine ⟨_, _, ⟨by rw [Nat.add_assoc], x * 1000 + v, _, by omega, ?_, rfl⟩, S3⟩
    rw [Int.pow_succ]
    omega
  · rintro n ⟨n', en, hn6⟩ ρ' I' σ' H' ⟨rfl, x, y, hx0, hx1, rfl⟩ S2
    have hn : n ≤ 6 := by
      have : (n : Int) = (n' : Int) := by injection en
      omega
    have hx : x < 10 ^ 18 := by
      have h1 : (1000 : Int) ^ n ≤ 1000 ^ 6 := by
        have := Nat.pow_le_pow_right (show 0 < 1000 by omega) hn
        exact_mod_cast this
      have h2 : (1000 : Int) ^ 6 = 10 ^ 18 := by decide
      omega
    refine gq_retN (M := N + 8) S2 hrt (ge_ifn (J := penG O H0 p (N + 1 + n + 1)) (Φc := fun _ => True) (Φ := fun z => ∃ i : Int, z = .int i ∧ i.natAbs < 10 ^ 18) ?_ (fun _ => (ge_var 1).imp fun z e => ⟨x, e, by omega⟩) (fun _ => (ge_neg (ge_var 1)).imp fun z e => ⟨-x, e, by omega⟩)) (fun H h => penG_mono (by omega) h) (fun r hr => ⟨rfl, hr⟩)
    refine gt_of (pt_cmpR op_gt pe_tw pe_tw (nomark _)) fun σ H Q w dn i q => ?_
    refine (ge_callN hD hr hO (ga_two (ge_var 0) ge_int) ⟨3, rfl, by omega, by omega⟩ (by omega)) σ H _ w dn i fun v1 H1 z1 e1 w1 j1 p1 n1 => ?_
    obtain ⟨_, i1, _, _, _, rfl⟩ := p1
    refine (ge_int : GE C _ O _ _ _ _ (Is (.int 0))) σ H1 _ w1 (dn.ext e1) j1 fun v2 H2 z2 e2 w2 j2 p2 n2 => ?_
    cases p2
    cases n1
    cases n2
    exact ⟨_, _, rfl, rfl, _, rfl, q _ H2 (e1.trans e2) w2 j2 trivial⟩
def RsomeRatio : List D → D → Prop := fun ds r => ds = [] ∧ ∃ q : Rat, r = pair q ∧ Hb 64 q
theorem sc_somer : FnScope ["_law_pen_here"] ["_law_pen_here"] (defScope (top 65)) := ⟨rfl, rfl, rfl, by decide +kernel, rfl, by decide +kernel, by decide +kernel⟩
theorem fn_somer (g : Gs K mg C) (hF : FnN P w K mg base k C "_law_far" 8 (fun ds => ds = []) Rfar) (hQ : FnS P w K mg base k C "_law_q" RlQ) (F : FnP K "_law_some_ratio" "_law_some_ratio" (top 65) f fd) (hm : mg "_law_some_ratio" = some (.ref f)) : FnN P w K mg base (k + 1) C "_law_some_ratio" 16 (fun ds => ds = []) RsomeRatio := by
  refine fn_pen F hm sc_somer (F.bindsN fun _ _ _ _ _ _ us hl => match us, hl with | [_], _ => rfl) (fun ds h => by cases h; rfl) ?_
  rintro cdv A outer s0 H E ds hr rfl
  intro O H0 p vs N De hO hn hN S hrt
  refine gq_retN (M := N + 16) S hrt (ge_callP hQ hr (ga_imp (Ψ' := fun ds => ∃ i j : Int, i.natAbs < 10 ^ 18 ∧ 1 ≤ j ∧ j ≤ 10 ^ 18 ∧ ds = [.int i, .int j]) (ga_consn (J := penG O H0 p (N + 8)) (Φ := fun z => ∃ i : Int, z = .int i ∧ i.natAbs < 10 ^ 18) (Ψ := fun _ ds => ∃ d, ds = [d] ∧ ∃ a b : Int, d = .int (a + b) ∧ a = 1 ∧ ∃ i : Int, i.natAbs < 10 ^ 18 ∧ b = (i.natAbs : Int)) ?_ (fun d _ => ga_oneN (ge_addN (r := fun a => a = 1) (s := fun b => ∃ i : Int, i.natAbs < 10 ^ 18 ∧ b = (i.natAbs : Int)) (ge_isN ge_int) (ge_absN (g.f "abs") ?_)))) ?_) ?_) (fun H h => penG_mono (N := N + 8 + 8) (by omega) h) (fun r hR => ?_)
  · exact (ge_callN (N := N) (ds := []) (pre := fun ds => ds = []) (R := Rfar) hF hr hO (ga_one (ge_var 0)) rfl (by omega)).imp fun z h => h.2
  · exact (ge_callN (N := N + 8) (ds := []) (pre := fun ds => ds = []) (R := Rfar) hF hr hO (ga_one (ge_var 0)) rfl (by omega)).imp fun z h => h.2
  · rintro ds ⟨d, ds', rfl, ⟨i, rfl, hi⟩, z, rfl, a, b, rfl, rfl, j, hj, rfl⟩
    exact ⟨i, _, hi, by omega, by omega, rfl⟩
  · rintro ds ⟨i, j, hi, hj0, hj1, rfl⟩
    exact ⟨_, _, _, rfl, by omega, Nat.lt_of_lt_of_le (log_lt (n := 60) (by omega) (by omega)) (by omega), rfl⟩
  · obtain ⟨ds, ⟨i, j, hi, hj0, hj1, rfl⟩, a', b', e, _, _, rfl⟩ := hR
    cases e
    exact ⟨rfl, _, rfl, Nat.lt_of_le_of_lt (rt_num_le (by omega)) (by omega), Nat.lt_of_le_of_lt (rt_den_le (by omega)) (by omega)⟩
end
end TM
/-! ## LwPen4 -/
set_option Elab.async false
set_option linter.all false
set_option maxRecDepth 100000
set_option maxHeartbeats 4000000
set_option exponentiation.threshold 100000
/-! LwPen4: _law_any. -/
namespace TM
open PySem L2 PySem.Spec PyProof.Rows
section
variable {P : Program} {w : World} {K : PySem.W.Frag} {mg : Str → Option Value} {base : Heap} {f : Addr} {fd : FuncData} {C : Addr} {k : Nat}
/-- what is no ratio -/
def anyL : List D := [.non, .bl true, .str "1", .tup [.int 1, .int 0], .tup [.int 1, .int (-2)], .tup [.int 1, .bl true], .lst [.int 1], .tup [.int 1, .int 2, .int 3], .dic, .tup [.str "1", .int 2], .tup [.non, .int 1], .tup [.bl true, .int 2], .lst [.int 2, .bl false], .tup [.tup [.int 1, .int 2], .int 3], .tup []]
theorem sw_lst {es : List Expr} {p : Pos} {t : Option Expr} {l : Nat} {env : PySem.Env} : swapsWith (.List es p) t l env = pure false := rfl
theorem st_c {c : Const} {i : Nat} {p : Pos} {es : List Expr} {env : PySem.Env} : starEach (.Constant c i p :: es) env = (false, eval (.Constant c i p) env) :: starEach es env := rfl
theorem st_t {c : List Expr} {k : Nat} {p : Pos} {es : List Expr} {env : PySem.Env} : starEach (.Tuple c k p :: es) env = (false, eval (.Tuple c k p) env) :: starEach es env := rfl
theorem st_l {c : List Expr} {p : Pos} {es : List Expr} {env : PySem.Env} : starEach (.List c p :: es) env = (false, eval (.List c p) env) :: starEach es env := rfl
theorem st_d {c : List (Option Expr)} {d : List Expr} {p : Pos} {es : List Expr} {env : PySem.Env} : starEach (.Dict c d p :: es) env = (false, eval (.Dict c d p) env) :: starEach es env := rfl
def Rany : List D → D → Prop := fun ds r => ds = [] ∧ r ∈ anyL
theorem sc_any : FnScope ["_law_pen_here", "_law_some"] ["_law_pen_here"] (defScope (top 63)) := ⟨rfl, rfl, rfl, by decide +kernel, rfl, by decide +kernel, by decide +kernel⟩
theorem fn_any (hK : FnN P w K mg base k C "_law_pick" 1 prePick Rpick) (F : FnP K "_law_any" "_law_any" (top 63) f fd) (hm : mg "_law_any" = some (.ref f)) : FnN P w K mg base (k + 1) C "_law_any" 1 (fun ds => ds = []) Rany := by
  refine fn_pen F hm sc_any (F.bindsN fun _ _ _ _ _ _ us hl => match us, hl with | [_], _ => rfl) (fun ds h => by cases h; rfl) ?_
  rintro cdv A outer s0 H E ds hr rfl
  intro O H0 p vs N De hO hn hN S hrt
  refine (gq_setP (x := "_law_some") (d := .lst [.non, .bl true, .str "1", .tup [.int 1, .int 0], .tup [.int 1, .int (-2)], .tup [.int 1, .bl true], .lst [.int 1], .tup [.int 1, .int 2, .int 3], .dic, .tup [.str "1", .int 2], .tup [.non, .int 1], .tup [.bl true, .int 2]]) 1 S ?nd ?h ?k ?hi ?hx sw_lst ?hf : ssw _ _ _ _ _)
  case nd => exact sc_any.nd
  case hi => rfl
  case hx => exact .inl rfl
  case hf => exact .inl rfl
  case h =>
    refine ge_lst ?_
    refine (ga_cons ge_non ?_ st_c : GA _ _ _ _ _ _ _ _)
    refine (ga_cons ge_bl ?_ st_c : GA _ _ _ _ _ _ _ _)
    refine (ga_cons ge_str ?_ st_c : GA _ _ _ _ _ _ _ _)
    refine (ga_cons (ge_tup (ga_two ge_int ge_int)) ?_ st_t : GA _ _ _ _ _ _ _ _)
    refine (ga_cons (ge_tup (ga_two ge_int (ge_neg ge_int))) ?_ st_t : GA _ _ _ _ _ _ _ _)
    refine (ga_cons (ge_tup (ga_two ge_int ge_bl)) ?_ st_t : GA _ _ _ _ _ _ _ _)
    refine (ga_cons (ge_lst (ga_one ge_int)) ?_ st_l : GA _ _ _ _ _ _ _ _)
    refine (ga_cons (ge_tup (ga_cons ge_int (ga_two ge_int ge_int))) ?_ st_t : GA _ _ _ _ _ _ _ _)
    refine (ga_cons ge_dic ?_ st_d : GA _ _ _ _ _ _ _ _)
    refine (ga_cons (ge_tup (ga_two ge_str ge_int)) ?_ st_t : GA _ _ _ _ _ _ _ _)
    exact ga_two (ge_tup (ga_two ge_non ge_int)) (ge_tup (ga_two ge_bl ge_int))
  rintro σ1 H1 S1
  refine gq_retN (M := N + 1) S1 hrt (ge_callN hK hr hO (ga_two (ge_var 0) ?_) ⟨.lst (anyL.take 12 ++ [.lst [.int 2, .bl false], .tup [.tup [.int 1, .int 2], .int 3], .tup []]), _, rfl, rfl, by decide, by decide⟩ hN) (fun H h => h) (fun r hR => ?_)
  · exact ge_cat (ge_var 1) (ge_lst (ga_cons (ge_lst (ga_two ge_int ge_bl)) (ga_two (ge_tup (ga_two (ge_tup (ga_two ge_int ge_int)) ge_int)) (ge_tup ga_nil)))) (by decide)
  obtain ⟨d, es, e1, e2, e3⟩ := hR
  cases e1
  cases e2
  exact ⟨rfl, e3⟩
end
end TM
/-! ## LwPen5 -/
set_option Elab.async false
set_option linter.all false
set_option maxRecDepth 100000
set_option maxHeartbeats 4000000
set_option exponentiation.threshold 100000
/-! LwPen5: _law_pen. -/
namespace TM
open PySem L2 PySem.Spec PyProof.Rows
theorem dn_nums {C : Addr} {O : Addr → Prop} {H : Hp} : ∀ {ns : List Int} {xs : List V}, DnAll C O H xs (ns.map D.int) → xs = ns.map V.int
  | [], _, h => by cases h; rfl
  | n :: ns, _, h => by
    cases h with
    | cons a b =>
      cases a
      rw [dn_nums b]
      rfl
theorem dn_ints {C : Addr} {O : Addr → Prop} {H : Hp} : ∀ ns : List Int, DnAll C O H (ns.map V.int) (ns.map D.int)
  | [] => .nil
  | n :: ns => .cons (.int n) (dn_ints ns)
/-- a new pen -/
structure PenNew (O : Addr → Prop) (H0 H : Hp) (p : Addr) : Prop where
  no : ¬ O p
  nw : H0 p = none
  at_ : ∃ s, PenOk s 0 ∧ ¬ O s.cs ∧ s.cs ≠ p ∧ H p = some (.dK (penK s)) ∧ H s.cs = some (.lst (s.ns.map V.int))
/-- what O owns is as it was, the script is at a -/
def scA (K : PySem.W.Frag) (O : Addr → Prop) (H0 : Hp) (a : Addr) (xs : List V) : Asr := ⟨fun H => (ownA O H0).P H ∧ SqL K H a xs, fun e h => ⟨(ownA O H0).st e h.1, Same.seq e h.2⟩⟩
theorem sql_go {K : PySem.W.Frag} {O : Addr → Prop} {H H' : Hp} {a : Addr} {xs : List V} (h : SqL K H a xs) (e : Ext O H H') (hO : H a ≠ none → ¬ O a) : SqL K H' a xs := by
  rcases h with (h | ⟨o, h⟩) | h
  · exact .inl (.inl (e _ _ (hO (by rw [h]; exact fun z => nomatch z)) h))
  · exact .inl (.inr ⟨o, e _ _ (hO (by rw [h]; exact fun z => nomatch z)) h⟩)
  · exact .inr h
section
variable {C : Addr} {X : Cx} {O : Addr → Prop} {ρ : Env} {I : Asr} {e : Expr} {a : Addr} {ns : List Int} {pos p : Pos}
/-- a walk over the script -/
theorem gi_listS {tg : Expr} (nO : ¬ O a) (hI : ∀ H, I.P H → SqL X.K H a (ns.map V.int)) (ha : GE C X O ρ I e I (Is (.val (.ref a)))) : GI C X O ρ I tg e I ns.length (fun i => .int (ns.getD i 0)) := by
  refine ⟨_, pi_list pe_tw, fun σ H R w dn i k => ha σ H _ w dn i fun v H1 z e1 w1 j1 p1 n1 => ?_⟩
  cases p1
  cases n1
  have ok : ∀ (O' : Addr → Prop), (∀ a, O' a → O a ∨ H1 a = none) → ∀ H, Ext O' H1 H → SqL X.K H a (ns.map V.int) := fun O' ho H e => sql_go (hI H1 j1) e fun hn z => (ho a z).elim nO hn
  have len : (ns.map V.int).length = ns.length := List.length_map _
  refine ⟨a, rfl, ⟨_, hI H1 j1⟩, k _ H1 e1 w1 j1 ⟨fun O' ho i H hi e => ?_, fun O' ho H e => ?_, fun O' ho i H x H' hi e wf y => ?_⟩⟩
  · exact walk_list.goes i H (by rw [len]; exact hi) (ok O' ho H e)
  · rw [← len]
    exact walk_list.stops H (ok O' ho H e)
  · obtain ⟨e2, hx⟩ := walk_list.yields i H x H' (by rw [len]; exact hi) (ok O' ho H e) y
    subst e2
    rw [List.getElem?_map, List.getElem?_eq_getElem hi] at hx
    have hx' : x = .int ns[i] := (Option.some.inj hx).symm
    refine ⟨Same.refl _, ?_⟩
    rw [hx', List.getD_eq_getElem?_getD, List.getElem?_eq_getElem hi]
    exact .int _
theorem evN_listS {x : Str} (hI : ∀ H, I.P H → SqL X.K H a (ns.map V.int)) (hm : X.mg "list" = none) (ha : GE C X O ρ I e I (Is (.val (.ref a)))) (hg : Gl X "list" := by rfl) (he : starEach [e] X.env = (false, eval e X.env) :: starEach [] X.env := by rfl) (hpl : (backTo pos (starEach [] X.env)).any (·.1) = false := by rfl) :
    EvN C O ρ I (tw X (.Call (.Name "list" p) [e] [] pos)) I (ns.map D.int) := fun σ H Q w dn ii k => tw_of (pe_callTy call_list_of hg hm PyProof.Rows.boot_list (pa_cons pe_tw pa_nil he) (by decide) (by decide) he hpl) (ha σ H _ w dn ii fun v H1 d1 e1 w1 j1 p1 n1 => by
    cases p1
    cases n1
    refine ⟨a, ns.map V.int, rfl, .inl (hI H1 j1), fun l hl => k l _ H1 e1 hl w1 j1 ?_⟩
    clear k
    induction ns with
    | nil => exact .nil
    | cons n ns ih => exact .cons (.int _) (dn_ints ns))
end
def spMk (C : Addr) (K : PySem.W.Frag) : Sp := fun vs H Q _ => ∃ (O : Addr → Prop) (a : Addr) (ns : List Int), vs = [.ref a] ∧ ¬ O a ∧ Wf O H ∧ SqL K H a (ns.map V.int) ∧ ns.length ≤ 1000 ∧
  ∀ p H', PenNew O H H' p → Ext O H H' → Wf O H' → (ownA O H).P H' → Q (.ref p) H'
section
variable {P : Program} {w : World} {K : PySem.W.Frag} {mg : Str → Option Value} {base : Heap} {f : Addr} {fd : FuncData} {C : Addr} {k : Nat}
theorem sc_pen : FnScope ["_law_script", "_law_fold", "_law_cell"] ["_law_script"] (defScope (top 34)) := ⟨rfl, rfl, rfl, by decide +kernel, rfl, by decide +kernel, by decide +kernel⟩
theorem fn_pen0 (g : Gs K mg C) (F : FnP K "_law_pen" "_law_pen" (top 34) f fd) (hm : mg "_law_pen" = some (.ref f)) : Fn P w K mg base CX0 (k + 1) "_law_pen" (spMk C K) := by
  refine ⟨f, fd, ["_law_script"], F.ok sc_pen (fun vs H Q E h => ?_) fun cdv A outer s H vs Q E hr h => ?_, hm, F.kp, F.bindsN fun _ _ _ _ _ _ us hl => match us, hl with | [_], _ => rfl⟩
  · obtain ⟨O, a, ns, rfl, _⟩ := h
    rfl
  obtain ⟨O, a, ns, rfl, nOa, hw, hn, hl, hQ⟩ := h
  refine ⟨_, PSs.nox pss_tw, ?_⟩
  have S : Stt C O H H (start ["_law_script", "_law_fold", "_law_cell"] [.ref a]) [some (.val (.ref a)), none, none] (scA K O H a (ns.map V.int)) := Stt.start (vs := [.ref a]) (ds := [.val (.ref a)]) hw (.cons (.val _) .nil) ⟨ownA_refl, hn⟩
  refine gq_setP 1 S sc_pen.nd ge_int (fun σ1 H1 S1 => ?_)
  refine gq_for S1 PassesOwn.never rfl (gi_listS nOa (fun H h => h.2) (ge_var 0)) (tg_name (i := 2) (vs := [2]) sc_pen.nd rfl (.inl rfl) (by simp)) (fun i hi => trivial)
    (fun i ρ I => I = scA K O H a (ns.map V.int) ∧ ∃ (x : Int) (y : Option D), 0 ≤ x ∧ x < 2147483648 ∧ ρ = [some (.val (.ref a)), some (.int x), y]) ⟨rfl, 0, none, by omega, by omega, rfl⟩ ?_ ?_
  · rintro H2 e2 i ρ' I' σ' H' hi ⟨rfl, x, y, hx0, hx1, rfl⟩ S2
    generalize ns.getD i 0 = c at S2
    refine gq_setP 1 S2 sc_pen.nd (ge_mod (ge_toInt (g.f "int") (ge_add (ge_mul' (ge_var 1) ge_int (.inr (by omega))) (ge_var 2))) ge_int (by omega)) (fun σ3 H3 S3 => gq_nil ?_)
    have h1 := Int.emod_nonneg (x * 47 + c) (b := 1000000007) (by omega)
    have h2 := Int.emod_lt_of_pos (x * 47 + c) (b := 1000000007) (by omega)
    exact ⟨_, _, ⟨rfl, _, _, h1, by omega, rfl⟩, S3⟩
  · rintro ρ' I' σ' H' ⟨rfl, x, y, hx0, hx1, rfl⟩ S2
    refine gq_of (ps_ret (pe_disp (pps_cons pe_str pe_tw (pps_cons pe_str pe_int (pps_cons pe_str pe_int (pps_cons pe_str pe_int (pps_cons pe_str (pe_var (i := 1) rfl (.inl rfl)) pps_nil))))) rfl rfl (by simp) (by simp))) ?_
    intro p hp
    have sm := same_new (o := HO.dK []) hp
    have hE : ∀ p1 p2 p3, EvN C O [some (.val (.ref a)), some (.int x), y] (scA K O H a (ns.map V.int)) (tw (bX P w K mg base ["_law_script", "_law_fold", "_law_cell"] "_law_pen" (top 34) f cdv A outer s H E) (.Call (.Name "list" p1) [.Name "_law_script" p2] [] p3)) (scA K O H a (ns.map V.int)) (ns.map D.int) := fun _ _ _ => evN_listS (x := "list") (fun H h => h.2) (g.f "list") (ge_var 0)
    refine hE _ _ _ σ' _ _ (wf_new S2.wf hp) (S2.den.ext (Ext.of sm)) ((scA K O H a (ns.map V.int)).st sm S2.asr) fun q xs H3 e3 hq w3 j3 n3 => ?_
    obtain ⟨v, ev, nv⟩ := S2.den.at_ 1 _ rfl
    cases nv
    have np : ¬ O p := own_not S2.wf hp
    have hp3 : H3 p = some (.dK []) := e3 p _ np upd_same
    have hqp : p ≠ q := fun z => by rw [z, hq] at hp3; cases hp3
    refine ⟨_, ev, ?_⟩
    refine ⟨by rw [upd_ne hqp]; exact hp3, [(.inr "cells", .ref q), (.inr "at", .int 0), (.inr "digits", .int 0), (.inr "count", .int 0), (.inr "fold", .int x)], rfl, by simp, ?_⟩
    have em : mergeK [] [((.inr "cells" : Key), V.ref q), (.inr "at", .int 0), (.inr "digits", .int 0), (.inr "count", .int 0), (.inr "fold", .int x)] = penK ⟨q, ns, 0, 0, 0, x⟩ := rfl
    rw [em]
    have nq : ¬ O q := own_not w3 hq
    have e0 : Ext O H' H3 := (Ext.of sm).trans e3
    have hp0 : H p = none := new_ext S2.wf S2.ext hp
    have eS : Ext O H (upd (upd H3 q (.lst xs)) p (.dK (penK ⟨q, ns, 0, 0, 0, x⟩))) := fun b o nb h => by
      have h1 := e0 b o nb (S2.ext b o nb h)
      rw [upd_ne (fun z => by rw [z, hp0] at h; cases h), upd_ne (fun z => by rw [z, hq] at h1; cases h1)]
      exact h1
    refine hQ p _ ⟨np, hp0, ⟨q, ns, 0, 0, 0, x⟩, ⟨Int.le_refl 0, Int.le_refl 0, Int.le_refl 0, Int.le_refl 0, hx0, hx1, hl⟩, nq, Ne.symm hqp, upd_same, ?_⟩ eS ?_ ?_
    · rw [upd_ne (Ne.symm hqp), upd_same, dn_nums n3]
    · intro a oa
      rw [upd_ne (fun z : a = p => np (z ▸ oa)), upd_ne (fun z : a = q => nq (z ▸ oa))]
      exact w3 a oa
    · intro a o oa h
      rw [upd_ne (fun z : a = p => np (z ▸ oa)), upd_ne (fun z : a = q => nq (z ▸ oa))]
      exact j3.1 a o oa h
end
end TM
/-! ## TmRepr -/
set_option Elab.async false
set_option linter.all false
set_option maxRecDepth 100000
set_option maxHeartbeats 4000000
set_option exponentiation.threshold 100000
/-! TmRepr: repr of data. -/
namespace TM
open PySem L2 PySem.Spec PyProof.Rows
section
variable {C : Addr} {X : Cx} {O : Addr → Prop} {pins : List (Addr × Obj)} {σ : L2.St} {H : Hp} {s : Shared}
/-- the base knows sys.modules -/
def SysIn (base : Heap) : Prop := ∃ o, base.get? sysModules = some o
theorem inv_nosys (hS : SysIn X.base) (I : Inv X pins σ H s) {a : Addr} {o : HO} (h : H a = some o) : sysModules ≠ a := fun e => by
  obtain ⟨o', hb⟩ := hS
  have := (I.bs _ _ hb).2
  rw [e, h] at this
  cases this
mutual
/-- data that repr shows -/
def D.rp : D → Bool
  | .non => true
  | .bl _ => true
  | .int i => decide (i.natAbs.log2 < 1920)
  | .str _ => true
  | .lst xs => D.rps xs
  | .tup xs => D.rps xs
  | .dic => true
  | .poly _ => false
  | .val _ => false
def D.rps : List D → Bool
  | [] => true
  | d :: ds => D.rp d && D.rps ds
end
mutual
theorem D.rp_show : ∀ d : D, d.rp = true → d.py.showable = true
  | .non, _ => rfl
  | .bl _, _ => rfl
  | .int i, h => by unfold D.rp at h; unfold D.py PyData.showable; exact h
  | .str x, h => rfl
  | .lst xs, h => by unfold D.rp at h; unfold D.py PyData.showable; exact D.rps_show xs h
  | .tup xs, h => by unfold D.rp at h; unfold D.py PyData.showable; exact D.rps_show xs h
  | .dic, h => by decide
  | .poly _, h => by unfold D.rp at h; cases h
  | .val _, h => by unfold D.rp at h; cases h
theorem D.rps_show : ∀ ds : List D, D.rps ds = true → PyData.showableAll (D.pys ds) = true
  | [], _ => rfl
  | d :: ds, h => by
    unfold D.rps at h
    obtain ⟨h1, h2⟩ := Bool.and_eq_true_iff.mp h
    unfold D.pys PyData.showableAll
    rw [D.rp_show d h1, D.rps_show ds h2]
    rfl
end
mutual
theorem Dn.reads (hS : SysIn X.base) (I : Inv X pins σ H s) : ∀ (d : D) (v : V) (u : Value), Dn C O H v d → d.rp = true → RelV v u → ∃ as, Reads s.heap u d.py as ∧ sysModules ∉ as
  | .non, _, _, h, _, r => by
    cases h
    cases r
    exact ⟨_, Reads.none, by simp⟩
  | .bl b, _, _, h, _, r => by
    cases h
    cases r
    exact ⟨_, Reads.bool b, by simp⟩
  | .int i, _, _, h, _, r => by
    cases h
    obtain ⟨t, rfl⟩ := r
    exact ⟨_, Reads.int i t, by simp⟩
  | .str x, _, _, h, _, r => by
    cases h
    obtain ⟨t, rfl⟩ := r
    exact ⟨_, Reads.str x t, by simp⟩
  | .lst ds, _, _, h, hp, r => by
    cases h with
    | lst n hs ha =>
      cases r
      obtain ⟨its, rv, ⟨o, m, ho, hc, _, hd⟩, _⟩ := I.list (SqL.of hs)
      obtain ⟨as, hr, hn⟩ := DnAll.reads hS I ds _ its ha (by unfold D.rp at hp; exact hp) rv
      refine ⟨_, Reads.list ho hc hd hr, ?_⟩
      rw [List.mem_cons]
      exact fun z => z.elim (inv_nosys hS I hs) hn
  | .tup ds, _, _, h, hp, r => by
    cases h with
    | tup n hs ha =>
      cases r
      obtain ⟨its, rv, ⟨o, ho, hc, m, hd⟩, _⟩ := I.tuple (SqT.of hs)
      obtain ⟨as, hr, hn⟩ := DnAll.reads hS I ds _ its ha (by unfold D.rp at hp; exact hp) rv
      exact ⟨_, Reads.tuple ho hc hd hr, hn⟩
  | .dic, _, _, h, hp, r => by
    cases h with
    | dic n hs =>
      cases r
      obtain ⟨_, _, vs, hv, o, es, ep, ho, hx, hd, _, hps, _⟩ := dk_of I.hok hs
      cases hv with
      | cons hkv hn =>
        cases hn
        rename_i qv _
        obtain ⟨qk, qw⟩ := qv
        obtain ⟨e1, t, e2⟩ := hkv
        have e3 := e1.symm
        clear e1
        dsimp only at e3 e2
        subst e3 e2
        generalize hes : es.toList = el at hps
        cases hps with
        | cons hk he hr =>
          cases hr
          rename_i en
          obtain ⟨eh, ek, ev⟩ := en
          cases he
          rcases keyIs_shape (show keyIs (.inr ("a" : Str)) ek = true from hk) with ⟨i, t2, e2, e3⟩ | ⟨x, t2, e2, e3⟩
          · cases e2
          · cases e2
            cases e3
            refine ⟨_, Reads.dict (kvs := [(.str "a", .int 1)]) ho hx.1 hd (by rw [hes]; exact ReadsAll.cons (.str _ _) .nil) (by rw [hes]; exact ReadsAll.cons (.int _ _) .nil), ?_⟩
            simp only [List.append_nil, List.mem_singleton]
            exact inv_nosys hS I hs
  | .poly _, _, _, _, hp, _ => by unfold D.rp at hp; cases hp
  | .val _, _, _, _, hp, _ => by unfold D.rp at hp; cases hp
theorem DnAll.reads (hS : SysIn X.base) (I : Inv X pins σ H s) : ∀ (ds : List D) (vs : List V) (us : List Value), DnAll C O H vs ds → D.rps ds = true → Vals vs us → ∃ as, ReadsAll s.heap us (D.pys ds) as ∧ sysModules ∉ as
  | [], _, _, h, _, r => by
    cases h
    cases r
    exact ⟨_, ReadsAll.nil, by simp⟩
  | d :: ds, _, _, h, hp, r => by
    unfold D.rps at hp
    obtain ⟨p1, p2⟩ := Bool.and_eq_true_iff.mp hp
    cases h with
    | cons h1 h2 =>
      cases r with
      | cons r1 r2 =>
        obtain ⟨as, q1, n1⟩ := Dn.reads hS I d _ _ h1 p1 r1
        obtain ⟨bs, q2, n2⟩ := DnAll.reads hS I ds _ _ h2 p2 r2
        refine ⟨_, ReadsAll.cons q1 q2, ?_⟩
        rw [List.mem_append]
        exact fun z => z.elim n1 n2
end
/-- repr shows it -/
def D.shw (d : D) : Str := d.py.shown
structure D.RpOk (d : D) : Prop where
  rp : d.rp = true
  dp : d.dep ≤ 64
  sz : d.shw.length ≤ sizeLine
theorem call_repr_D (hS : SysIn X.base) (hg : X.A.guards = some []) (hu : X.A.units + 66 < cLine) : CallR X (.builtin "repr") (fun xs H Q => ∃ (C : Addr) (O : Addr → Prop) (v : V) (d : D), xs = [v] ∧ Dn C O H v d ∧ d.RpOk ∧ Q (.str d.shw) H) := by
  intro pins s σ H xs us Q I r h
  obtain ⟨C, O, v, d, rfl, hn, ⟨hr, hd, hz⟩, q⟩ := h
  obtain ⟨u, rfl, rv⟩ := vals1 r
  obtain ⟨as, rd, hm⟩ := Dn.reads hS I d v u hn hr rv
  have hsh := D.rp_show d hr
  have hdp := D.dep_py d
  have hrf : ∀ a, u = .ref a → wpAny (model X.prog X.w) X.A (call (.builtin "repr") [u]) (EP X pins σ Q) X.xe s := fun a e => by
    subst e
    exact repr_of_reads' rd hsh (fun _ => hm) hg (by rw [hdp]; omega) (fun _ _ q => q) (fun h' u tk hk => ⟨.str _, H, I.kept hk, ⟨_, rfl⟩, q⟩) hz
  cases rd' : d.py with
  | none =>
    rw [rd'] at rd
    cases rd
    exact PySem.P.repr_of_none ⟨.str _, H, I.tok _, ⟨_, rfl⟩, by unfold D.shw at q; rw [rd'] at q; exact q⟩
  | bool b =>
    rw [rd'] at rd
    cases rd
    exact PySem.P.repr_of_bool ⟨.str _, H, I.tok _, ⟨_, rfl⟩, by unfold D.shw at q; rw [rd'] at q; exact q⟩
  | int i =>
    rw [rd'] at rd hsh
    cases rd
    exact PySem.P.repr_of_int (by simpa [PyData.showable] using hsh) ⟨.str _, H, I.tok _, ⟨_, rfl⟩, by unfold D.shw at q; rw [rd'] at q; exact q⟩
  | str x =>
    unfold D.shw at hz q
    rw [rd'] at rd hz q
    cases rd
    exact PySem.P.repr_of_str ⟨.str _, H, I.tok _, ⟨_, rfl⟩, q⟩ hz
  | list xs =>
    rw [rd'] at rd
    cases rd
    exact hrf _ rfl
  | tuple xs =>
    rw [rd'] at rd
    cases rd
    exact hrf _ rfl
  | dict xs =>
    rw [rd'] at rd
    cases rd
    exact hrf _ rfl
end
section
variable {C : Addr} {X : Cx} {O : Addr → Prop} {ρ : Env} {I J : Asr} {Φ : D → Prop} {e : Expr} {pos p2 : Pos} {k : Nat} {d : D}
/-- repr(e) -/
theorem ge_reprn (hS : SysIn X.base) (hgd : X.A.guards = some []) (hr : Room k X.A) (hm : X.mg "repr" = none) (ha : GE C X O ρ I e J Φ) (hΦ : ∀ d, Φ d → d.RpOk) (hg : Gl X "repr" := by rfl) (he : starEach [e] X.env = (false, eval e X.env) :: starEach [] X.env := by rfl) (hpl : (backTo pos (starEach [] X.env)).any (·.1) = false := by rfl) :
    GE C X O ρ I (.Call (.Name "repr" p2) [e] [] pos) J (fun z => ∃ d, Φ d ∧ z = .str d.shw) := ge_of (pe_callB (call_repr_D hS hgd (by have := hr.un; omega)) hg hm PyProof.Rows.boot_repr (pa_cons pe_tw pa_nil he) (by decide) (by decide) he hpl) fun σ H Q w dn i k => ha σ H _ w dn i fun v H1 d1 e1 w1 j1 p1 n1 =>
  ⟨C, O, v, d1, rfl, n1, hΦ d1 p1, k _ H1 _ e1 w1 j1 ⟨d1, p1, rfl⟩ (.str _)⟩
theorem ge_repr (hS : SysIn X.base) (hgd : X.A.guards = some []) (hr : Room k X.A) (hm : X.mg "repr" = none) (ha : GE C X O ρ I e J (Is d)) (hd : d.RpOk) (hg : Gl X "repr" := by rfl) (he : starEach [e] X.env = (false, eval e X.env) :: starEach [] X.env := by rfl) (hpl : (backTo pos (starEach [] X.env)).any (·.1) = false := by rfl) :
    GE C X O ρ I (.Call (.Name "repr" p2) [e] [] pos) J (Is (.str d.shw)) := (ge_reprn hS hgd hr hm ha (fun d' e => by cases e; exact hd) hg he hpl).imp fun z h => by
  obtain ⟨d', e, rfl⟩ := h
  cases e
  rfl
end
end TM
/-! ## TmLam -/
set_option Elab.async false
set_option linter.all false
set_option maxRecDepth 100000
set_option maxHeartbeats 4000000
set_option exponentiation.threshold 100000
/-! TmLam: contracts that know the guards; the pen with tables and own lists; lambdas. -/
namespace TM
open PySem L2 PySem.Spec PyProof.Rows
/-! ### contracts that know the guards -/
structure FnOkG (P : Program) (w : World) (K : PySem.W.Frag) (mg : Str → Option Value) (base : Heap) (CX : CXT) (k : Nat) (f : Addr) (fd : FuncData) (ps : List Str) (sp : Sp) : Prop where
  len : ∀ vs H Q E, sp vs H Q E → vs.length = ps.length
  go : ∀ (A : Around) (outer : List PySem.Env) (s : Shared) (H : Hp) (args : Args) (us : List Value) (vs : List V) (Q : VK) (E : XK), Room k A → A.guards = some [] → Env0 P w K mg base A outer s H → BindsTo s fd args (ps.zip us) → Vals vs us → sp vs H Q E →
    codeAny (model P w) A (.call (.ref f) args) (CR CX outer P w H s Q E) s
structure FnG (P : Program) (w : World) (K : PySem.W.Frag) (mg : Str → Option Value) (base : Heap) (CX : CXT) (k : Nat) (x : Str) (sp : Sp) : Prop where
  ex : ∃ (f : Addr) (fd : FuncData) (ps : List Str), FnOkG P w K mg base CX k f fd ps sp ∧ mg x = some (.ref f) ∧ PySem.W.keepIn K (.ref f) = true ∧ Binds K fd ps []
section
variable {P : Program} {w : World} {K : PySem.W.Frag} {mg : Str → Option Value} {base : Heap} {x q : Str} {f : Addr} {fd : FuncData} {N ps : List Str} {k m : Nat} {C : Addr} {st : Stmt} {CX : CXT} {sp : Sp}
theorem ok_guard (F : FnP K x q st f fd) (S : FnScope N ps (defScope st)) (len : ∀ vs H Q E, sp vs H Q E → vs.length = ps.length)
    (hb : ∀ (A : Around) (outer : List PySem.Env) (s : Shared) (H : Hp) (vs : List V) (Q : VK) (E : XK), Room k (A.deeper (envOfC q (defScope st) s.heap.objs.size f fd.code)) → A.guards = some [] → sp vs H Q E →
      ∃ t, PSs (cxOf CX P w K mg base N q (defScope st) f fd.code A outer s H E) (defBody st) t ∧ t { nx := fun _ H' => Q .non H', rt := Q } (L2.start N vs) H) : FnOkG P w K mg base CX (k + 1) f fd ps sp := by
  obtain ⟨oc, od, dV, kV, doc, pm, an, cdv, ct, osl, rfl, lk, hcd, _, _⟩ := F.ex
  exact ⟨len, fun A outer s H args us vs Q E hr hg e0 hbd r hsp => LamX.run_ofS lk hcd S hr e0 hbd r (len _ _ _ _ hsp) fun hr' => hb A outer s H vs Q E hr' hg hsp⟩
end
section
variable {X : Cx} {CX : CXT} {k : Nat} {f : Addr} {fd : FuncData} {ps : List Str} {sp : Sp} {ds : List Value} {dvs : List V} {E : XK} {x : Str} {p pos : Pos} {e : Expr} {es : List Expr} {t : TA}
theorem pe_callG (F : FnOkG X.prog X.w X.K X.mg X.base CX k f fd ps sp) (hr : Room k X.A) (hgd : X.A.guards = some []) (hg : Gl X x) (hm : X.mg x = some (.ref f)) (hk : PySem.W.keepIn X.K (.ref f) = true) (hb : Binds X.K fd ps []) (hx : Passes CX X E)
    (ha : PA X (e :: es) t) (hdb : (x == ("__debug__" : Str)) = false := by decide) (he : starEach (e :: es) X.env = (false, eval e X.env) :: starEach es X.env := by rfl) (hpl : (backTo pos (starEach es X.env)).any (·.1) = false := by rfl) :
    PE X (.Call (.Name x p) (e :: es) [] pos) (tCall sp [] E t) := by
  refine ⟨fun pins s σ H Q Iv hh => ?_⟩
  refine wpAny_Call_Name_kw (ld_glob Iv hg hm ?_ hdb)
  refine PySem.W.callWith_K (h₀ := X.base) Iv.ok.mod.kin hk (thn (ha.run pos pins s σ H _ Iv hh) fun us s1 ⟨vs, H1, Iw, rv, hq⟩ => ⟨Iw.kIn, ?_⟩) he hpl
  replace hq : sp (vs ++ []) H1 Q E := hq
  rw [List.append_nil] at hq
  have lenU : (us ++ ([] : List Value)).length = ps.length := by
    rw [List.append_nil, ← rv.length]
    exact F.len _ _ _ _ hq
  have bnd := hb s1 us Iw.kIn lenU
  rw [List.append_nil] at bnd
  refine wpAny_call (codeAny_mono (F.go X.A X.stack s1 H1 ⟨us, []⟩ us vs Q E hr hgd Iw.env0 bnd rv hq) fun r s' res => ?_)
  cases r with
  | error er => exact hx pins σ H1 s1 er s' Iw res
  | ok fl =>
    cases fl with
    | ret u => exact Iw.after res
    | next => exact False.elim res
    | brk => exact False.elim res
    | cont => exact False.elim res
end
/-! ### the pen, tables of code objects, own lists -/
abbrev Tb : Type := List (Addr × Str)
theorem sm_of {O : Addr → Prop} {H H' : Hp} {p : Addr} (e : Ext O H H') (kp : ∀ a o, O a → a ≠ p → H a = some o → H' a = some o) : ∀ b o, b ≠ p → H b = some o → H' b = some o := fun b o hb h => by
  by_cases hO : O b
  · exact kp b o hO hb h
  · exact e b o hO h
def penQ (C : Addr) (O : Addr → Prop) (H0 : Hp) (p : Addr) (N : Nat) (T : Tb) (qs : Ql) : Asr where
  P H := penAt (owO O qs) H p N ∧ LamX.Tabs T H ∧ (∀ x ∈ qs, ∃ xs, H x.1 = some (.lst xs) ∧ DnAll C (owO O qs) H xs x.2) ∧ ∀ a o, O a → a ≠ p → a ∉ T.map (·.1) → H0 a = some o → H a = some o
  st e h := ⟨let ⟨s, a, b, c, d⟩ := h.1; ⟨s, a, b, e _ _ c, e _ _ d⟩, h.2.1.ext e, fun x hx => let ⟨xs, a, b⟩ := h.2.2.1 x hx; ⟨xs, e _ _ a, b.ext (Ext.of e)⟩, fun a o h1 h2 h3 h4 => e _ _ (h.2.2.2 a o h1 h2 h3 h4)⟩
section
variable {C : Addr} {X : Cx} {O : Addr → Prop} {ρ : Env} {H0 B H : Hp} {σ : L2.St} {p : Addr} {N M : Nat} {T : Tb} {qs : Ql} {te : TE} {ta : TA} {tt : TT} {Φ : D → Prop} {Ψ : List D → Prop} {Ξ : Bool → Prop}
theorem penQ_mono (h : N ≤ M) (i : (penQ C O H0 p N T qs).P H) : (penQ C O H0 p M T qs).P H := by
  obtain ⟨⟨s, a, b⟩, c⟩ := i
  exact ⟨⟨s, a.mono h, b⟩, c⟩
/-- what a drawing leaves -/
theorem penQ_step {H' : Hp} (i : (penQ C O H0 p N T qs).P H) (e : Ext (owO O qs) H H') (g : (penG (owO O qs) H p M).P H') : (penQ C O H0 p M T qs).P H' := by
  obtain ⟨⟨s, s1, s0, s2, s3⟩, tb, own, fr⟩ := i
  have sm := sm_of e (penG_kp g)
  have ne : ∀ {b : Addr} {o : HO}, H b = some o → o ≠ .dK (penK s) → b ≠ p := fun {b o} h1 h2 z => by
    rw [z, s2] at h1
    exact h2 (Option.some.inj h1).symm
  refine ⟨penG_at g, fun t ht => ?_, fun x hx => ?_, fun a o h1 h2 h3 h4 => sm a o h2 (fr a o h1 h2 h3 h4)⟩
  · obtain ⟨ps, h1, h2, h3⟩ := tb t ht
    refine ⟨ps, sm _ _ (ne h1 (by intro z; cases z)) h1, h2, fun pos cv hc => ?_⟩
    obtain ⟨c, e1, e2⟩ := h3 pos cv hc
    exact ⟨c, e1, sm _ _ (ne e2 (by unfold LamX.CodeO; intro z; cases z)) e2⟩
  · obtain ⟨xs, h1, h2⟩ := own x hx
    exact ⟨xs, sm _ _ (ne h1 (by intro z; cases z)) h1, h2.ext e⟩
theorem penQ_g (i : (penQ C O H0 p N T qs).P H) : (penG (owO O qs) H p N).P H := penAt_g i.1
theorem Ev.liftQ (h : ∀ H1, Ev C (owO O qs) ρ (penG (owO O qs) H1 p N) te (penG (owO O qs) H1 p M) Φ) : Ev C (owO O qs) ρ (penQ C O H0 p N T qs) te (penQ C O H0 p M T qs) Φ :=
  fun σ H Q w dn i k => h H σ H Q w dn (penQ_g i) fun v H' d e w' j ph n => k v H' d e w' (penQ_step i e j) ph n
theorem EvA.liftQ (h : ∀ H1, EvA C (owO O qs) ρ (penG (owO O qs) H1 p N) ta (penG (owO O qs) H1 p M) Ψ) : EvA C (owO O qs) ρ (penQ C O H0 p N T qs) ta (penQ C O H0 p M T qs) Ψ :=
  fun σ H Q w dn i k => h H σ H Q w dn (penQ_g i) fun v H' d e w' j ph n => k v H' d e w' (penQ_step i e j) ph n
theorem EvT.liftQ (h : ∀ H1, EvT C (owO O qs) ρ (penG (owO O qs) H1 p N) tt (penG (owO O qs) H1 p M) Ξ) : EvT C (owO O qs) ρ (penQ C O H0 p N T qs) tt (penQ C O H0 p M T qs) Ξ :=
  fun σ H Q w dn i k => h H σ H Q w dn (penQ_g i) fun v H' e w' j ph => k v H' e w' (penQ_step i e j) ph
theorem penQ_owA (i : (penQ C O H0 p N T qs).P H) : (owA C O H qs).P H := ⟨fun a o _ h => h, i.2.2.1⟩
/-- an own list is read as a plain one; what is read changes nothing -/
theorem Ev.lendQ {q : Addr} {ds : List D} (i : Nat) (hq : (q, ds) ∈ qs) (no : ∀ x ∈ qs, ¬ O x.1) (hi : ρ[i]? = some (some (.val (.ref q)))) (h : ∀ H1, Ev C O (ρ.set i (some (.lst ds))) (ownA (owO O qs) H1) te (ownA (owO O qs) H1) Φ) (hl : ∀ d, Φ d → lfree d = true) :
    Ev C (owO O qs) ρ (penQ C O H0 p N T qs) te (penQ C O H0 p N T qs) Φ := fun σ H Q w dn ip k => by
  have ih : (owA C O H qs).P H := penQ_owA ip
  refine h H σ H Q (wf_less w) (den_lend i hq no dn ih hi) ownA_refl fun v H' d e w' j ph n => ?_
  have sm : Same H H' := same_of (e := fun b o nb hb => by
    exact e b o (fun z => nb (.inl z)) hb) j
  have ip' := (penQ C O H0 p N T qs).st sm ip
  exact k v H' d (Ext.of sm) (w.same sm) ip' ph (n.lf (owO_lst (penQ_owA ip')) (hl d ph))
end
end TM
/-! ## TmLam2 -/
set_option Elab.async false
set_option linter.all false
set_option maxRecDepth 100000
set_option maxHeartbeats 4000000
set_option exponentiation.threshold 100000
/-! TmLam2: a lambda handed to a def: only its table changes. -/
namespace TM
open PySem L2 PySem.Spec PyProof.Rows
/-- all but what stands at P stays -/
def ExtP (P : Addr) (H H' : Hp) : Prop := ∀ b o, b ≠ P → H b = some o → H' b = some o
section
variable {X : Cx} {pins : List (Addr × Obj)} {σ : L2.St} {H : Hp} {s : Shared}
theorem lam_mk {T : Tb} {c P : Addr} {params : Arguments} {body : Expr} {scope : Scope} {pos : Pos} {E Q : Value → Shared → Prop} (Iv : Inv X pins σ H s) (TB : LamX.TabB X.base X.mg c P) (hcode : X.env.code = .ref c)
    (hmem : (P, X.env.qual ++ "<lambda>") ∈ T) (huniq : ∀ p ∈ T, p.1 = P → p.2 = X.env.qual ++ "<lambda>") (tabs : LamX.Tabs T H) (hdef : defaultsOf params X.env = ([], [])) (free : ∀ y ∈ scope.names, y.2 = .free → ∃ c, X.env.cells.lookup y.1 = some c)
    (goal : ∀ (f c' : Addr) (pm ctv : Value) (H1 : Hp) (s' : Shared), Inv X pins σ H1 s' → ExtP P H H1 → LamX.Tabs T H1 → s'.heap.get? f = some (PySem.W.kla_obj "<lambda>" (X.env.qual ++ "<lambda>") params body scope (cloFrom X.env.cells scope.names []) pm c' ctv) →
      H1 f = none → f ∉ frs X.stack → H1 c' = some (LamX.CodeO c' (X.env.qual ++ "<lambda>")) → Q (.ref f) s') :
    wpAny (model X.prog X.w) X.A (eval (.Lambda params body scope pos) X.env) Q E s := by
  obtain ⟨tps, tAt, tOk, tAll⟩ := tabs _ hmem
  refine PySem.W.kla_eval hdef ?_
  have blt : s.heap.BuiltinsAt X.mg P := TB.bm.keeps Iv.bk
  have tObj : s.heap.get? P = some { cls := .none, data := .fields tps } := Iv.hok P _ tAt
  have offFrames : ∀ f, s.heap.objs.size ≤ f → f ∉ frs X.stack := fun f hf z => by
    cases List.mem_cons.mp (Iv.stkSub _ z) with
    | inl e =>
      have hlt := Iv.lt
      rw [← e] at hlt
      exact absurd (Nat.lt_of_lt_of_le hlt hf) (Nat.lt_irrefl _)
    | inr e => exact Iv.nofs hf e
  cases found : codeAmong pos tps.toList with
  | none =>
    refine PySem.W.kla_makeFunction (mg := X.mg) (c := c) (P := P) (ps := tps) (closure_ok free) Iv.ok.glob (Iv.mod.glob.keeps Iv.bk) hcode (TB.code.keeps Iv.bk) tObj tOk found TB.gP blt fun c1 ctv hp tk stay big small isCode atP => ?_
    obtain ⟨c2, ocd, fvs, tok, ec, oAt, oDat, oName⟩ := isCode
    cases ec
    have grow : s.heap.objs.size ≤ hp.objs.size := Nat.le_trans big (Nat.le_of_lt small)
    have freeC : H c1 = none := Iv.hok.fresh big
    have Iw := LamX.inv_table (t' := tk) (more := #[rawInt pos.line, rawInt pos.col, .ref c1]) (h' := hp.push (PySem.W.kla_obj "<lambda>" (X.env.qual ++ "<lambda>") params body scope (cloFrom X.env.cells scope.names []) ((X.mg "__name__").getD .none) c1 ctv)) Iv tAt
      (fun b o hb e => Heap.get?_push_of_some _ (stay b o hb e)) (Heap.get?_push_of_some _ atP) big ⟨ocd, fvs, tok, Heap.get?_push_of_some _ oAt, oDat, oName⟩
    have keepAll : ExtP P H (upd (upd H P (.tbl (tps ++ #[rawInt pos.line, rawInt pos.col, .ref c1]))) c1 (LamX.CodeO c1 (X.env.qual ++ "<lambda>"))) := fun b o hb e => by
      rw [upd_ne (ne_of_none e freeC), upd_ne hb]
      exact e
    have asList : (tps ++ #[rawInt pos.line, rawInt pos.col, .ref c1]).toList = tps.toList ++ [rawInt pos.line, rawInt pos.col, .ref c1] := by simp
    have codeKept : ∀ c0 q0, H c0 = some (LamX.CodeO c0 q0) → upd (upd H P (.tbl (tps ++ #[rawInt pos.line, rawInt pos.col, .ref c1]))) c1 (LamX.CodeO c1 (X.env.qual ++ "<lambda>")) c0 = some (LamX.CodeO c0 q0) := fun c0 q0 e => keepAll _ _ (fun z => by
      rw [z, tAt] at e
      exact LamX.codeO_ne tps (Option.some.inj e).symm) e
    refine goal hp.objs.size c1 ((X.mg "__name__").getD .none) ctv _ _ Iw keepAll (fun p hpT => ?_) (Heap.get?_push_size _ rfl) ?_ (offFrames _ grow) upd_same
    · by_cases hb : p.1 = P
      · rw [huniq p hpT hb, hb]
        refine ⟨_, by rw [upd_ne (ne_of_none tAt freeC), upd_same], by rw [asList]; exact PySem.TriplesOk_snoc _ _ _ _ tOk, fun p' cv' hcv => ?_⟩
        rw [asList] at hcv
        cases LamX.among_app _ tOk hcv with
        | inl z =>
          obtain ⟨c0, e1, e2⟩ := tAll p' cv' z
          exact ⟨c0, e1, codeKept _ _ e2⟩
        | inr z => exact ⟨c1, z, upd_same⟩
      · obtain ⟨tps', b1, b2, b3⟩ := tabs p hpT
        refine ⟨tps', keepAll _ _ hb b1, b2, fun p' cv' hcv => ?_⟩
        obtain ⟨c0, e1, e2⟩ := b3 p' cv' hcv
        exact ⟨c0, e1, codeKept _ _ e2⟩
    · have d1 : hp.objs.size ≠ c1 := Nat.ne_of_gt small
      have d2 : hp.objs.size ≠ P := Nat.ne_of_gt (Nat.lt_of_lt_of_le (Heap.lt_size tObj) grow)
      rw [upd_ne d1, upd_ne d2]
      exact Iv.hok.fresh grow
  | some cv =>
    obtain ⟨c1, rfl, isCode⟩ := tAll pos cv found
    refine PySem.W.kla_makeFunctionHit (mg := X.mg) (c := c) (P := P) (ps := tps) (closure_ok free) Iv.ok.glob (Iv.mod.glob.keeps Iv.bk) hcode (TB.code.keeps Iv.bk) tObj tOk found blt fun ctv hp tk stay big => ?_
    have Iw : Inv X pins σ H { s with heap := hp.push (PySem.W.kla_obj "<lambda>" (X.env.qual ++ "<lambda>") params body scope (cloFrom X.env.cells scope.names []) ((X.mg "__name__").getD .none) c1 ctv), toks := tk } := Iv.kept fun b o e => Heap.get?_push_of_some _ (stay b o e)
    exact goal hp.objs.size c1 ((X.mg "__name__").getD .none) ctv H _ Iw (fun b o _ e => e) tabs (Heap.get?_push_size _ rfl) (Iv.hok.fresh big) (offFrames _ big) isCode
end
/-- the reading of such a call -/
def tLamP (P : Addr) (T : Tb) (W : (XK → Hp → VK → Prop) → Hp → VK → Prop) (t : XK → TE) : TE := fun σ H Q => LamX.Tabs T H ∧ ∀ H1, ExtP P H H1 → LamX.Tabs T H1 → W (fun E H' Q' => t E σ H' Q') H1 Q
section
variable {X : Cx}
/-- x(lambda: body) -/
theorem pe_lamP {T : Tb} {W : (XK → Hp → VK → Prop) → Hp → VK → Prop} {x a : Str} {g c P : Addr} {k : Nat} {st : Stmt} {fd : FuncData} {Ng : List Str} {params : Arguments} {body : Expr} {scope : Scope} {t : XK → TE} {p lpos pos : Pos}
    (hg : Gl X x) (hm : X.mg x = some (.ref g)) (F : FnP X.K x x st g fd) (hb : L2.Binds X.K fd [a] []) (Sg : FnScope Ng [a] (defScope st)) (hNg : Ng[0]? = some a) (hva : Vis (defScope st) a)
    (hG : LamX.GivesTo X Ng x (defScope st) g fd.code (defBody st) a (X.env.qual ++ "<lambda>") W)
    (TB : LamX.TabB X.base X.mg c P) (hcode : X.env.code = .ref c) (hmT : (P, X.env.qual ++ "<lambda>") ∈ T) (hu : ∀ p ∈ T, p.1 = P → p.2 = X.env.qual ++ "<lambda>") (hr : Room (k + 2) X.A) (L : LamX.LamS X.env.scope scope) (hdef : defaultsOf params X.env = ([], []))
    (hbind : ∀ (q : Str) (cl : List (Str × Addr)) (pm cv ctv : Value), bindArgs (PySem.W.kla_fn "<lambda>" q params body scope cl pm cv ctv) ⟨[], []⟩ = pure [])
    (hbody : ∀ (A : Around) (outer : List PySem.Env) (s : Shared) (H : Hp) (E : XK) (f c' : Addr), Room k (A.deeper (LamX.lamEnv X scope s.heap.objs.size f c')) → PE (LamX.lamCx X A outer s H E scope f c') body (t E))
    (hdb : (x == ("__debug__" : Str)) = false := by decide) (hd : (a == ("__debug__" : Str)) = false := by decide) (hcd : (a == ("__classdict__" : Str)) = false := by decide) :
    PE X (.Call (.Name x p) [.Lambda params body scope lpos] [] pos) (tLamP P T W t) := by
  refine ⟨fun pins s σ H Q Iv hh => ?_⟩
  obtain ⟨tabs, hh⟩ := hh
  obtain ⟨oc, od, dV, kV, doc, pm0, an, cdv, ct, osl, rfl, lk, hcg, _, _⟩ := F.ex
  refine wpAny_Call_Name_kw (ld_glob Iv hg hm ?_ hdb)
  refine PySem.W.callWith_K (h₀ := X.base) Iv.ok.mod.kin F.kp ?_ (by rfl) (by rfl)
  show wpAny _ _ (spliced ((false, eval (.Lambda params body scope lpos) X.env) :: backTo pos (starEach [] X.env))) _ _ s
  refine Calls.spliced_cons (lam_mk Iv TB hcode hmT hu tabs hdef (L.has Iv.ok) fun f c1 pm1 ctv H1 s1 Iw kept tabs1 atF noF offF isCode => ?_)
  refine Calls.spliced_nil ⟨Iw.kIn, ?_⟩
  have runs : codeAny (model X.prog X.w) X.A (.call (.ref g) ⟨[.ref f], []⟩) (CR C8.CX0 X.stack X.prog X.w H1 s1 Q C8.E0) s1 := by
    refine LamX.run_ofS (N := Ng) (ps := [a]) (us := [.ref f]) (vs := [.ref f]) lk hcg Sg hr Iw.env0 (hb s1 [.ref f] Iw.kIn rfl) (.cons rfl .nil) rfl fun hr1 => ?_
    obtain ⟨t1, ht1, hq1⟩ := hG f c1 s1 H1 Q (fun E H' Q' => t E σ H' Q') (fun W pn xe E p1 p2 tk hW => LamX.pe_act (i := 0) Iw L atF noF offF (hbind _ _ _ _ _) tk hW hr1 (fun A outer s H hr2 => hbody A outer s H E f c1 hr2) hNg hva hd hcd) isCode (hh H1 kept tabs1)
    exact ⟨t1, ht1.nox, hq1⟩
  refine wpAny_call (codeAny_mono runs fun r s2 res => ?_)
  cases r with
  | error e => exact (show False from res).elim
  | ok fl =>
    cases fl with
    | ret u => exact Iw.after res
    | next => exact False.elim res
    | brk => exact False.elim res
    | cont => exact False.elim res
end
end TM
/-! ## TmWhy -/
set_option Elab.async false
set_option linter.all false
set_option maxRecDepth 100000
set_option maxHeartbeats 4000000
set_option exponentiation.threshold 100000
/-! TmWhy: _law_why of a lambda. -/
namespace TM
open PySem L2 PySem.Spec PyProof.Rows
/-- what the written part says of the classes that _law_why names -/
structure WhyG (K : PySem.W.Frag) (mg : Str → Option Value) (cb cr ci cu : Addr) : Prop where
  nb : mg "BadNumber" = some (.ref cb)
  nr : mg "BadRow" = some (.ref cr)
  ni : mg "BadInterval" = some (.ref ci)
  nu : mg "Unlike" = some (.ref cu)
  xb : XfC K cb
  xr : XfC K cr
  bw : PySem.W.findIn K (.ref cb) "what" = some none
  bn : PySem.W.findIn K (.ref cb) "number" = some none
  ro : PySem.W.findIn K (.ref cr) "row" = some none
  bb : PySem.W.exmOne K (.ref cb) (.ref cb) = some true
  rb : PySem.W.exmOne K (.ref cr) (.ref cb) = some false
  rr : PySem.W.exmOne K (.ref cr) (.ref cr) = some true
/-- what is told of an exception -/
inductive WhyOf (cb cr : Addr) : Addr → List (Str × D) → D → Prop
  | num {wd : Str} {d : D} : d.RpOk → WhyOf cb cr cb (numX wd d) (.tup [.str "number", .str wd, .str d.shw])
  | row {d : D} : d.RpOk → WhyOf cb cr cr [("row", d)] (.tup [.str "row", .str d.shw])
def whyE (C cb cr : Addr) (Q : VK) : XK := fun cls d H' => ∃ (O : Addr → Prop) (c : Addr) (fs : List (Str × D)) (r : D), WhyOf cb cr c fs r ∧ XDn C O c fs cls d H' ∧ Wf O H' ∧ ∀ v H2, Same H' H2 → Dn C O H2 v r → Q v H2
def TTwhy (C cb cr : Addr) : (XK → Hp → VK → Prop) → Hp → VK → Prop := fun tl H Q => tl (whyE C cb cr Q) H fun _ H' => Q .non H'
/-- the reading of a suite, where the slots are told to be n -/
def sutS (X : Cx) (sts : List Stmt) (n : Nat) : Addr → Value → Option Addr → TS := fun ad cls d De σ H => σ.length = n → ∀ (ob : Obj) (pn : List (Addr × Obj)), Zc cls d ob → (∃ vs, ob.data = .fields vs) → ssw (X.suite ad ((ad, ob) :: pn)) sts De σ H
theorem sut_ps {X : Cx} {sts : List Stmt} {n : Nat} (hn : X.N.length = n) {ad : Addr} {ob : Obj} {cls : Value} {d : Option Addr} {pn : List (Addr × Obj)} (hz : Zc cls d ob) (hf : ∃ vs, ob.data = .fields vs) : PSs (X.suite ad ((ad, ob) :: pn)) sts (sutS X sts n ad cls d) :=
  ⟨fun pins s σ H De I h => h (I.len.trans hn) ob pn hz hf pins s I⟩
def noTS : Addr → Value → Option Addr → TS := fun _ _ _ _ _ _ => False
theorem no_ps {X : Cx} {sts : List Stmt} {ad : Addr} {cls : Value} {d : Option Addr} : PSs X sts (noTS ad cls d) := ⟨fun _ _ _ _ _ _ h => h.elim⟩
section
variable {C : Addr} {X : Cx} {O : Addr → Prop} {ρ : Env} {I J : Asr} {e : Expr} {c ad : Addr} {ob : Obj} {cls : Value} {dx : Option Addr} {pn : List (Addr × Obj)} {fs : List (Str × D)} {n : Str} {d : D} {pos p2 : Pos}
/-- err.f in a suite -/
theorem ge_xf (Tx : XfC X.K c) (hno : PySem.W.findIn X.K (.ref c) n = some none) (hz : Zc cls dx ob) (hf : ∃ vs, ob.data = .fields vs) (hI : ∀ H, I.P H → XDn C O c fs cls dx H) (hp : (n, d) ∈ fs) (he : GE C (X.suite ad ((ad, ob) :: pn)) O ρ I e I (Is (.val (.ref ad))))
    (hb : attributeBase e n X.env (eval e X.env) = eval e X.env := by rfl) : GE C (X.suite ad ((ad, ob) :: pn)) O ρ I (.Attribute e n pos) I (Is d) :=
  ge_of (pe_xf Tx hno hz hf pe_tw hb) fun σ H Q w dn i k => he σ H _ w dn i fun v H1 z e1 w1 j1 p1 n1 => by
    cases p1
    cases n1
    obtain ⟨h1, dd, vs, h2, h3, h4⟩ := hI H1 j1
    obtain ⟨v, h5, h6⟩ := h4 _ hp
    exact ⟨rfl, h1, dd, vs, v, h2, h3, h5, k v H1 d e1 w1 j1 rfl h6⟩
/-- repr(e), wherever it stands -/
theorem ge_reprU (hS : SysIn X.base) (hgd : X.A.guards = some []) (hu : X.A.units + 66 < cLine) (hm : X.mg "repr" = none) (ha : GE C X O ρ I e J (Is d)) (hd : d.RpOk) (hg : Gl X "repr" := by rfl) (he : starEach [e] X.env = (false, eval e X.env) :: starEach [] X.env := by rfl) (hpl : (backTo pos (starEach [] X.env)).any (·.1) = false := by rfl) :
    GE C X O ρ I (.Call (.Name "repr" p2) [e] [] pos) J (Is (.str d.shw)) := ge_of (pe_callB (call_repr_D hS hgd hu) hg hm PyProof.Rows.boot_repr (pa_cons pe_tw pa_nil he) (by decide) (by decide) he hpl) fun σ H Q w dn i k => ha σ H _ w dn i fun v H1 d1 e1 w1 j1 p1 n1 => by
  cases p1
  exact ⟨C, O, v, d, rfl, n1, hd, k _ H1 _ e1 w1 j1 rfl (.str _)⟩
end
/-- the exception's fields, and what O owns is as it was -/
def xdA (C : Addr) (O : Addr → Prop) (H0 : Hp) (c : Addr) (fs : List (Str × D)) (cls : Value) (d : Option Addr) : Asr := ⟨fun H => (ownA O H0).P H ∧ XDn C O c fs cls d H, fun e h => ⟨(ownA O H0).st e h.1, h.2.1, let ⟨dd, vs, a, b, c⟩ := h.2.2; ⟨dd, vs, a, e _ _ b, fun p hp => let ⟨v, q, n⟩ := c p hp; ⟨v, q, n.ext (Ext.of e)⟩⟩⟩⟩
theorem sc_why : FnScope ["_law_call", "e"] ["_law_call"] (defScope (top 61)) := ⟨rfl, rfl, rfl, by decide +kernel, rfl, by decide +kernel, by decide +kernel⟩
theorem set_den {C : Addr} {O : Addr → Prop} {H : Hp} {σ : L2.St} {ad : Addr} (hl : (σ.set 1 (some (.ref ad))).length = 2) : Den C O H (σ.set 1 (some (.ref ad))) [none, some (.val (.ref ad))] := by
  have hl2 : σ.length = 2 := by rw [List.length_set] at hl; exact hl
  refine ⟨hl, fun i d hi => ?_⟩
  match i, hi with
  | 0, hi => simp at hi
  | 1, hi =>
    have : d = .val (.ref ad) := by simpa using hi.symm
    subst this
    exact ⟨.ref ad, List.getElem?_set_self (by omega), .val _⟩
  | i + 2, hi => simp at hi
section
variable {X : Cx} {C cb cr ci cu g : Addr} {cdg : Value} {q : Str}
theorem why_gives (G : WhyG X.K X.mg cb cr ci cu) (hS : SysIn X.base) (hgd : X.A.guards = some []) (hu : X.A.units + 100 < cLine) (hrp : X.mg "repr" = none) :
    LamX.GivesTo X ["_law_call", "e"] "_law_why" (defScope (top 61)) g cdg (defBody (top 61)) "_law_call" q (TTwhy C cb cr) := by
  intro f c' s H Q tl act hc h
  generalize hX' : (cxOf C8.CX0 X.prog X.w X.K X.mg X.base ["_law_call", "e"] "_law_why" (defScope (top 61)) g cdg X.A X.stack s H C8.E0) = X0 at act ⊢
  have eS : SysIn X0.nox.base := by subst hX'; exact hS
  have eG : X0.nox.A.guards = some [] := by subst hX'; exact hgd
  have eU : X0.nox.A.units + 66 < cLine := by
    subst hX'
    show X.A.units + 3 + 66 < cLine
    omega
  have eR : X0.nox.mg "repr" = none := by subst hX'; exact hrp
  have eK : X0.nox.K = X.K := by subst hX'; rfl
  have eM : X0.nox.mg = X.mg := by subst hX'; rfl
  have eSc : X0.nox.env.scope = defScope (top 61) := by subst hX'; rfl
  have eN : X0.nox.N = (["_law_call", "e"] : List Str) := by subst hX'; rfl
  refine ⟨_, pss_cons (ps_try_all (X := X0.nox) (nn := "e") (ix := 1) (Wo := fun _ _ _ _ => False)
      (tb := fun W De σ H => ∃ Ech : XK, (∀ cls d σ' H', Ech cls d H' → W cls d σ' H') ∧ σ[0]? = some (some (.ref f)) ∧ H c' = some (LamX.CodeO c' q) ∧ tl Ech H fun _ H' => De.nx σ H')
      (by subst hX'; rfl) (by subst hX'; rfl) (by rw [eN]; decide) (by rw [eN]; rfl) (by subst hX'; rfl) LamX.takes0 (fun W pn xe tk _ => ?_)
      (.cons (ts := sutS X0.nox _ 2) ⟨by subst hX'; rfl, by decide, .inl (by rw [eM]; exact G.nb)⟩ (fun ad ob cls d pn hz hf => sut_ps (by rw [eN]; rfl) hz hf)
        (.cons (ts := sutS X0.nox _ 2) ⟨by subst hX'; rfl, by decide, .inl (by rw [eM]; exact G.nr)⟩ (fun ad ob cls d pn hz hf => sut_ps (by rw [eN]; rfl) hz hf)
          (.cons (ts := noTS) ⟨by subst hX'; rfl, by decide, .inl (by rw [eM]; exact G.ni)⟩ (fun _ _ _ _ _ _ _ => no_ps)
            (.cons (ts := noTS) ⟨by subst hX'; rfl, by decide, .inl (by rw [eM]; exact G.nu)⟩ (fun _ _ _ _ _ _ _ => no_ps) .nil))))) (pss_one (ps_ret pe_non)), ?_⟩
  · refine ⟨fun pins s' σ H' De I h' => ?_⟩
    obtain ⟨Ech, hW, h1, h2, h3⟩ := h'
    exact (pss_one (ps_expr (act W pn xe Ech _ _ tk hW) (by subst hX'; rfl))).run pins s' σ H' De I ⟨h1, h2, h3⟩
  · refine ⟨whyE C cb cr Q, ?_, rfl, hc, h⟩
    intro cls d σ' H' hx
    obtain ⟨O, cx, fs, r, hw, xd, wf, kq⟩ := hx
    have xd' := xd
    obtain ⟨rfl, xd2⟩ := xd
    cases hw with
    | @num wd dv hrp2 =>
      refine ⟨true, by rw [eK]; exact G.bb, fun _ ad had => ?_, fun z => by cases z⟩
      intro hl ob pn hz hf
      have S : Stt C O H' H' (σ'.set 1 (some (.ref ad))) [none, some (.val (.ref ad))] (xdA C O H' cb (numX wd dv) (.ref cb) d) := ⟨wf, set_den hl, ⟨ownA_refl, xd'⟩, Ext.refl⟩
      refine gq_ret (Φ := Is (.tup [.str "number", .str wd, .str dv.shw])) S (ge_tup (ga_cons ge_str (ga_two (ge_xf (by rw [eK]; exact G.xb) (by rw [eK]; exact G.bw) hz hf (fun H h => h.2) (.head _) ?_ (by subst hX'; rfl)) (ge_reprU eS eG eU eR (ge_xf (by rw [eK]; exact G.xb) (by rw [eK]; exact G.bn) hz hf (fun H h => h.2) (.tail _ (.head _)) ?_ (by subst hX'; rfl)) hrp2 (by subst hX'; rfl) (by subst hX'; rfl) (by subst hX'; rfl)) (by subst hX'; rfl) (by subst hX'; rfl)) (by subst hX'; rfl)))
        (fun v H2 d2 e2 n2 ex j _ => ?_)
      · subst hX'
        exact ge_var 1
      · subst hX'
        exact ge_var 1
      · cases e2
        exact kq v H2 (same_of ex j.1) n2
    | @row dv hrp2 =>
      refine ⟨false, by rw [eK]; exact G.rb, fun z => (by cases z), fun _ => ⟨true, by rw [eK]; exact G.rr, fun _ ad had => ?_, fun z => by cases z⟩⟩
      intro hl ob pn hz hf
      have S : Stt C O H' H' (σ'.set 1 (some (.ref ad))) [none, some (.val (.ref ad))] (xdA C O H' cr [("row", dv)] (.ref cr) d) := ⟨wf, set_den hl, ⟨ownA_refl, xd'⟩, Ext.refl⟩
      refine gq_ret (Φ := Is (.tup [.str "row", .str dv.shw])) S (ge_tup (ga_two ge_str (ge_reprU eS eG eU eR (ge_xf (by rw [eK]; exact G.xr) (by rw [eK]; exact G.ro) hz hf (fun H h => h.2) (.head _) ?_ (by subst hX'; rfl)) hrp2 (by subst hX'; rfl) (by subst hX'; rfl) (by subst hX'; rfl)) (by subst hX'; rfl) (by subst hX'; rfl)))
        (fun v H2 d2 e2 n2 ex j _ => ?_)
      · subst hX'
        exact ge_var 1
      · cases e2
        exact kq v H2 (same_of ex j.1) n2
end
/-- what a def that makes lambdas has: its code object, the table of that -/
structure LamG (base : Heap) (mg : Str → Option Value) (T : Tb) (code : Value) (q : Str) (P : Addr) : Prop where
  ex : ∃ c, code = .ref c ∧ LamX.TabB base mg c P
  mem : (P, q) ∈ T
  uni : ∀ p ∈ T, p.1 = P → p.2 = q
section
variable {C : Addr} {X : Cx} {O : Addr → Prop} {ρ : Env} {I : Asr} {cb cr ci cu g P cx : Addr} {T : Tb} {fd : FuncData} {k : Nat} {fs : List (Str × D)} {r : D} {params : Arguments} {body : Expr} {scope : Scope} {p lpos pos : Pos}
theorem ge_why (G : WhyG X.K X.mg cb cr ci cu) (hS : SysIn X.base) (hgd : X.A.guards = some []) (hr : Room (k + 2) X.A) (hrp : X.mg "repr" = none) (F : FnP X.K "_law_why" "_law_why" (top 61) g fd) (hm : X.mg "_law_why" = some (.ref g))
    (LG : LamG X.base X.mg T X.env.code (X.env.qual ++ "<lambda>") P) (hO : O P) (hI1 : ∀ H, I.P H → LamX.Tabs T H) (hI2 : ∀ H H1, Wf O H → I.P H → ExtP P H H1 → LamX.Tabs T H1 → I.P H1) (hw : WhyOf cb cr cx fs r)
    (hx : ∀ (A : Around) (outer : List PySem.Env) (s : Shared) (H : Hp) (E : XK) (f c' : Addr), Room k (A.deeper (LamX.lamEnv X scope s.heap.objs.size f c')) → GX C (LamX.lamCx X A outer s H E scope f c') O ρ I body cx fs)
    (L : LamX.LamS X.env.scope scope := by exact LamX.lamS_by (by rfl)) (hg : Gl X "_law_why" := by rfl) (hdef : defaultsOf params X.env = ([], []) := by rfl)
    (hbind : ∀ (q : Str) (cl : List (Str × Addr)) (pm cv ctv : Value), bindArgs (PySem.W.kla_fn "<lambda>" q params body scope cl pm cv ctv) ⟨[], []⟩ = pure [] := by intros; rfl) :
    GE C X O ρ I (.Call (.Name "_law_why" p) [.Lambda params body scope lpos] [] pos) I (Is r) := by
  obtain ⟨c, hc, TB⟩ := LG.ex
  refine ge_of (pe_lamP (k := k) (Ng := ["_law_call", "e"]) (t := fun E σ H Q => ∀ (A : Around) (outer : List PySem.Env) (s : Shared) (H0 : Hp) (f c' : Addr), Room k (A.deeper (LamX.lamEnv X scope s.heap.objs.size f c')) → tw (LamX.lamCx X A outer s H0 E scope f c') body σ H Q) hg hm F
    (F.bindsN fun _ _ _ _ _ _ us hl => match us, hl with | [_], _ => rfl) sc_why rfl (.inl rfl) (why_gives (C := C) G hS hgd (by have := hr.un; omega) hrp) TB hc LG.mem LG.uni hr L hdef hbind fun A outer s H E f c' hr' => ⟨fun pins s' σ H' Q Iv h => h A outer s H f c' hr' pins s' Iv⟩) fun σ H Q w dn i kk => ⟨hI1 H i, fun H1 ep tb => ?_⟩
  intro A outer s H0 f c' hr'
  have ex : Ext O H H1 := fun b o nb hb => ep b o (fun z => nb (by rw [z]; exact hO)) hb
  have w1 : Wf O H1 := fun a oa => by
    by_cases ha : a = P
    · obtain ⟨ps, h1, _⟩ := tb _ LG.mem
      rw [ha, h1]
      exact fun z => nomatch z
    · cases hq : H a with
      | none => exact absurd hq (w a oa)
      | some o =>
        rw [ep a o ha hq]
        exact fun z => nomatch z
  have i1 : I.P H1 := hI2 H H1 w i ep tb
  refine tw_mono (hx A outer s H0 (whyE C cb cr Q) f c' hr' σ H1 (fun cls d _ H' => whyE C cb cr Q cls d H') (takes_of rfl rfl rfl rfl) w1 (dn.ext ex) i1 fun cls d σ' H' e w' j xd => ⟨O, cx, fs, r, hw, xd, w', fun v H2 sm nv => ?_⟩) fun v H' z => z.elim
  exact kk v H2 r (ex.trans (e.trans (Ext.of sm))) (w'.same sm) (I.st sm j) rfl nv
end
end TM
/-! ## TmShow -/
set_option Elab.async false
set_option linter.all false
set_option maxRecDepth 100000
set_option maxHeartbeats 4000000
set_option exponentiation.threshold 100000
/-! TmShow: how long a shown datum is, and of which signs. -/
namespace TM
open PySem L2 PySem.Spec PyProof.Rows
theorem len_app (a b : Str) : (a ++ b).length = a.length + b.length := by
  show (a.cps ++ b.cps).size = _
  rw [Array.size_append] <;> rfl
theorem ok_app {a b : Str} (ha : PyData.strOk a = true) (hb : PyData.strOk b = true) : PyData.strOk (a ++ b) = true := by
  show (a.cps ++ b.cps).all _ = true
  rw [Array.all_append]
  exact Bool.and_eq_true_iff.mpr ⟨ha, hb⟩
theorem ok_join {sep : Str} (hs : PyData.strOk sep = true) : ∀ {xs : List Str}, (∀ x ∈ xs, PyData.strOk x = true) → PyData.strOk (Str.join sep xs) = true
  | [], _ => by
    show PyData.strOk Str.empty = true
    decide +kernel
  | [x], h => h x (.head _)
  | x :: y :: r, h => ok_app (ok_app (h x (.head _)) hs) (ok_join hs fun z hz => h z (.tail _ hz))
theorem len_join {sep : Str} : ∀ {xs : List Str}, (Str.join sep xs).length ≤ (xs.map fun x => x.length + sep.length).sum
  | [] => by
    show Array.size #[] ≤ _
    simp
  | [x] => by
    show x.length ≤ _
    simp
  | x :: y :: r => by
    have ih := len_join (sep := sep) (xs := y :: r)
    show (x ++ sep ++ Str.join sep (y :: r)).length ≤ _
    rw [len_app, len_app, List.map_cons, List.sum_cons]
    omega
theorem ok_ofString (s : String) : PyData.strOk (Str.ofString s) = true := by
  rw [Str.ofString_eq_toList]
  show Array.all _ _ = true
  rw [Array.all_eq_true']
  intro c hc
  obtain ⟨ch, _, rfl⟩ := List.mem_map.mp (by simpa using hc)
  have hv := ch.valid
  have h2 : ch.toNat = ch.val.toNat := rfl
  refine decide_eq_true ?_
  rcases hv with h | ⟨_, h⟩
  · have : ch.val.toNat < 0xd800 := h
    omega
  · exact h
mutual
/-- no text is longer than this -/
def D.wt : D → Nat
  | .non => 8
  | .bl _ => 8
  | .int _ => 1921
  | .str x => (reprText x).length
  | .lst xs => D.wts xs + 8
  | .tup xs => D.wts xs + 8
  | .dic => 8
  | .poly _ => 8
  | .val _ => 8
def D.wts : List D → Nat
  | [] => 0
  | d :: ds => D.wt d + 2 + D.wts ds
end
mutual
def D.sk : D → Bool
  | .str x => PyData.strOk (reprText x)
  | .lst xs => D.sks xs
  | .tup xs => D.sks xs
  | _ => true
def D.sks : List D → Bool
  | [] => true
  | d :: ds => D.sk d && D.sks ds
end
theorem len_lit (s : String) (n : Nat) (h : (Str.ofString s).length ≤ n) : ((s : String) : Str).length ≤ n := h
mutual
theorem shw_len : ∀ d : D, d.rp = true → d.py.shown.length ≤ d.wt
  | .non, _ => by unfold D.py D.wt; rw [PyData.shown_none]; decide
  | .bl b, _ => by
    unfold D.py D.wt
    rw [PyData.shown_bool]
    cases b <;> decide
  | .int i, h => by
    unfold D.rp at h
    unfold D.py D.wt
    rw [PyData.shown_int]
    exact int_text_len_1921 (of_decide_eq_true h)
  | .str x, _ => by
    unfold D.py D.wt
    rw [PyData.shown_str]
    exact Nat.le_refl _
  | .lst xs, h => by
    unfold D.rp at h
    unfold D.py D.wt
    have := shws_len xs h
    rw [PyData.shown_list, len_app, len_app]
    have l1 := len_join (sep := ", ") (xs := PyData.shownAll (D.pys xs))
    have e1 : (("[" : String) : Str).length = 1 := by decide
    have e2 : (("]" : String) : Str).length = 1 := by decide
    omega
  | .tup xs, h => by
    unfold D.rp at h
    unfold D.py D.wt
    have := shws_len xs h
    rw [PyData.shown_tuple, len_app, len_app]
    have l1 := len_join (sep := ", ") (xs := PyData.shownAll (D.pys xs))
    have e1 : (("(" : String) : Str).length = 1 := by decide
    have e2 : ∀ b : Bool, (((if b = true then ",)" else ")" : String)) : Str).length ≤ 2 := by decide
    have e3 := e2 ((D.pys xs).length == 1)
    omega
  | .dic, _ => by decide +kernel
  | .poly _, h => by unfold D.rp at h; cases h
  | .val _, h => by unfold D.rp at h; cases h
theorem shws_len : ∀ ds : List D, D.rps ds = true → ((PyData.shownAll (D.pys ds)).map fun x => x.length + ((", " : String) : Str).length).sum ≤ D.wts ds
  | [], _ => by unfold D.pys; rw [PyData.shownAll_nil]; exact Nat.zero_le _
  | d :: ds, h => by
    unfold D.rps at h
    obtain ⟨h1, h2⟩ := Bool.and_eq_true_iff.mp h
    unfold D.pys D.wts
    rw [PyData.shownAll_cons, List.map_cons, List.sum_cons]
    have a := shw_len d h1
    have b := shws_len ds h2
    have e : ((", " : String) : Str).length = 2 := by decide
    omega
end
mutual
theorem shw_ok : ∀ d : D, d.rp = true → d.sk = true → PyData.strOk d.py.shown = true
  | .non, _, _ => by decide +kernel
  | .bl b, _, _ => by cases b <;> decide +kernel
  | .int i, _, _ => by
    unfold D.py
    rw [PyData.shown_int]
    exact ok_ofString _
  | .str x, _, h => by
    unfold D.sk at h
    unfold D.py
    rw [PyData.shown_str]
    exact h
  | .lst xs, h, k => by
    unfold D.rp at h
    unfold D.sk at k
    unfold D.py
    rw [PyData.shown_list]
    exact ok_app (ok_app (by decide +kernel) (ok_join (by decide +kernel) (shws_ok xs h k))) (by decide +kernel)
  | .tup xs, h, k => by
    unfold D.rp at h
    unfold D.sk at k
    unfold D.py
    rw [PyData.shown_tuple]
    refine ok_app (ok_app (by decide +kernel) (ok_join (by decide +kernel) (shws_ok xs h k))) ?_
    have e2 : ∀ b : Bool, PyData.strOk (((if b = true then ",)" else ")" : String)) : Str) = true := by decide +kernel
    exact e2 _
  | .dic, _, _ => by decide +kernel
  | .poly _, h, _ => by unfold D.rp at h; cases h
  | .val _, h, _ => by unfold D.rp at h; cases h
theorem shws_ok : ∀ ds : List D, D.rps ds = true → D.sks ds = true → ∀ x ∈ PyData.shownAll (D.pys ds), PyData.strOk x = true
  | [], _, _ => by unfold D.pys; rw [PyData.shownAll_nil]; intro x hx; cases hx
  | d :: ds, h, k => by
    unfold D.rps at h
    obtain ⟨h1, h2⟩ := Bool.and_eq_true_iff.mp h
    unfold D.sks at k
    obtain ⟨k1, k2⟩ := Bool.and_eq_true_iff.mp k
    unfold D.pys
    rw [PyData.shownAll_cons]
    intro x hx
    cases List.mem_cons.mp hx with
    | inl e => rw [e]; exact shw_ok d h1 k1
    | inr e => exact shws_ok ds h2 k2 x e
end
/-- told by repr, of good signs -/
structure D.Sw (d : D) : Prop where
  ok : d.RpOk
  st : PyData.strOk d.shw = true
theorem shOf {d : D} (h1 : d.rp = true) (h2 : d.dep ≤ 64) (h3 : d.wt ≤ 2 ^ 24) (h4 : d.sk = true) : d.Sw := ⟨⟨h1, h2, Nat.le_trans (shw_len d h1) h3⟩, shw_ok d h1 h4⟩
theorem rps_iff : ∀ {ds : List D}, D.rps ds = true ↔ ∀ d ∈ ds, d.rp = true
  | [] => by simp [D.rps]
  | d :: ds => by simp [D.rps, rps_iff (ds := ds)]
theorem sks_iff : ∀ {ds : List D}, D.sks ds = true ↔ ∀ d ∈ ds, d.sk = true
  | [] => by simp [D.sks]
  | d :: ds => by simp [D.sks, sks_iff (ds := ds)]
theorem deps_le {n : Nat} : ∀ {ds : List D}, (∀ d ∈ ds, d.dep ≤ n) → D.deps ds ≤ n
  | [], _ => by simp [D.deps]
  | d :: ds, h => by
    have := h d (.head _)
    have := deps_le (ds := ds) fun e he => h e (.tail _ he)
    simp only [D.deps]
    omega
theorem wts_le {n : Nat} : ∀ {ds : List D}, (∀ d ∈ ds, d.wt ≤ n) → D.wts ds ≤ ds.length * (n + 2)
  | [], _ => by simp [D.wts]
  | d :: ds, h => by
    have := h d (.head _)
    have := wts_le (ds := ds) fun e he => h e (.tail _ he)
    simp only [D.wts, List.length_cons, Nat.succ_mul]
    omega
/-- small: a row of at most 1000 of these is told by repr -/
structure D.Sm (d : D) : Prop where
  rp : d.rp = true
  dep : d.dep ≤ 32
  wt : d.wt ≤ 8000
  sk : d.sk = true
theorem sm_sw {d : D} (h : d.Sm) : d.Sw := shOf h.rp (Nat.le_trans h.dep (by decide)) (Nat.le_trans h.wt (by decide)) h.sk
theorem row_sw {ds : List D} (h : ∀ d ∈ ds, d.Sm) (hl : ds.length ≤ 1000) : (D.lst ds).Sw ∧ (D.tup ds).Sw := by
  have h1 := rps_iff.mpr fun d hd => (h d hd).rp
  have h2 := deps_le fun d hd => (h d hd).dep
  have h3 := wts_le fun d hd => (h d hd).wt
  have h4 := sks_iff.mpr fun d hd => (h d hd).sk
  have h5 : ds.length * (8000 + 2) ≤ 1000 * 8002 := Nat.mul_le_mul_right _ hl
  exact ⟨shOf (by unfold D.rp; exact h1) (by unfold D.dep; omega) (by unfold D.wt; omega) (by unfold D.sk; exact h4), shOf (by unfold D.rp; exact h1) (by unfold D.dep; omega) (by unfold D.wt; omega) (by unfold D.sk; exact h4)⟩
def smI (i : Int) : Prop := i.natAbs.log2 < 1920
theorem sm_int {i : Int} (h : smI i) : (D.int i).Sm := ⟨by unfold D.rp; exact decide_eq_true h, by simp [D.dep], by simp [D.wt], rfl⟩
theorem sm_tup2 {i j : Int} (h : smI i) (h2 : smI j) : (D.tup [.int i, .int j]).Sm :=
  ⟨by simp only [D.rp, D.rps, Bool.and_true, Bool.and_eq_true]; exact ⟨decide_eq_true h, decide_eq_true h2⟩, by simp [D.dep, D.deps], by simp [D.wt, D.wts], rfl⟩
theorem sm_lst2 {i j : Int} (h : smI i) (h2 : smI j) : (D.lst [.int i, .int j]).Sm :=
  ⟨by simp only [D.rp, D.rps, Bool.and_true, Bool.and_eq_true]; exact ⟨decide_eq_true h, decide_eq_true h2⟩, by simp [D.dep, D.deps], by simp [D.wt, D.wts], rfl⟩
theorem hb_smI {q : Rat} {n : Nat} (h : Hb n q) (hn : n ≤ 1920) : smI q.num ∧ smI q.den := by
  have h1 : q.num.natAbs < 2 ^ 1920 := Nat.lt_of_lt_of_le h.1 (Nat.pow_le_pow_right (by decide) hn)
  have h2 : q.den < 2 ^ 1920 := Nat.lt_of_lt_of_le h.2 (Nat.pow_le_pow_right (by decide) hn)
  exact ⟨log_lt h1 (by decide), by
    show ((q.den : Int).natAbs).log2 < 1920
    rw [Int.natAbs_natCast]
    exact log_lt h2 (by decide)⟩
theorem sm_pair {q : Rat} {n : Nat} (h : Hb n q) (hn : n ≤ 1920) : (pair q).Sm := sm_tup2 (hb_smI h hn).1 (hb_smI h hn).2
theorem sm_prs {ns : List Rat} {n : Nat} (h : ∀ q ∈ ns, Hb n q) (hn : n ≤ 1920) : ∀ d ∈ prs ns, d.Sm := fun d hd => by
  obtain ⟨q, hq, rfl⟩ := List.mem_map.mp hd
  exact sm_pair (h q hq) hn
theorem sw_tup {ns : List Rat} {n : Nat} (h : ∀ q ∈ ns, Hb n q) (hn : n ≤ 1920) (hl : ns.length ≤ 1000) : (D.tup (prs ns)).Sw := (row_sw (sm_prs h hn) (by rw [prs_len]; exact hl)).2
/-! ### what is no ratio -/
theorem any_sm : ∀ d ∈ anyL, d.Sm := by
  intro d hd
  simp only [anyL, List.mem_cons, List.not_mem_nil, or_false] at hd
  rcases hd with rfl | rfl | rfl | rfl | rfl | rfl | rfl | rfl | rfl | rfl | rfl | rfl | rfl | rfl | rfl <;> exact ⟨by decide +kernel, by decide +kernel, by decide +kernel, by decide +kernel⟩
theorem any_bad : ∀ d ∈ anyL, badD d := by
  intro d hd
  simp only [anyL, List.mem_cons, List.not_mem_nil, or_false] at hd
  rcases hd with rfl | rfl | rfl | rfl | rfl | rfl | rfl | rfl | rfl | rfl | rfl | rfl | rfl | rfl | rfl <;> (refine ⟨⟨⟨_, rfl⟩, fun ds hds x hx => ?_⟩, by decide⟩; (first | (cases hds; done) | (cases hds; cases hx; done) | (cases hds; simp only [List.mem_cons, List.not_mem_nil, or_false] at hx; first | (rcases hx with rfl | rfl | rfl <;> exact ⟨_, rfl⟩) | (rcases hx with rfl | rfl <;> exact ⟨_, rfl⟩) | (subst hx; exact ⟨_, rfl⟩) | exact hx.elim)))
/-! ### == of what is told -/
theorem eqv_strs2 (a b c d : Str) : (D.tup [.str a, .str b]).eqv (.tup [.str c, .str d]) = (decide (a = c) && decide (b = d)) := by
  unfold D.eqv
  simp [D.py, D.pys, PyData.eqv, PyData.eqvAll, Bool.beq_eq_decide_eq]
end TM
/-! ## TmTop -/
set_option Elab.async false
set_option linter.all false
set_option maxRecDepth 100000
set_option maxHeartbeats 4000000
set_option exponentiation.threshold 100000
/-! TmTop: rules for the law's upper defs. -/
namespace TM
open PySem L2 PySem.Spec PyProof.Rows
section
variable {C : Addr} {X : Cx} {O : Addr → Prop} {ρ : Env} {I J K L : Asr} {a b c e : Expr} {pos p1 p2 p3 : Pos} {s t : Str} {i j l : Int} {Φ : D → Prop} {Ψ : List D → Prop} {es : List Expr} {H0 H : Hp} {σ : L2.St} {De : Ends} {rest body els : List Stmt}
theorem op2_neS : Op2 C O rNe (.str s) (.str t) (Is (.bl (!decide (s = t)))) := fun H x y Q w h1 h2 k => by
  cases h1
  cases h2
  refine ⟨rfl, ?_⟩
  have e : decide (V.str s = V.str t) = decide (s = t) := by
    by_cases h : s = t
    · rw [h, decide_eq_true rfl, decide_eq_true rfl]
    · rw [decide_eq_false h, decide_eq_false (fun z => h (V.str.inj z))]
  rw [e]
  exact k _ H _ (Same.refl H) rfl (.bl _)
theorem gt_neS (ha : GE C X O ρ I a J (Is (.str s))) (hb : GE C X O ρ J b K (Is (.str t))) : GT C X O ρ I (.Compare a [.NotEq] [b] pos) K (· = !decide (s = t)) := gt_cmp op_ne ha hb op2_neS
/-- a ≤ b < c -/
theorem gt_leLt (ha : GE C X O ρ I a I (Is (.int i))) (hb : GE C X O ρ I b I (Is (.int j))) (hc : GE C X O ρ I c I (Is (.int l))) (hm : lastMarks [.LtE, .Lt] [b, c] = false := by with_unfolding_all rfl) :
    GT C X O ρ I (.Compare a [.LtE, .Lt] [b, c] pos) I (· = (decide (i ≤ j) && decide (j < l))) := gt_of (pt_chain op_le op_lt pe_tw pe_tw pe_tw hm) fun σ H Q w dn i0 k =>
  ha σ H _ w dn i0 fun v1 H1 d1 e1 w1 i1 q1 n1 => hb σ H1 _ w1 (dn.ext e1) i1 fun v2 H2 d2 e2 w2 i2 q2 n2 => by
    cases q1
    cases q2
    cases n1
    cases n2
    refine ⟨i, j, rfl, rfl, decide (i ≤ j), rfl, ?_⟩
    cases hd : decide (i ≤ j) with
    | false =>
      rw [if_neg (by decide)]
      exact ⟨false, rfl, k false H2 (e1.trans e2) w2 i2 (by rw [hd, Bool.false_and])⟩
    | true =>
      rw [if_pos rfl]
      refine hc σ H2 _ w2 ((dn.ext e1).ext e2) i2 fun v3 H3 d3 e3 w3 i3 q3 n3 => ?_
      cases q3
      cases n3
      exact ⟨j, l, rfl, rfl, decide (j < l), rfl, k _ H3 ((e1.trans e2).trans e3) w3 i3 (by rw [hd, Bool.true_and])⟩
theorem ge_tupn {k : Nat} (ha : GA C X O ρ I es J Ψ) (hl : ∀ ds, Ψ ds → ds.length ≤ 1000) : GE C X O ρ I (.Tuple es k pos) J (fun z => ∃ ds, z = .tup ds ∧ Ψ ds) := ge_of (pe_tup pa_tw) fun σ H Q w dn i kk => ha σ H _ w dn i fun vs H1 ds e1 w1 j1 p1 n1 => by
  refine ⟨by rw [n1.length]; exact Nat.le_trans (hl ds p1) (by decide), fun q hq => kk _ _ (.tup ds) (e1.trans (Ext.of (same_new hq))) (wf_new w1 hq) (J.st (same_new hq) j1) ⟨ds, rfl, p1⟩ (.tup (own_not w1 hq) upd_same (n1.ext (Ext.of (same_new hq))))⟩
theorem gq_parN {pa pb pt : Pos} {kt k2 : Nat} {pt2 : Pos} {x y : Str} (i j : Nat) (S : Stt C O H0 H σ ρ I) (hc : X.calm = true) (hN : X.N.Nodup) (h : GA C X O ρ I [a, b] J Ψ) (h2 : ∀ ds, Ψ ds → ∃ d1 d2, ds = [d1, d2]) (k : ∀ σ' H' d1 d2, Ψ [d1, d2] → Stt C O H0 H' σ' ((ρ.set i (some d1)).set j (some d2)) J → ssw X rest De σ' H')
    (hi : X.N[i]? = some x := by rfl) (hj : X.N[j]? = some y := by rfl) (hij : i ≠ j := by decide) (hx : X.env.scope.names.lookup x = some .local := by rfl) (hy : X.env.scope.names.lookup y = some .local := by rfl)
    (hw : swappedStores [.Tuple [.Name x pa, .Name y pb] kt pt] (.Tuple [a, b] k2 pt2) X.env = pure (some [x, y]) := by rfl) (hs : swapsWithSole [.Tuple [.Name x pa, .Name y pb] kt pt] (.Tuple [a, b] k2 pt2) pos.line X.env = pure false := by rfl) :
    ssw X (.Assign [.Tuple [.Name x pa, .Name y pb] kt pt] (.Tuple [a, b] k2 pt2) pos :: rest) De σ H := gq_of (ps_par (i := i) (j := j) hc hN hi hj hij hx hy pa_tw hw hs) (h σ H _ S.wf S.den S.asr fun vs H' zs e w jj p n => by
      obtain ⟨d1, d2, rfl⟩ := h2 zs p
      obtain ⟨v1, v2, rfl, n1, n2⟩ := two_dn n
      exact ⟨v1, v2, rfl, k _ _ d1 d2 p ⟨w, ((S.den.ext e).set i n1).set j n2, jj, S.ext.trans e⟩⟩)
def f3 (i j l : Nat) : D → Env → Env := fun d ρ => match items d with
  | some [d1, d2, d3] => ((ρ.set i (some d1)).set j (some d2)).set l (some d3)
  | _ => ρ
def three : D → Prop := fun d => ∃ d1 d2 d3, items d = some [d1, d2, d3]
theorem tg_three {i j l : Nat} {vs : List Nat} {x y z : Str} {k : Nat} (hc : X.calm = true) (hN : X.N.Nodup) (hi : X.N[i]? = some x) (hx : Loc X.env.scope x) (hj : X.N[j]? = some y) (hy : Loc X.env.scope y) (hl : X.N[l]? = some z) (hz : Loc X.env.scope z) (hv : i ∈ vs) (hw : j ∈ vs) (hu : l ∈ vs)
    (hf : X.fn x = true ∨ X.env.scope.names.lookup x = some .local := by first | exact .inl rfl | exact .inr rfl | assumption) (hf2 : X.fn y = true ∨ X.env.scope.names.lookup y = some .local := by first | exact .inl rfl | exact .inr rfl | assumption) (hf3 : X.fn z = true ∨ X.env.scope.names.lookup z = some .local := by first | exact .inl rfl | exact .inr rfl | assumption)
    (h1 : (assignEach [Expr.Name x p1, .Name y p2, .Name z p3] X.env).map (·.2) = assign (.Name x p1) X.env :: (assignEach [Expr.Name y p2, .Name z p3] X.env).map (·.2) := by rfl) (h2 : (assignEach [Expr.Name y p2, .Name z p3] X.env).map (·.2) = assign (.Name y p2) X.env :: (assignEach [Expr.Name z p3] X.env).map (·.2) := by rfl) (h3 : (assignEach [Expr.Name z p3] X.env).map (·.2) = assign (.Name z p3) X.env :: (assignEach [] X.env).map (·.2) := by rfl)
    (hn : (assignEach [Expr.Name x p1, .Name y p2, .Name z p3] X.env).length = 3 := by rfl) (hst : (assignEach [Expr.Name x p1, .Name y p2, .Name z p3] X.env).findIdx? (·.1) = none := by rfl) :
    Tg C X O (.Tuple [.Name x p1, .Name y p2, .Name z p3] k pos) vs (f3 i j l) three := by
  refine ⟨fun σ H ρ v d Q w dn n hd q => ?_⟩
  obtain ⟨d1, d2, d3, hi2⟩ := hd
  have ef : f3 i j l d ρ = ((ρ.set i (some d1)).set j (some d2)).set l (some d3) := by
    unfold f3
    rw [hi2]
  rw [ef] at q
  obtain ⟨a0, xs, rfl, t, r⟩ := items_seq n hi2
  obtain ⟨v1, v2, v3, rfl, n1, n2, n3⟩ : ∃ v1 v2 v3, xs = [v1, v2, v3] ∧ Dn C O H v1 d1 ∧ Dn C O H v2 d2 ∧ Dn C O H v3 d3 := by
    cases t with
    | cons a1 t1 =>
      cases t1 with
      | cons a2 t2 =>
        cases t2 with
        | cons a3 t3 =>
          cases t3
          exact ⟨_, _, _, rfl, a1, a2, a3⟩
  have fin : Q (((σ.set i (some v1)).set j (some v2)).set l (some v3)) H := q _ (((dn.set i n1).set j n2).set l n3) (by rw [wipe_set hu, wipe_set hw, wipe_set hv])
  rcases r with ⟨_, r⟩ | ⟨_, r⟩
  · exact gw_of (pg_lst hc (pgs_cons (pg_name hN hi hx hf) (pgs_cons (pg_name hN hj hy hf2) (pgs_cons (pg_name hN hl hz hf3) pgs_nil h3) h2) h1) hn hst) ⟨_, _, rfl, SqL.of r, rfl, v1, [v2, v3], rfl, v2, [v3], rfl, v3, [], rfl, rfl, fin⟩
  · exact gw_of (pg_tup hc (pgs_cons (pg_name hN hi hx hf) (pgs_cons (pg_name hN hj hy hf2) (pgs_cons (pg_name hN hl hz hf3) pgs_nil h3) h2) h1) hn hst) ⟨_, _, rfl, SqT.of r, rfl, v1, [v2, v3], rfl, v2, [v3], rfl, v3, [], rfl, rfl, fin⟩
/-- a, b = .., .. / a, b, c = .., .., .. through a tuple -/
theorem gq_tupN {tg : Expr} {vs : List Nat} {f : D → Env → Env} {dom : D → Prop} {k2 : Nat} {pt2 : Pos} (S : Stt C O H0 H σ ρ I) (T : Tg C X O tg vs f dom) (h : GA C X O ρ I es J Ψ) (hd : ∀ ds, Ψ ds → ds.length ≤ 1000 ∧ dom (.tup ds)) (k : ∀ σ' H' ds, Ψ ds → Stt C O H0 H' σ' (f (.tup ds) ρ) J → ssw X rest De σ' H')
    (hs : swapsWithSole [tg] (.Tuple es k2 pt2) pos.line X.env = pure false := by rfl) (hw : swappedStores [tg] (.Tuple es k2 pt2) X.env = pure none := by rfl) (h1 : (assignEach [tg] X.env).map (·.2) = [assign tg X.env] := by rfl) : ssw X (.Assign [tg] (.Tuple es k2 pt2) pos :: rest) De σ H :=
  gq_two S T (ge_tupn h fun ds p => (hd ds p).1) (fun d p => by obtain ⟨ds, rfl, q⟩ := p; exact (hd ds q).2) (fun σ' H' d p S' => by
    obtain ⟨ds, rfl, q⟩ := p
    exact k σ' H' ds q S') hs hw h1
/-- a test that is false: the body is not run -/
theorem gq_no {c : Expr} (S : Stt C O H0 H σ ρ I) (h : GT C X O ρ I c J (· = false)) (k : ∀ H', Stt C O H0 H' σ ρ J → ssw X rest De σ H') : ssw X (.If c body [] pos :: rest) De σ H :=
  gq_if S h (fun z => by cases z) fun _ H' S' => gq_nil (k H' S')
end
/-! ### contracts of the law's upper defs -/
theorem penQ_extP {C : Addr} {O : Addr → Prop} {H0 H H1 : Hp} {p P : Addr} {N : Nat} {T : Tb} {qs : Ql} {q : Str} (hO : O P) (hT : (P, q) ∈ T) (i : (penQ C O H0 p N T qs).P H) (e : ExtP P H H1) (t1 : LamX.Tabs T H1) : (penQ C O H0 p N T qs).P H1 := by
  obtain ⟨⟨s, s1, s0, s2, s3⟩, tb, own, fr⟩ := i
  obtain ⟨ps, hP, _⟩ := tb _ hT
  have ne : ∀ {b : Addr} {o : HO}, H b = some o → o ≠ .tbl ps → b ≠ P := fun {b o} h1 h2 z => by
    rw [z, hP] at h1
    exact h2 (Option.some.inj h1).symm
  have ex : Ext (owO O qs) H H1 := fun b o nb h => e b o (fun z => nb (.inl (by rw [z]; exact hO))) h
  refine ⟨⟨s, s1, s0, e _ _ (ne s2 (by intro z; cases z)) s2, e _ _ (ne s3 (by intro z; cases z)) s3⟩, t1, fun x hx => ?_, fun a o h1 h2 h3 h4 => e _ _ (fun z => h3 (by rw [z]; exact List.mem_map.mpr ⟨_, hT, rfl⟩)) (fr a o h1 h2 h3 h4)⟩
  obtain ⟨xs, h1, h2⟩ := own x hx
  exact ⟨xs, e _ _ (ne h1 (by intro z; cases z)) h1, h2.ext ex⟩
/-- what _law_why needs -/
structure WhyE (K : PySem.W.Frag) (mg : Str → Option Value) (base : Heap) (cb cr ci cu : Addr) : Prop where
  g : WhyG K mg cb cr ci cu
  s : SysIn base
  rp : mg "repr" = none
  why : ∃ g fd, FnP K "_law_why" "_law_why" (top 61) g fd ∧ mg "_law_why" = some (.ref g)
section
variable {C : Addr} {X : Cx} {O : Addr → Prop} {ρ : Env} {cb cr ci cu P cx p : Addr} {T : Tb} {k N : Nat} {fs : List (Str × D)} {r : D} {params : Arguments} {body : Expr} {scope : Scope} {pp lpos pos : Pos} {H0 : Hp} {qs : Ql}
theorem ge_whyQ (W : WhyE X.K X.mg X.base cb cr ci cu) (hgd : X.A.guards = some []) (hr : Room (k + 2) X.A) (LG : LamG X.base X.mg T X.env.code (X.env.qual ++ "<lambda>") P) (hO : O P) (hw : WhyOf cb cr cx fs r)
    (hx : ∀ (A : Around) (outer : List PySem.Env) (s : Shared) (H : Hp) (E : XK) (f c' : Addr), Room k (A.deeper (LamX.lamEnv X scope s.heap.objs.size f c')) → GX C (LamX.lamCx X A outer s H E scope f c') (owO O qs) ρ (penQ C O H0 p N T qs) body cx fs)
    (L : LamX.LamS X.env.scope scope := by exact LamX.lamS_by (by rfl)) (hg : Gl X "_law_why" := by rfl) (hdef : defaultsOf params X.env = ([], []) := by rfl)
    (hbind : ∀ (q : Str) (cl : List (Str × Addr)) (pm cv ctv : Value), bindArgs (PySem.W.kla_fn "<lambda>" q params body scope cl pm cv ctv) ⟨[], []⟩ = pure [] := by intros; rfl) :
    GE C X (owO O qs) ρ (penQ C O H0 p N T qs) (.Call (.Name "_law_why" pp) [.Lambda params body scope lpos] [] pos) (penQ C O H0 p N T qs) (Is r) := by
  obtain ⟨g, fd, F, hm⟩ := W.why
  exact ge_why W.g W.s hgd hr W.rp F hm LG (.inl hO) (fun H i => i.2.1) (fun H H1 _ i ep tb => penQ_extP hO LG.mem i ep tb) hw hx L hg hdef hbind
end
/-- called with the pen: it answers True -/
def spT (C : Addr) (T : Tb) (m : Nat) : Sp := fun vs H Q _ => ∃ (O : Addr → Prop) (p : Addr) (N : Nat), vs = [.ref p] ∧ O p ∧ (∀ t ∈ T, O t.1) ∧ Wf O H ∧ penAt O H p N ∧ LamX.Tabs T H ∧ N + m ≤ 2 ^ 40 ∧
  ∀ H', Ext O H H' → Wf O H' → (penQ C O H p (N + m) T []).P H' → Q (.bl true) H'
abbrev FnT (P : Program) (w : World) (K : PySem.W.Frag) (mg : Str → Option Value) (base : Heap) (k : Nat) (C : Addr) (T : Tb) (x : Str) (m : Nat) : Prop := FnG P w K mg base CX0 k x (spT C T m)
def BodyT (P : Program) (w : World) (K : PySem.W.Frag) (mg : Str → Option Value) (base : Heap) (C : Addr) (T : Tb) (N : List Str) (q : Str) (st : Stmt) (f : Addr) (cd : Value) (k m : Nat) : Prop :=
  ∀ (A : Around) (outer : List PySem.Env) (s : Shared) (H : Hp) (E : XK), Room k (A.deeper (envOfC q (defScope st) s.heap.objs.size f cd)) → A.guards = some [] →
    ∀ (O : Addr → Prop) (H0 : Hp) (p : Addr) (M : Nat) (De : Ends), O p → (∀ t ∈ T, O t.1) → M + m ≤ 2 ^ 40 →
      Stt C (owO O []) H0 H0 (L2.start N [.ref p]) (some (.val (.ref p)) :: List.replicate (N.length - 1) none) (penQ C O H0 p M T []) →
      (∀ v H', Ext (owO O []) H0 H' → Wf (owO O []) H' → (penQ C O H0 p (M + m) T []).P H' → Dn C (owO O []) H' v (.bl true) → De.rt v H') → ssw (bX P w K mg base N q st f cd A outer s H E) (defBody st) De (L2.start N [.ref p]) H0
section
variable {P : Program} {w : World} {K : PySem.W.Frag} {mg : Str → Option Value} {base : Heap} {x q : Str} {f : Addr} {fd : FuncData} {N : List Str} {k m : Nat} {C : Addr} {T : Tb} {st : Stmt}
theorem fn_T (F : FnP K x q st f fd) (hm : mg x = some (.ref f)) (S : FnScope N ["_law_pen_here"] (defScope st)) (hb : Binds K fd ["_law_pen_here"] []) (body : BodyT P w K mg base C T N q st f fd.code k m) : FnT P w K mg base (k + 1) C T x m := by
  refine ⟨f, fd, ["_law_pen_here"], ok_guard F S (fun vs H Q E h => ?_) fun A outer s H vs Q E hr hg h => ?_, hm, F.kp, hb⟩
  · obtain ⟨O, p, M, rfl, _⟩ := h
    rfl
  · obtain ⟨O, p, M, rfl, hO, hT, hw, hp, ht, hM, hQ⟩ := h
    refine ⟨_, PSs.nox pss_tw, ?_⟩
    refine body A outer s H E hr hg O H p M _ hO hT hM ?_ fun v H' ex w' i n => ?_
    · have S0 := Stt.start (N := N) (I := penQ C O H p M T []) (O := owO O []) (C := C) (H := H) (vs := [.ref p]) (ds := [.val (.ref p)]) (by rw [owO_nil]; exact hw) (.cons (.val _) .nil) ⟨by rw [owO_nil]; exact hp, ht, fun x hx => (nomatch hx), fun a o _ _ _ h => h⟩
      exact S0
    · cases n
      rw [owO_nil] at ex w'
      exact hQ H' ex w' i
end
section
variable {C : Addr} {X : Cx} {O : Addr → Prop} {ρ : Env} {H0 : Hp} {p : Addr} {k m N M : Nat} {T : Tb} {x : Str} {e : Expr} {pos p2 : Pos} {I : Asr}
theorem ge_callT (F : FnT X.prog X.w X.K X.mg X.base k C T x m) (hr : Room k X.A) (hgd : X.A.guards = some []) (hO : O p) (hT : ∀ t ∈ T, O t.1) (ha : GE C X (owO O []) ρ (penQ C O H0 p N T []) e (penQ C O H0 p N T []) (Is (.val (.ref p)))) (hN : N + m ≤ 2 ^ 40) (hg : Gl X x := by rfl)
    (hdb : (x == ("__debug__" : Str)) = false := by decide) (he : starEach [e] X.env = (false, eval e X.env) :: starEach [] X.env := by rfl) (hpl : (backTo pos (starEach [] X.env)).any (·.1) = false := by rfl) :
    GE C X (owO O []) ρ (penQ C O H0 p N T []) (.Call (.Name x p2) [e] [] pos) (penQ C O H0 p (N + m) T []) (Is (.bl true)) := by
  obtain ⟨f, fd, ps, ok, hm, hk, hb⟩ := F.ex
  refine ge_of (pe_callG ok hr hgd hg hm hk hb pass0 (pa_cons pe_tw pa_nil he) hdb he hpl) fun σ H Q w dn i kk => ha σ H _ w dn i fun v H1 d1 e1 w1 j1 p1 n1 => ?_
  cases p1
  cases n1
  show spT C T m [.ref p] H1 Q E0
  refine ⟨O, p, N, rfl, hO, hT, by rw [owO_nil] at w1; exact w1, by have := j1.1; rw [owO_nil] at this; exact this, j1.2.1, hN, fun H' ex w' g => ?_⟩
  refine kk _ H' _ (e1.trans (by rw [owO_nil]; exact ex)) (by rw [owO_nil]; exact w') ⟨g.1, g.2.1, g.2.2.1, fun a o h1 h2 h3 h4 => g.2.2.2 a o h1 h2 h3 (j1.2.2.2 a o h1 h2 h3 h4)⟩ rfl (.bl _)
theorem gq_retT {De : Ends} {rest : List Stmt} {H : Hp} {σ : L2.St} {J : Asr} (S : Stt C (owO O []) H0 H σ ρ I) (hrt : ∀ v H', Ext (owO O []) H0 H' → Wf (owO O []) H' → (penQ C O H0 p M T []).P H' → Dn C (owO O []) H' v (.bl true) → De.rt v H') (h : GE C X (owO O []) ρ I e J (Is (.bl true))) (hJ : ∀ H, J.P H → (penQ C O H0 p M T []).P H) : ssw X (.Return (some e) pos :: rest) De σ H :=
  gq_ret S h fun v H' d pd n ex j w => by
    cases pd
    exact hrt v H' ex w (hJ H' j) n
end
end TM
/-! ## LwTop0 -/
set_option Elab.async false
set_option linter.all false
set_option maxRecDepth 100000
set_option maxHeartbeats 4000000
set_option exponentiation.threshold 100000
/-! LwTop0: bundles of contracts; small laws for the upper defs. -/
namespace TM
open PySem L2 PySem.Spec PyProof.Rows
/-- the package's defs, as they answer -/
structure PgV (P : Program) (w : World) (K : PySem.W.Frag) (mg : Str → Option Value) (base : Heap) (k : Nat) (C : Addr) : Prop where
  isr : FnS P w K mg base k C "is_ratio" RisRatio
  told : FnS P w K mg base k C "told" Rtold
  plus : FnS P w K mg base k C "plus" (Rbin (· + ·))
  minus : FnS P w K mg base k C "minus" (Rbin (· - ·))
  times : FnS P w K mg base k C "times" (Rbin (· * ·))
  share : FnS P w K mg base k C "share" Rshare
  lower : FnS P w K mg base k C "lower" Rlower
  floor : FnS P w K mg base k C "floor_of" Rfloor
  text : FnS P w K mg base k C "ratio_text" RratioText
  mkp : MkS P w K mg base k C
  deg : MS P w K mg base k C "degree" Rdegree
  eq : MS P w K mg base k C "__eq__" Req
  ops : Ops P w K mg base k C
  neg : MS P w K mg base k C "__neg__" Rneg
  slope : MS P w K mg base k C "slope" Rslope
  area : MS P w K mg base k C "area" Rarea
  at_ : MS P w K mg base k C "at" Rat_at
  moved : MS P w K mg base k C "moved" Rmoved
  divided : FnS P w K mg base k C "divided" Rdivided
  common : FnS P w K mg base k C "common" Rcommon
  ec : EqC K C
/-- .. as they raise -/
structure PgX (P : Program) (w : World) (K : PySem.W.Frag) (mg : Str → Option Value) (base : Heap) (k : Nat) (C cb cr : Addr) : Prop where
  told : FnE P w K mg base k C "told" (RtoldX cb)
  plus : FnE P w K mg base k C "plus" (RbinX cb)
  minus : FnE P w K mg base k C "minus" (RbinX cb)
  times : FnE P w K mg base k C "times" (RbinX cb)
  share : FnE P w K mg base k C "share" (RbinX cb)
  share0 : FnE P w K mg base k C "share" (RshareX0 cb)
  lower : FnE P w K mg base k C "lower" (RbinX cb)
  floor : FnE P w K mg base k C "floor_of" (RpartsX cb)
  text : FnE P w K mg base k C "ratio_text" (RpartsX cb)
  at_ : ME P w K mg base k C "at" (RatX cb)
  moved : ME P w K mg base k C "moved" (RmovedX cb)
  divided : FnE P w K mg base k C "divided" (RdividedX cb)
  init : Mkr P w K mg base (L2.CX P w) k C "Poly" (spX C (RinitX cr))
/-- the law's lower defs -/
structure LwV (P : Program) (w : World) (K : PySem.W.Frag) (mg : Str → Option Value) (base : Heap) (k : Nat) (C : Addr) : Prop where
  q : FnS P w K mg base k C "_law_q" RlQ
  plus : FnS P w K mg base k C "_law_plus" (Rl2 (· + ·))
  minus : FnS P w K mg base k C "_law_minus" (Rl2 (· - ·))
  times : FnS P w K mg base k C "_law_times" RlTimes
  share : FnS P w K mg base k C "_law_share" RlShare
  less : FnS P w K mg base k C "_law_less" RlLess
  is_ : FnS P w K mg base k C "_law_is" RlIs
  whole : FnS P w K mg base k C "_law_is_whole" (fun ds r => ∃ i, ds = [.int i] ∧ r = .bl true)
  poly : FnS P w K mg base k C "_law_poly" RlPoly
  pplus : FnS P w K mg base k C "_law_p_plus" RlPlus2
  pminus : FnS P w K mg base k C "_law_p_minus" RlMinus2
  scaled : FnS P w K mg base k C "_law_p_scaled" RlScaled
  ptimes : FnS P w K mg base k C "_law_p_times" RlTimes2
  pat : FnS P w K mg base k C "_law_p_at" RlAt
  pslope : FnS P w K mg base k C "_law_p_slope" RlSlope
  pmoved : FnS P w K mg base k C "_law_p_moved" RlMoved
  pdivided : FnS P w K mg base k C "_law_p_divided" RlDivided
  pcommon : FnS P w K mg base k C "_law_p_common" RlCommon
/-- .. and those that draw -/
structure LwN (P : Program) (w : World) (K : PySem.W.Frag) (mg : Str → Option Value) (base : Heap) (k : Nat) (C : Addr) : Prop where
  draw : FnN P w K mg base k C "_law_draw" 1 preDraw Rdraw
  pick : FnN P w K mg base k C "_law_pick" 1 prePick Rpick
  passed : FnN P w K mg base k C "_law_passed" 3 prePassed Rpassed
  ratio : FnN P w K mg base k C "_law_ratio" 3 preRatio Rratio
  made : FnN P w K mg base k C "_law_made_poly" 62 preMade Rmade
  drawn : FnN P w K mg base k C "_law_drawn" 34 preDrawn Rdrawn
  any : FnN P w K mg base k C "_law_any" 1 (fun ds => ds = []) Rany
  far : FnN P w K mg base k C "_law_far" 8 (fun ds => ds = []) Rfar
  somer : FnN P w K mg base k C "_law_some_ratio" 16 (fun ds => ds = []) RsomeRatio
/-! ### what is passed -/
structure PaOk (a : D) (x : Rat) (a1 a2 : Int) : Prop where
  wr : Wr a a1 a2
  rt : rt a1 a2 = x
  n : a1.natAbs < 2 ^ 68
  d : a2.natAbs < 2 ^ 68
theorem pa_ok {a : D} {x : Rat} (h : passedD x a) (hx : Hb 66 x) : ∃ a1 a2, PaOk a x a1 a2 := by
  obtain ⟨a1, a2, h1, h2, h3, h4⟩ := passed_wr h
  exact ⟨a1, a2, h1, h2, three_lt h3 hx.1, three_lt h4 hx.2⟩
section
variable {a : D} {x : Rat} {a1 a2 : Int}
theorem PaOk.lg (h : PaOk a x a1 a2) {n : Nat} (hn : 68 ≤ n) : a1.natAbs.log2 < n ∧ a2.natAbs.log2 < n := ⟨Nat.lt_of_lt_of_le (log_lt h.n (by decide)) hn, Nat.lt_of_lt_of_le (log_lt h.d (by decide)) hn⟩
theorem PaOk.b4 (h : PaOk a x a1 a2) : B4 a1 a2 := h.lg (by decide)
/-- x's fraction -/
theorem PaOk.cross (h : PaOk a x a1 a2) : a1 * x.den = x.num * a2 := by
  have h0 : a2 ≠ 0 := by have := h.wr.1; omega
  have h1 : (x.den : Int) ≠ 0 := by have := x.den_pos; omega
  have e : Rat.divInt a1 a2 = Rat.divInt x.num x.den := h.rt.trans (rt_self x).symm
  exact (Rat.divInt_eq_divInt_iff h0 h1).mp e
end
theorem floor_ok {a : D} {x : Rat} {a1 a2 : Int} (h : PaOk a x a1 a2) : a1 / a2 * x.den ≤ x.num ∧ x.num < (a1 / a2 + 1) * x.den := by
  have h2 := h.wr.1
  have hd : (0 : Int) < x.den := by have := x.den_pos; omega
  have hc := h.cross
  have e1 := Int.ediv_mul_le a1 (b := a2) (by omega)
  have e2 := Int.lt_ediv_add_one_mul_self a1 h2
  generalize a1 / a2 = wv at e1 e2
  constructor
  · refine Int.le_of_mul_le_mul_right (a := a2) ?_ h2
    have : wv * a2 * x.den ≤ a1 * x.den := Int.mul_le_mul_of_nonneg_right e1 (by omega)
    rw [hc] at this
    rw [show wv * (x.den : Int) * a2 = wv * a2 * x.den from by rw [Int.mul_assoc, Int.mul_comm (x.den : Int), ← Int.mul_assoc]]
    exact this
  · refine Int.lt_of_mul_lt_mul_right (a := a2) ?_ (by omega)
    have : a1 * x.den < (wv + 1) * a2 * x.den := Int.mul_lt_mul_of_pos_right e2 hd
    rw [hc] at this
    rw [show (wv + 1) * (x.den : Int) * a2 = (wv + 1) * a2 * x.den from by rw [Int.mul_assoc, Int.mul_comm (x.den : Int), ← Int.mul_assoc]]
    exact this
theorem lower_ok {a b : D} {x y : Rat} {a1 a2 b1 b2 : Int} (h : PaOk a x a1 a2) (g : PaOk b y b1 b2) : decide (a1 * b2 < b1 * a2) = decide (x.num * y.den < y.num * x.den) := by
  have h2 := h.wr.1
  have g2 := g.wr.1
  have hd : (0 : Int) < x.den := by have := x.den_pos; omega
  have gd : (0 : Int) < y.den := by have := y.den_pos; omega
  have hc := h.cross
  have gc := g.cross
  have ha : 0 < a2 * b2 := Int.mul_pos h2 g2
  have hx : 0 < (x.den : Int) * y.den := Int.mul_pos hd gd
  have key : (a1 * b2 - b1 * a2) * (x.den * y.den) = (x.num * y.den - y.num * x.den) * (a2 * b2) := by grind
  have iff : a1 * b2 < b1 * a2 ↔ x.num * y.den < y.num * x.den := by
    constructor
    · intro z
      have : (a1 * b2 - b1 * a2) * (x.den * y.den) < 0 := Int.mul_neg_of_neg_of_pos (by omega) hx
      rw [key] at this
      by_cases q : x.num * y.den < y.num * x.den
      · exact q
      · have := Int.mul_nonneg (a := x.num * y.den - y.num * x.den) (b := a2 * b2) (by omega) (by omega)
        omega
    · intro z
      have : (x.num * y.den - y.num * x.den) * (a2 * b2) < 0 := Int.mul_neg_of_neg_of_pos (by omega) ha
      rw [← key] at this
      by_cases q : a1 * b2 < b1 * a2
      · exact q
      · have := Int.mul_nonneg (a := a1 * b2 - b1 * a2) (b := (x.den : Int) * y.den) (by omega) (by omega)
        omega
  exact decide_eq_decide.mpr iff
/-! ### what is told, compared -/
theorem eqv3 (a b c : Str) : (D.tup [.str a, .str b, .str c]).eqv (.tup [.str a, .str b, .str c]) = true := by
  unfold D.eqv
  simp [D.py, D.pys, PyData.eqv, PyData.eqvAll]
theorem eqv2 (a b : Str) : (D.tup [.str a, .str b]).eqv (.tup [.str a, .str b]) = true := by
  unfold D.eqv
  simp [D.py, D.pys, PyData.eqv, PyData.eqvAll]
theorem fit3 {a b c : Str} (ha : PyData.strOk a = true) (hb : PyData.strOk b = true) (hc : PyData.strOk c = true) : (D.tup [.str a, .str b, .str c]).fit = true := by
  unfold D.fit
  simp [D.pl, D.pls, D.dep, D.deps, ha, hb, hc]
theorem fit2 {a b : Str} (ha : PyData.strOk a = true) (hb : PyData.strOk b = true) : (D.tup [.str a, .str b]).fit = true := by
  unfold D.fit
  simp [D.pl, D.pls, D.dep, D.deps, ha, hb]
theorem hb_add2 {n m : Nat} {x y : Rat} (hx : Hb n x) (hy : Hb m y) : Hb (n + m + 1) (x + y) := hb_add hx hy
theorem hb_neg {n : Nat} {x : Rat} (h : Hb n x) : Hb n (-x) := ⟨by rw [Rat.neg_num, Int.natAbs_neg]; exact h.1, by rw [Rat.neg_den]; exact h.2⟩
theorem hb_sub {n m : Nat} {x y : Rat} (hx : Hb n x) (hy : Hb m y) : Hb (n + m + 1) (x - y) := by
  rw [Rat.sub_eq_add_neg]
  exact hb_add hx (hb_neg hy)
end TM
/-! ## LwTop1 -/
set_option Elab.async false
set_option linter.all false
set_option maxRecDepth 100000
set_option maxHeartbeats 4000000
set_option exponentiation.threshold 100000
/-! LwTop1: _law_ratios_right. -/
namespace TM
open PySem L2 PySem.Spec PyProof.Rows
section
variable {P : Program} {w : World} {K : PySem.W.Frag} {mg : Str → Option Value} {base : Heap} {f cb cr ci cu Pt : Addr} {fd : FuncData} {C : Addr} {k : Nat} {T : Tb}
theorem sc_rr : FnScope ["_law_pen_here", "_law_one", "_law_two", "_law_b", "_law_whole", "_law_a", "_law_call", "_law_more", "_law_odd", "_law_zero"] ["_law_pen_here"] (defScope (top 66)) := ⟨rfl, rfl, rfl, by decide +kernel, rfl, by decide +kernel, by decide +kernel⟩
theorem pair_inj {x y : Rat} (h : pair x = pair y) : x = y := by
  unfold pair at h
  simp only [D.tup.injEq, List.cons.injEq, D.int.injEq, and_true] at h
  exact Rat.ext h.1 (by omega)
theorem ge_globF {C : Addr} {X : Cx} {O : Addr → Prop} {ρ : Env} {I : Asr} {x : Str} {pos : Pos} {f : Addr} (hm : X.mg x = some (.ref f)) (hg : Gl X x := by rfl) (hd : (x == ("__debug__" : Str)) = false := by decide) : GE C X O ρ I (.Name x pos) I (Is (.val (.ref f))) := ge_glob (v := .ref f) (u := .ref f) hm rfl hg hd
/-- the names' meanings -/
abbrev rrE (p : Addr) (x y : Rat) (a b : D) (wh call more odd zero : Option D) : Env := [some (.val (.ref p)), some (pair x), some (pair y), some b, wh, some a, call, more, odd, zero]
def zeroL : List D := [.int 0, .tup [.int 0, .int 1], .lst [.int 0, .int 5]]
theorem zero_wr : ∀ z ∈ zeroL, ∃ d, Wr z 0 d := by
  intro z hz
  simp only [zeroL, List.mem_cons, List.not_mem_nil, or_false] at hz
  rcases hz with rfl | rfl | rfl
  · exact ⟨1, wr_int 0⟩
  · exact ⟨1, wr_tup (by decide)⟩
  · exact ⟨5, wr_lst (by decide)⟩
theorem zero_sm : ∀ z ∈ zeroL, z.Sm := by
  intro d hd
  simp only [zeroL, List.mem_cons, List.not_mem_nil, or_false] at hd
  rcases hd with rfl | rfl | rfl <;> exact ⟨by decide +kernel, by decide +kernel, by decide +kernel, by decide +kernel⟩
theorem body_rr (g : Gs K mg C) (V : PgV P w K mg base k C) (E : PgX P w K mg base k C cb cr) (L : LwV P w K mg base k C) (N : LwN P w K mg base k C) (W : WhyE K mg base cb cr ci cu) (LG : LamG base mg T fd.code ((("_law_ratios_right" : Str) ++ ".<locals>.") ++ "<lambda>") Pt) :
    BodyT P w K mg base C T ["_law_pen_here", "_law_one", "_law_two", "_law_b", "_law_whole", "_law_a", "_law_call", "_law_more", "_law_odd", "_law_zero"] "_law_ratios_right" (top 66) f fd.code (k + 2) 64 := by
  intro A outer s H E0 hr hgd O H0 p M De hO hT hM S hrt
  have hr0 : Room k (A.deeper (envOfC "_law_ratios_right" (defScope (top 66)) s.heap.objs.size f fd.code)) := hr.mono (by omega)
  have hO' : owO O [] p := .inl hO
  have hOP : O Pt := hT _ LG.mem
  -- two ratios
  refine gq_parN (J := penQ C O H0 p (M + 16 + 16 + 8 + 1) T []) (Ψ := fun ds => ∃ x y, ds = [pair x, pair y] ∧ Hb 64 x ∧ Hb 64 y) 1 2 S rfl sc_rr.nd (EvA.liftQ fun H1 => ga_imp (ga_consn (J := penG (owO O []) H1 p (M + 16)) (Φ := fun z => ∃ q : Rat, z = pair q ∧ Hb 64 q) (Ψ := fun _ ds => ∃ d, ds = [d] ∧ ∃ q : Rat, d = pair q ∧ Hb 64 q) ?_ (fun d _ => ga_oneN ?_)) ?_) (fun ds h => ?_) (fun σ1 H1 d1 d2 hd S1 => ?_)
  · exact (ge_callN (N := M) (ds := []) (pre := fun ds => ds = []) (R := RsomeRatio) N.somer hr0 hO' (ga_one (ge_var 0)) rfl (by omega)).imp fun z h => h.2
  · refine Ev.imp (ge_callNn (N := M + 16 + 16 + 8) (m := 1) (Ψ := fun ds => ∃ a b : Rat, ds = [.lst [pair a, pair b]] ∧ Hb 64 a ∧ Hb 64 b) (pre := prePick) (R := Rpick) N.pick hr0 hO' (ga_imp (ga_consK (J := penG (owO O []) H1 p (M + 16)) (ge_var 0) (ga_oneN (ge_lstn (Ψ := fun ds => ∃ a b : Rat, ds = [pair a, pair b] ∧ Hb 64 a ∧ Hb 64 b) (ga_imp (ga_consn (J := penG (owO O []) H1 p (M + 16 + 16)) (Φ := fun z => ∃ q : Rat, z = pair q ∧ Hb 64 q) (Ψ := fun _ ds => ∃ d, ds = [d] ∧ ∃ q : Rat, d = pair q ∧ Hb 64 q) ?_ (fun d _ => ga_oneN ?_)) ?_) ?_))) ?_) ?_ (by omega)) ?_
    · exact (ge_callN (N := M + 16) (ds := []) (pre := fun ds => ds = []) (R := RsomeRatio) N.somer hr0 hO' (ga_one (ge_var 0)) rfl (by omega)).imp fun z h => h.2
    · refine Ev.imp (ge_callP (J := penG (owO O []) H1 p (M + 16 + 16 + 8)) (Ψ := fun ds => ∃ i : Int, i.natAbs < 10 ^ 18 ∧ ds = [.int i, .int 2]) L.q hr0 (ga_imp (ga_consn (J := penG (owO O []) H1 p (M + 16 + 16 + 8)) (Φ := fun z => ∃ i : Int, z = .int i ∧ i.natAbs < 10 ^ 18) (Ψ := fun _ ds => ∃ d, ds = [d] ∧ d = .int 2) ?_ (fun d _ => ga_oneN ge_int)) ?_) ?_) ?_
      · exact (ge_callN (N := M + 16 + 16) (ds := []) (pre := fun ds => ds = []) (R := Rfar) N.far hr0 hO' (ga_one (ge_var 0)) rfl (by omega)).imp fun z h => h.2
      · rintro ds ⟨d, ds', rfl, ⟨i, rfl, hi⟩, z, rfl, rfl⟩
        exact ⟨i, hi, rfl⟩
      · rintro ds ⟨i, hi, rfl⟩
        exact ⟨_, _, _, rfl, by omega, by decide, rfl⟩
      · rintro r ⟨ds, ⟨i, hi, rfl⟩, a', b', e, _, _, rfl⟩
        cases e
        exact ⟨_, rfl, Nat.lt_of_le_of_lt (rt_num_le (by omega)) (by omega), Nat.lt_of_le_of_lt (rt_den_le (by omega)) (by decide)⟩
    · rintro ds ⟨d, ds', rfl, ⟨a, rfl, ha⟩, z, rfl, b, rfl, hb⟩
      exact ⟨a, b, rfl, ha, hb⟩
    · rintro ds ⟨a, b, rfl, _⟩
      simp
    · rintro ds ⟨ds', rfl, z, rfl, es, rfl, a, b, rfl, ha, hb⟩
      exact ⟨_, rfl, a, b, rfl, ha, hb⟩
    · rintro ds ⟨a, b, rfl, _⟩
      exact ⟨_, _, rfl, rfl, by simp, by simp⟩
    · rintro r ⟨ds, ⟨a, b, rfl, ha, hb⟩, d, es, e1, e2, e3⟩
      cases e1
      cases e2
      simp only [List.mem_cons, List.not_mem_nil, or_false] at e3
      rcases e3 with rfl | rfl
      · exact ⟨a, rfl, ha⟩
      · exact ⟨b, rfl, hb⟩
  · rintro ds ⟨d, ds', rfl, ⟨x, rfl, hx⟩, z, rfl, y, rfl, hy⟩
    exact ⟨x, y, rfl, hx, hy⟩
  · obtain ⟨x, y, rfl, _⟩ := h
    exact ⟨_, _, rfl⟩
  obtain ⟨x, y0, e, hx, hy0⟩ := hd
  cases e
  -- the second one picked
  refine (gq_set (x := "_law_two") (J := penQ C O H0 p (M + 16 + 16 + 8 + 1 + 1) T []) (Φ := fun z => ∃ y, z = pair y ∧ Hb 64 y) 2 S1 ?nd2 ?h2 ?k2 ?hi2 ?hx2 ?hs2 ?hf2 : ssw _ _ _ _ _)
  case nd2 => exact sc_rr.nd
  case hi2 => rfl
  case hx2 => exact .inl rfl
  case hs2 => rfl
  case hf2 => exact .inl rfl
  case h2 =>
    refine Ev.liftQ fun H1 => Ev.imp (ge_callN (N := M + 16 + 16 + 8 + 1) (m := 1) (ds := [.lst [pair y0, pair y0, pair x, pair (-x)]]) (pre := prePick) (R := Rpick) N.pick hr0 hO' (ga_two (ge_var 0) (ge_lst (ga_cons (ge_var 2) (ga_cons (ge_var 2) (ga_two (ge_var 1) (ge_tup (ga_two (ge_neg (ge_ix (ge_var 1) ge_int rfl rfl)) (ge_ix (ge_var 1) ge_int rfl rfl)))))))) ⟨_, _, rfl, rfl, by simp, by simp⟩ (by omega)) ?_
    rintro r ⟨d, es, e1, e2, e3⟩
    cases e1
    cases e2
    simp only [List.mem_cons, List.not_mem_nil, or_false] at e3
    rcases e3 with rfl | rfl | rfl | rfl
    · exact ⟨y0, rfl, hy0⟩
    · exact ⟨y0, rfl, hy0⟩
    · exact ⟨x, rfl, hx⟩
    · exact ⟨-x, rfl, hb_neg hx⟩
  rintro σ2 H2 d2 ⟨y, rfl, hy⟩ S2
  -- how they are passed
  refine (gq_tupN (J := penQ C O H0 p (M + 16 + 16 + 8 + 1 + 1 + 3 + 3) T []) (Ψ := fun ds => ∃ a b, ds = [a, b] ∧ passedD x a ∧ passedD y b) (f := f2 5 3) (dom := two) (vs := [5, 3]) S2 ?T3 ?h3 ?d3 ?k3 ?s3 ?w3 ?a3 : ssw _ _ _ _ _)
  case T3 => exact tg_two (i := 5) (j := 3) rfl sc_rr.nd rfl (.inr rfl) rfl (.inl rfl) (by simp) (by simp)
  case s3 => rfl
  case w3 => rfl
  case a3 => rfl
  case d3 =>
    rintro ds ⟨a, b, rfl, _⟩
    exact ⟨by simp, a, b, rfl⟩
  case h3 =>
    refine EvA.liftQ fun H1 => ga_imp (ga_consn (J := penG (owO O []) H1 p (M + 16 + 16 + 8 + 1 + 1 + 3)) (Φ := fun z => passedD x z) (Ψ := fun _ ds => ∃ d, ds = [d] ∧ passedD y d) ?_ (fun d _ => ga_oneN ?_)) ?_
    · refine (ge_callN (N := M + 16 + 16 + 8 + 1 + 1) (ds := [pair x]) (pre := prePassed) (R := Rpassed) N.passed hr0 hO' (ga_two (ge_var 0) (ge_var 1)) ⟨x, rfl, hx.mono (by decide)⟩ (by omega)).imp ?_
      rintro z ⟨q, e, h⟩
      have : x = q := pair_inj (List.cons.inj e).1
      rw [this]
      exact h
    · refine (ge_callN (N := M + 16 + 16 + 8 + 1 + 1 + 3) (ds := [pair y]) (pre := prePassed) (R := Rpassed) N.passed hr0 hO' (ga_two (ge_var 0) (ge_var 2)) ⟨y, rfl, hy.mono (by decide)⟩ (by omega)).imp ?_
      rintro z ⟨q, e, h⟩
      have : y = q := pair_inj (List.cons.inj e).1
      rw [this]
      exact h
    · rintro ds ⟨a, ds', rfl, ha, b, rfl, hb⟩
      exact ⟨a, b, rfl, ha, hb⟩
  rintro σ3 H3 ds ⟨a, b, rfl, pa, pb⟩ S3
  obtain ⟨N1, hN1⟩ : ∃ N1, N1 = M + 16 + 16 + 8 + 1 + 1 + 3 + 3 := ⟨_, rfl⟩
  rw [← hN1] at S3
  obtain ⟨a1, a2, pa⟩ := pa_ok pa (hx.mono (by decide))
  obtain ⟨b1, b2, pb⟩ := pa_ok pb (hy.mono (by decide))
  replace S3 : Stt C (owO O []) H0 H3 σ3 (rrE p x y a b none none none none none) (penQ C O H0 p N1 T []) := S3
  have hx4 : Hb 4490 x := hx.mono (by decide)
  have hy4 : Hb 4490 y := hy.mono (by decide)
  -- told, plus, minus
  refine (gq_no (J := penQ C O H0 p N1 T []) S3 ?c4 ?k4 : ssw _ _ _ _ _)
  case c4 =>
    have hd : (D.tup [pair x, pair (x + y), pair (x - y)]).RpOk := (row_sw (ds := [pair x, pair (x + y), pair (x - y)]) (fun d hd => by
      simp only [List.mem_cons, List.not_mem_nil, or_false] at hd
      rcases hd with rfl | rfl | rfl
      · exact sm_pair hx (by decide)
      · exact sm_pair (hb_add hx hy) (by decide)
      · exact sm_pair (hb_sub hx hy) (by decide)) (by simp)).2.ok
    refine gt_imp (gt_neS (ge_repr W.s hgd hr0 (g.f "repr") (ge_tup (ga_cons (ge_call V.told hr0 (ga_two (ge_var 5) ge_str) ⟨a, _, a1, a2, rfl, pa.wr, (pa.lg (by decide)).2, rfl⟩) (ga_two (ge_call V.plus hr0 (ga_two (ge_var 5) (ge_var 3)) ⟨a, b, a1, a2, b1, b2, rfl, pa.wr, pb.wr, pa.b4, pb.b4, rfl⟩) (ge_call V.minus hr0 (ga_two (ge_var 5) (ge_var 3)) ⟨a, b, a1, a2, b1, b2, rfl, pa.wr, pb.wr, pa.b4, pb.b4, rfl⟩)))) ?_)
      (ge_repr W.s hgd hr0 (g.f "repr") (ge_tup (ga_cons (ge_var 1) (ga_two (ge_call L.plus hr0 (ga_two (ge_var 1) (ge_var 2)) ⟨x, y, rfl, hx4, hy4, rfl⟩) (ge_call L.minus hr0 (ga_two (ge_var 1) (ge_var 2)) ⟨x, y, rfl, hx4, hy4, rfl⟩)))) hd)) ?_
    · rw [pa.rt, pb.rt]
      exact hd
    · rw [pa.rt, pb.rt]
      simp
  intro H4 S4
  refine (gq_no (J := penQ C O H0 p N1 T []) S4 ?c5 ?k5 : ssw _ _ _ _ _)
  case c5 =>
    have hd : (pair (x * y)).RpOk := (sm_sw (sm_pair (hb_mul hx hy) (by decide))).ok
    refine gt_imp (gt_neS (ge_repr W.s hgd hr0 (g.f "repr") (ge_call V.times hr0 (ga_two (ge_var 5) (ge_var 3)) ⟨a, b, a1, a2, b1, b2, rfl, pa.wr, pb.wr, pa.b4, pb.b4, rfl⟩) ?_) (ge_repr W.s hgd hr0 (g.f "repr") (ge_call L.times hr0 (ga_two (ge_var 1) (ge_var 2)) (lt_pair hx4 hy4)) hd)) ?_
    · rw [pa.rt, pb.rt]
      exact hd
    · rw [pa.rt, pb.rt]
      simp
  intro H5 S5
  refine (gq_no (J := penQ C O H0 p N1 T []) S5 ?c6 ?k6 : ssw _ _ _ _ _)
  case c6 =>
    refine gt_imp (gt_and (k1 := !decide (y.num = 0)) (k2 := false) (gt_neI (ge_ix (ge_var 2) ge_int rfl rfl) ge_int) (fun hz => ?_)) (by simp)
    have hy0 : y ≠ 0 := fun e => by
      rw [e] at hz
      cases hz
    have hb1 : b1 ≠ 0 := fun e => hy0 (by rw [← pb.rt, e]; exact Rat.zero_divInt _)
    have hd : (pair (x / y)).RpOk := (sm_sw (sm_pair (hb_divq hx hy hy0) (by decide))).ok
    refine gt_imp (gt_neS (ge_repr W.s hgd hr0 (g.f "repr") (ge_call V.share hr0 (ga_two (ge_var 5) (ge_var 3)) ⟨a, b, a1, a2, b1, b2, rfl, pa.wr, pb.wr, pa.b4, pb.b4, hb1, rfl⟩) ?_) (ge_repr W.s hgd hr0 (g.f "repr") (ge_call L.share hr0 (ga_two (ge_var 1) (ge_var 2)) ⟨x, y, rfl, hx4, hy4, hy0, rfl⟩) hd)) ?_
    · rw [pa.rt, pb.rt]
      exact hd
    · rw [pa.rt, pb.rt]
      simp
  intro H6 S6
  -- the floor
  refine (gq_set (x := "_law_whole") (J := penQ C O H0 p N1 T []) (Φ := Is (.int (b1 / b2))) 4 S6 ?nd7 ?h7 ?k7 ?hi7 ?hx7 ?hs7 ?hf7 : ssw _ _ _ _ _)
  case nd7 => exact sc_rr.nd
  case hi7 => rfl
  case hx7 => exact .inl rfl
  case hs7 => rfl
  case hf7 => exact .inl rfl
  case h7 => exact ge_call V.floor hr0 (ga_one (ge_var 3)) ⟨b, b1, b2, rfl, pb.wr, (pb.lg (by decide)).2, rfl⟩
  rintro σ7 H7 d7 rfl S7
  replace S7 : Stt C (owO O []) H0 H7 σ7 (rrE p x y a b (some (.int (b1 / b2))) none none none none) (penQ C O H0 p N1 T []) := S7
  have hwh : (b1 / b2).natAbs < 2 ^ 68 := Nat.lt_of_le_of_lt (Int.natAbs_ediv_le_natAbs _ _) pb.n
  have hyd : (y.den : Int).natAbs.log2 < 100 := by
    rw [Int.natAbs_natCast]
    exact Nat.lt_trans (log_lt hy.2 (by decide)) (by decide)
  refine (gq_no (J := penQ C O H0 p N1 T []) S7 ?c8 ?k8 : ssw _ _ _ _ _)
  case c8 =>
    obtain ⟨f1, f2⟩ := floor_ok pb
    refine gt_imp (gt_or (k1 := !true) (k2 := !(decide (b1 / b2 * y.den ≤ y.num) && decide (y.num < (b1 / b2 + 1) * y.den))) (gt_not (gt_val (ge_call L.whole hr0 (ga_one (ge_var 4)) ⟨_, rfl, rfl⟩))) (fun _ => gt_not (gt_leLt (ge_mul (ge_var 4) (ge_ix (ge_var 2) ge_int rfl rfl) ?_) (ge_ix (ge_var 2) ge_int rfl rfl) (ge_mul (ge_add (ge_var 4) ge_int) (ge_ix (ge_var 2) ge_int rfl rfl) ?_)))) ?_
    · show (b1 / b2).natAbs.log2 + (y.den : Int).natAbs.log2 < 1000000
      have := log_lt hwh (by decide)
      omega
    · show (b1 / b2 + 1).natAbs.log2 + (y.den : Int).natAbs.log2 < 1000000
      have : (b1 / b2 + 1).natAbs < 2 ^ 69 := by omega
      have := log_lt this (by decide)
      omega
    · rw [decide_eq_true f1, decide_eq_true f2]
      rfl
  intro H8 S8
  -- the text
  refine (gq_no (J := penQ C O H0 p N1 T []) S8 ?c9 ?k9 : ssw _ _ _ _ _)
  case c9 =>
    have hn := hb_smI hy (by decide)
    have l1 := int_text_len_1921 hn.1
    have l2 := int_text_len_1921 hn.2
    have e0 : ((("/" : String) : Str)).length = 1 := by decide
    have e1 : ((("" : String) : Str)).length = 0 := by decide
    refine gt_imp (gt_neS (s := txtQ (rt b1 b2)) (t := Str.ofString (toString y.num) ++ (if y.den = 1 then ("" : Str) else "/" ++ Str.ofString (toString (y.den : Int)))) (ge_call V.text hr0 (ga_one (ge_var 3)) ⟨b, b1, b2, rfl, pb.wr, (pb.lg (by decide)).1, (pb.lg (by decide)).2, rfl⟩)
      (ge_catS (ge_strOf (g.f "str") (ge_ix (ge_var 2) ge_int rfl rfl) hn.1) (ge_if (k := decide ((y.den : Int) = 1)) (gt_eqI (ge_ix (ge_var 2) ge_int rfl rfl) ge_int) (fun z => ge_str.is ?_) (fun z => (ge_catS ge_str (ge_strOf (g.f "str") (ge_ix (ge_var 2) ge_int rfl rfl) hn.2) (by rw [e0]; omega)).is ?_)) ?_)) ?_
    · rw [if_pos (by have := of_decide_eq_true z; omega)]
    · rw [if_neg (by have := of_decide_eq_false z; omega)]
    · by_cases h : y.den = 1
      · rw [if_pos h, e1]
        omega
      · rw [if_neg h, len_app, e0]
        omega
    · rw [pb.rt]
      unfold txtQ
      by_cases h : y.den = 1
      · rw [if_pos h, if_pos h]
        have e : (("" : String) : Str) = Str.empty := by decide
        rw [e, Str.append_empty]
        simp
      · rw [if_neg h, if_neg h, Str.append_assoc]
        simp
  intro H9 S9
  -- lower, is_ratio
  refine (gq_no (J := penQ C O H0 p N1 T []) S9 ?c10 ?k10 : ssw _ _ _ _ _)
  case c10 =>
    refine gt_imp (gt_or (k1 := !decide (decide (a1 * b2 < b1 * a2) = decide (x.num * y.den < y.num * x.den))) (k2 := !decide (isRat a = true)) (gt_not (gt_val (ge_call L.is_ hr0 (ga_two (ge_call V.lower hr0 (ga_two (ge_var 5) (ge_var 3)) ⟨a, b, a1, a2, b1, b2, rfl, pa.wr, pb.wr, pa.b4, pb.b4, rfl⟩) (ge_call L.less hr0 (ga_two (ge_var 1) (ge_var 2)) ⟨x, y, rfl, hx4, hy4, rfl⟩)) ⟨_, _, rfl, rfl⟩)))
      (fun _ => gt_not (gt_val (ge_call L.is_ hr0 (ga_two (ge_call V.isr hr0 (ga_one (ge_var 5)) ⟨a, rfl, pa.wr.dat, rfl⟩) ge_bl) ⟨_, _, rfl, rfl⟩)))) ?_
    rw [lower_ok pa pb, pa.wr.rat]
    simp
  intro H10 S10
  -- what is no ratio
  refine (gq_tupN (J := penQ C O H0 p (N1 + 1 + 1 + 1) T []) (Ψ := fun ds => ∃ o m z, ds = [o, m, z] ∧ o ∈ anyL ∧ m ∈ anyL ∧ z ∈ zeroL) (f := f3 8 7 9) (dom := three) (vs := [8, 7, 9]) S10 ?T11 ?h11 ?d11 ?k11 ?s11 ?w11 ?a11 : ssw _ _ _ _ _)
  case T11 => exact tg_three (i := 8) (j := 7) (l := 9) rfl sc_rr.nd rfl (.inr rfl) rfl (.inr rfl) rfl (.inr rfl) (by simp) (by simp) (by simp)
  case s11 => rfl
  case w11 => rfl
  case a11 => rfl
  case d11 =>
    rintro ds ⟨o, m, z, rfl, _⟩
    exact ⟨by simp, o, m, z, rfl⟩
  case h11 =>
    refine EvA.liftQ fun H1 => ga_imp (ga_consn (J := penG (owO O []) H1 p (N1 + 1)) (Φ := fun z => z ∈ anyL) (Ψ := fun _ ds => ∃ d ds', ds = d :: ds' ∧ d ∈ anyL ∧ ∃ d2, ds' = [d2] ∧ d2 ∈ zeroL) ?_ (fun d _ => ga_consn (J := penG (owO O []) H1 p (N1 + 1 + 1)) (Φ := fun z => z ∈ anyL) (Ψ := fun _ ds => ∃ d2, ds = [d2] ∧ d2 ∈ zeroL) ?_ (fun d _ => ga_oneN ?_))) ?_
    · exact (ge_callN (N := N1) (ds := []) (pre := fun ds => ds = []) (R := Rany) N.any hr0 hO' (ga_one (ge_var 0)) rfl (by omega)).imp fun z h => h.2
    · exact (ge_callN (N := N1 + 1) (ds := []) (pre := fun ds => ds = []) (R := Rany) N.any hr0 hO' (ga_one (ge_var 0)) rfl (by omega)).imp fun z h => h.2
    · refine Ev.imp (ge_callN (N := N1 + 1 + 1) (m := 1) (ds := [.lst zeroL]) (pre := prePick) (R := Rpick) N.pick hr0 hO' (ga_two (ge_var 0) (ge_lst (ga_cons ge_int (ga_two (ge_tup (ga_two ge_int ge_int)) (ge_lst (ga_two ge_int ge_int)))))) ⟨_, _, rfl, rfl, by simp [zeroL], by simp [zeroL]⟩ (by omega)) ?_
      rintro r ⟨d, es, e1, e2, e3⟩
      cases e1
      cases e2
      exact e3
    · rintro ds ⟨o, ds', rfl, ho, m, ds2, rfl, hm, z, rfl, hz⟩
      exact ⟨o, m, z, rfl, ho, hm, hz⟩
  rintro σ11 H11 ds ⟨odd, more, zero, rfl, ho, hm, hz⟩ S11
  obtain ⟨N2, hN2⟩ : ∃ N2, N2 = N1 + 1 + 1 + 1 := ⟨_, rfl⟩
  rw [← hN2] at S11
  replace S11 : Stt C (owO O []) H0 H11 σ11 (rrE p x y a b (some (.int (b1 / b2))) none (some more) (some odd) (some zero)) (penQ C O H0 p N2 T []) := S11
  have bo := any_bad odd ho
  have bm := any_bad more hm
  have so := sm_sw (any_sm odd ho)
  have sm := sm_sw (any_sm more hm)
  have sz := sm_sw (zero_sm zero hz)
  obtain ⟨zd, wz⟩ := zero_wr zero hz
  have kn : PyData.strOk (("number" : String) : Str) = true := by decide +kernel
  have kr : PyData.strOk (("ratio" : String) : Str) = true := by decide +kernel
  have kp : PyData.strOk (("price" : String) : Str) = true := by decide +kernel
  have kd : PyData.strOk (("divisor" : String) : Str) = true := by decide +kernel
  refine (gq_no (J := penQ C O H0 p N2 T []) S11 ?c12 ?k12 : ssw _ _ _ _ _)
  case c12 =>
    refine gt_imp (gt_or (k1 := !decide (isRat odd = false)) (k2 := !(D.tup [.str "number", .str "price", .str odd.shw]).eqv (.tup [.str "number", .str "price", .str odd.shw])) (gt_not (gt_val (ge_call L.is_ hr0 (ga_two (ge_call V.isr hr0 (ga_one (ge_var 8)) ⟨odd, rfl, bo.1, rfl⟩) ge_bl) ⟨_, _, rfl, rfl⟩)))
      (fun _ => gt_neD hr0 (ge_whyQ W hgd hr LG hOP (.num (wd := "price") so.ok) fun A1 o1 s1 H1 E1 f1 c1 hr1 => ?_) (ge_tup (ga_cons ge_str (ga_two ge_str (ge_repr W.s hgd hr0 (g.f "repr") (ge_var 8) so.ok)))) (fit3 kn kp so.st) (fit3 kn kp so.st))) ?_
    · exact gx_call E.told hr1 (ga_two (ge_var 8) ge_str) ⟨odd, "price", rfl, bo, rfl, rfl⟩
    · rw [eqv3, bo.2]
      rfl
  intro H12 S12
  -- two arguments
  obtain ⟨f1, fd1, ps1, ok1, m1, kp1, bn1⟩ := E.plus.ex
  obtain ⟨f2, fd2, ps2, ok2, m2, kp2, bn2⟩ := E.minus.ex
  obtain ⟨f3, fd3, ps3, ok3, m3, kp3, bn3⟩ := E.times.ex
  obtain ⟨f4, fd4, ps4, ok4, m4, kp4, bn4⟩ := E.share.ex
  obtain ⟨f5, fd5, ps5, ok5, m5, kp5, bn5⟩ := E.lower.ex
  have five : ∀ i, i < 5 → ∃ fi fdi ps, [D.val (.ref f1), D.val (.ref f2), D.val (.ref f3), D.val (.ref f4), D.val (.ref f5)].getD i .non = .val (.ref fi) ∧ FnOk P w K mg base (L2.CX P w) k fi fdi ps (spX C (RbinX cb)) ∧ PySem.W.keepIn K (.ref fi) = true ∧ Binds K fdi ps [] := fun i hi =>
    match i, hi with
    | 0, _ => ⟨f1, fd1, ps1, rfl, ok1, kp1, bn1⟩
    | 1, _ => ⟨f2, fd2, ps2, rfl, ok2, kp2, bn2⟩
    | 2, _ => ⟨f3, fd3, ps3, rfl, ok3, kp3, bn3⟩
    | 3, _ => ⟨f4, fd4, ps4, rfl, ok4, kp4, bn4⟩
    | 4, _ => ⟨f5, fd5, ps5, rfl, ok5, kp5, bn5⟩
  refine (gq_for (n := 5) (J := penQ C O H0 p N2 T []) (y := fun i => [D.val (.ref f1), D.val (.ref f2), D.val (.ref f3), D.val (.ref f4), D.val (.ref f5)].getD i .non) (vs := [6]) (f := TM.f1 6) (dom := fun _ => True) S12 ?hp13 ?hc13 ?G13 ?T13 (fun _ _ => trivial) (fun i ρ I => I = penQ C O H0 p N2 T [] ∧ ∃ c, ρ = rrE p x y a b (some (.int (b1 / b2))) c (some more) (some odd) (some zero)) ⟨rfl, none, rfl⟩ ?st13 ?en13 ?fs13 : ssw _ _ _ _ _)
  case fs13 => intro _; rfl
  case hp13 => exact PassesOwn.never
  case hc13 => rfl
  case G13 => exact gi_list (ge_lst (ga_cons (ge_globF m1) (ga_cons (ge_globF m2) (ga_cons (ge_globF m3) (ga_two (ge_globF m4) (ge_globF m5))))))
  case T13 => exact tg_name (i := 6) sc_rr.nd rfl (.inr rfl) (by simp)
  case st13 =>
    rintro H1 e1 i ρ' I' σ' H' hi ⟨rfl, c, rfl⟩ S13
    obtain ⟨fi, fdi, psi, ei, oki, kpi, bni⟩ := five i hi
    rw [ei] at S13
    replace S13 : Stt C (owO O []) H1 H' σ' (rrE p x y a b (some (.int (b1 / b2))) (some (.val (.ref fi))) (some more) (some odd) (some zero)) (penQ C O H0 p N2 T []) := S13
    refine (gq_no (J := penQ C O H0 p N2 T []) S13 ?c14 ?k14 : ssw _ _ _ _ _)
    case c14 =>
      refine gt_imp (gt_neD hr0 (ge_whyQ W hgd hr LG hOP (.num (wd := "ratio") so.ok) fun A1 o1 s1 H1 E1 f1 c1 hr1 => ?_) (ge_tup (ga_cons ge_str (ga_two ge_str (ge_repr W.s hgd hr0 (g.f "repr") (ge_var 8) so.ok)))) (fit3 kn kr so.st) (fit3 kn kr so.st)) (by rw [eqv3]; rfl)
      exact gx_callL 6 oki kpi bni hr1 (ga_two (ge_var 8) (ge_var 7)) ⟨odd, more, rfl, rfl, .inl ⟨bo, rfl⟩⟩
    intro H14 S14
    refine (gq_no (J := penQ C O H0 p N2 T []) S14 ?c15 ?k15 : ssw _ _ _ _ _)
    case c15 =>
      refine gt_imp (gt_neD hr0 (ge_whyQ W hgd hr LG hOP (.num (wd := "ratio") sm.ok) fun A1 o1 s1 H1 E1 f1 c1 hr1 => ?_) (ge_tup (ga_cons ge_str (ga_two ge_str (ge_repr W.s hgd hr0 (g.f "repr") (ge_var 7) sm.ok)))) (fit3 kn kr sm.st) (fit3 kn kr sm.st)) (by rw [eqv3]; rfl)
      exact gx_callL 6 oki kpi bni hr1 (ga_two (ge_var 5) (ge_var 7)) ⟨a, more, rfl, rfl, .inr ⟨⟨_, _, pa.wr⟩, bm, rfl⟩⟩
    intro H15 S15
    exact gq_nil ⟨_, _, ⟨rfl, _, rfl⟩, S15⟩
  rintro ρ' I' σ16 H16 ⟨rfl, c16, rfl⟩ S16
  -- one argument
  obtain ⟨g1, gd1, qs1, gk1, gm1, gp1, gb1⟩ := E.floor.ex
  obtain ⟨g2, gd2, qs2, gk2, gm2, gp2, gb2⟩ := E.text.ex
  have twoF : ∀ i, i < 2 → ∃ fi fdi ps, [D.val (.ref g1), D.val (.ref g2)].getD i .non = .val (.ref fi) ∧ FnOk P w K mg base (L2.CX P w) k fi fdi ps (spX C (RpartsX cb)) ∧ PySem.W.keepIn K (.ref fi) = true ∧ Binds K fdi ps [] := fun i hi =>
    match i, hi with
    | 0, _ => ⟨g1, gd1, qs1, rfl, gk1, gp1, gb1⟩
    | 1, _ => ⟨g2, gd2, qs2, rfl, gk2, gp2, gb2⟩
  refine (gq_for (n := 2) (J := penQ C O H0 p N2 T []) (y := fun i => [D.val (.ref g1), D.val (.ref g2)].getD i .non) (vs := [6]) (f := TM.f1 6) (dom := fun _ => True) S16 ?hp17 ?hc17 ?G17 ?T17 (fun _ _ => trivial) (fun i ρ I => I = penQ C O H0 p N2 T [] ∧ ∃ c, ρ = rrE p x y a b (some (.int (b1 / b2))) c (some more) (some odd) (some zero)) ⟨rfl, _, rfl⟩ ?st17 ?en17 ?fs17 : ssw _ _ _ _ _)
  case fs17 => intro _; rfl
  case hp17 => exact PassesOwn.never
  case hc17 => rfl
  case G17 => exact gi_list (ge_lst (ga_two (ge_globF gm1) (ge_globF gm2)))
  case T17 => exact tg_name (i := 6) sc_rr.nd rfl (.inr rfl) (by simp)
  case st17 =>
    rintro H1 e1 i ρ' I' σ' H' hi ⟨rfl, c, rfl⟩ S17
    obtain ⟨fi, fdi, psi, ei, oki, kpi, bni⟩ := twoF i hi
    rw [ei] at S17
    replace S17 : Stt C (owO O []) H1 H' σ' (rrE p x y a b (some (.int (b1 / b2))) (some (.val (.ref fi))) (some more) (some odd) (some zero)) (penQ C O H0 p N2 T []) := S17
    refine (gq_no (J := penQ C O H0 p N2 T []) S17 ?c18 ?k18 : ssw _ _ _ _ _)
    case c18 =>
      refine gt_imp (gt_neD hr0 (ge_whyQ W hgd hr LG hOP (.num (wd := "ratio") so.ok) fun A1 o1 s1 H1 E1 f1 c1 hr1 => ?_) (ge_tup (ga_cons ge_str (ga_two ge_str (ge_repr W.s hgd hr0 (g.f "repr") (ge_var 8) so.ok)))) (fit3 kn kr so.st) (fit3 kn kr so.st)) (by rw [eqv3]; rfl)
      exact gx_callL 6 oki kpi bni hr1 (ga_one (ge_var 8)) ⟨odd, rfl, bo, rfl, rfl⟩
    intro H18 S18
    exact gq_nil ⟨_, _, ⟨rfl, _, rfl⟩, S18⟩
  rintro ρ' I' σ19 H19 ⟨rfl, c19, rfl⟩ S19
  -- a share of nothing
  refine (gq_no (J := penQ C O H0 p N2 T []) S19 ?c20 ?k20 : ssw _ _ _ _ _)
  case c20 =>
    refine gt_imp (gt_neD hr0 (ge_whyQ W hgd hr LG hOP (.num (wd := "ratio") so.ok) fun A1 o1 s1 H1 E1 f1 c1 hr1 => ?_) (ge_tup (ga_cons ge_str (ga_two ge_str (ge_repr W.s hgd hr0 (g.f "repr") (ge_var 8) so.ok)))) (fit3 kn kr so.st) (fit3 kn kr so.st)) (by rw [eqv3]; rfl)
    exact gx_call E.share hr1 (ga_two (ge_var 8) (ge_var 9)) ⟨odd, zero, rfl, rfl, .inl ⟨bo, rfl⟩⟩
  intro H20 S20
  refine (gq_retT (J := penQ C O H0 p N2 T []) S20 hrt ?h21 fun H h => penQ_mono (by omega) h : ssw _ _ _ _ _)
  case h21 =>
    refine (ge_eqD hr0 (ge_whyQ W hgd hr LG hOP (.num (wd := "divisor") sz.ok) fun A1 o1 s1 H1 E1 f1 c1 hr1 => ?_) (ge_tup (ga_cons ge_str (ga_two ge_str (ge_repr W.s hgd hr0 (g.f "repr") (ge_var 9) sz.ok)))) (fit3 kn kd sz.st) (fit3 kn kd sz.st)).is (by rw [eqv3])
    exact gx_call E.share0 hr1 (ga_two (ge_var 5) (ge_var 9)) ⟨a, zero, a1, a2, zd, rfl, rfl, pa.wr, wz, rfl⟩
theorem fn_rr (g : Gs K mg C) (V : PgV P w K mg base k C) (E : PgX P w K mg base k C cb cr) (L : LwV P w K mg base k C) (N : LwN P w K mg base k C) (W : WhyE K mg base cb cr ci cu) (F : FnP K "_law_ratios_right" "_law_ratios_right" (top 66) f fd) (hm : mg "_law_ratios_right" = some (.ref f)) (LG : LamG base mg T fd.code ((("_law_ratios_right" : Str) ++ ".<locals>.") ++ "<lambda>") Pt) :
    FnT P w K mg base (k + 3) C T "_law_ratios_right" 64 := fn_T F hm sc_rr (F.bindsN fun _ _ _ _ _ _ us hl => match us, hl with | [_], _ => rfl) (body_rr g V E L N W LG)
end
end TM
/-! ## TmOwn2 -/
set_option Elab.async false
set_option linter.all false
set_option maxRecDepth 100000
set_option maxHeartbeats 4000000
set_option exponentiation.threshold 100000
/-! TmOwn2: one own list beside the pen. -/
namespace TM
open PySem L2 PySem.Spec PyProof.Rows
theorem own1 {O : Addr → Prop} {q : Addr} (ds : List D) : (fun a => owO O [] a ∨ a = q) = owO O [(q, ds)] := by
  funext a
  apply propext
  simp [owO]
theorem own1_sub {O : Addr → Prop} {q : Addr} {ds : List D} : ∀ a, owO O [] a → owO O [(q, ds)] a := fun a h => h.elim .inl fun z => nomatch z
theorem own1_q {O : Addr → Prop} {q : Addr} {ds : List D} : owO O [(q, ds)] q := .inr (by simp)
theorem own1_or {O : Addr → Prop} {q : Addr} {ds : List D} : ∀ a, owO O [(q, ds)] a → owO O [] a ∨ a = q := fun a h => h.elim (fun z => .inl (.inl z)) fun z => .inr (by simpa using z)
section
variable {C : Addr} {X : Cx} {O : Addr → Prop} {ρ : Env} {H0 B H : Hp} {σ : L2.St} {p q : Addr} {N M : Nat} {T : Tb} {ds ds' : List D} {xs xs' : List V} {I J : Asr}
/-- the own list is changed -/
theorem penQ_put (nO : ¬ O q) (i : (penQ C O H0 p N T [(q, ds)]).P H) (t : DnAll C (owO O [(q, ds)]) H xs' ds') : (penQ C O H0 p N T [(q, ds')]).P (upd H q (.lst xs')) := by
  obtain ⟨⟨s, s1, s0, s2, s3⟩, tb, own, fr⟩ := i
  obtain ⟨xs, hq, _⟩ := own (q, ds) (by simp)
  have ne : ∀ {b : Addr} {o : HO}, H b = some o → o ≠ .lst xs → b ≠ q := fun {b o} h1 h2 z => by
    rw [z, hq] at h1
    exact h2 (Option.some.inj h1).symm
  have csq : s.cs ≠ q := fun z => s0 (by rw [z]; exact own1_q)
  have ex : Ext (owO O [(q, ds)]) H (upd H q (.lst xs')) := fun b o nb hb => by
    rw [upd_ne (fun z => nb (by rw [z]; exact own1_q))]
    exact hb
  refine ⟨⟨s, s1, s0, by rw [upd_ne (ne s2 (by intro z; cases z))]; exact s2, by rw [upd_ne csq]; exact s3⟩, fun u hu => ?_, fun x hx => ?_, fun a o h1 h2 h3 h4 => ?_⟩
  · obtain ⟨ps, h1, h2, h3⟩ := tb u hu
    refine ⟨ps, by rw [upd_ne (ne h1 (by intro z; cases z))]; exact h1, h2, fun pos cv hc => ?_⟩
    obtain ⟨c, e1, e2⟩ := h3 pos cv hc
    exact ⟨c, e1, by rw [upd_ne (ne e2 (by unfold LamX.CodeO; intro z; cases z))]; exact e2⟩
  · have e : x = (q, ds') := by simpa using hx
    rw [e]
    exact ⟨xs', upd_same, t.ext ex⟩
  · rw [upd_ne (fun z => nO (by rw [← z]; exact h1))]
    exact fr a o h1 h2 h3 h4
theorem stt_put (nO : ¬ O q) (S : Stt C (owO O [(q, ds)]) B H σ ρ (penQ C O H0 p N T [(q, ds)])) (t : DnAll C (owO O [(q, ds)]) H xs' ds') : Stt C (owO O [(q, ds')]) B (upd H q (.lst xs')) σ ρ (penQ C O H0 p N T [(q, ds')]) := by
  have ex : Ext (owO O [(q, ds)]) H (upd H q (.lst xs')) := fun b o nb hb => by
    rw [upd_ne (fun z => nb (by rw [z]; exact own1_q))]
    exact hb
  refine ⟨fun a ha => ?_, S.den.ext ex, penQ_put nO S.asr t, S.ext.trans ex⟩
  by_cases hb : a = q
  · rw [hb, upd_same]
    exact fun z => nomatch z
  · rw [upd_ne hb]
    exact S.wf a ha
/-- the list is owned no more -/
theorem unownQ (i : Nat) (S : Stt C (owO O [(q, ds)]) B H σ ρ (penQ C O H0 p N T [(q, ds)])) (nO : ¬ O q) (hB : B q = none) (hi : ρ[i]? = some (some (.val (.ref q)))) : Stt C (owO O []) B H σ (ρ.set i (some (.lst ds))) (penQ C O H0 p N T []) := by
  have S1 : Stt C (owO O []) B H σ ρ (penQ C O H0 p N T []) := by
    refine ⟨fun a h => S.wf a (own1_sub a h), S.den.go Ext.refl fun a na _ z => na (own1_sub a z), ⟨let ⟨s, s1, s0, s2, s3⟩ := S.asr.1; ⟨s, s1, fun z => s0 (own1_sub _ z), s2, s3⟩, S.asr.2.1, fun x hx => (nomatch hx), S.asr.2.2.2⟩, fun b o nb hb => S.ext b o (fun z => ?_) hb⟩
    rcases own1_or b z with z | z
    · exact nb z
    · rw [z, hB] at hb
      cases hb
  obtain ⟨xs, h1, h2⟩ := S.asr.2.2.1 (q, ds) (by simp)
  exact S1.reset i hi (.lst (fun z => z.elim nO fun z => nomatch z) h1 (h2.less fun a z => own1_sub a z))
/-- a new own list -/
theorem penQ_new (S : Stt C (owO O []) B H σ ρ (penQ C O H0 p N T [])) (hq : H q = none) (t : DnAll C (owO O []) H xs ds) : ¬ O q ∧ B q = none ∧ Stt C (owO O [(q, ds)]) B (upd H q (.lst xs)) σ ρ (penQ C O H0 p N T [(q, ds)]) := by
  have sm := same_new (o := .lst xs) hq
  have nO : ¬ owO O [] q := fun z => S.wf q z hq
  have hn : ∀ a, ¬ owO O [] a → H a ≠ none → ¬ owO O [(q, ds)] a := fun a na ha z => (own1_or a z).elim na fun e => ha (by rw [e]; exact hq)
  refine ⟨fun z => nO (.inl z), new_ext S.wf S.ext hq, fun a ha => ?_, S.den.go (Ext.of sm) hn, ?_, fun b o nb hb => sm b o (S.ext b o (fun z => nb (own1_sub b z)) hb)⟩
  · rcases own1_or a ha with h | h
    · exact (S.wf.same sm) a h
    · rw [h, upd_same]
      exact fun z => nomatch z
  · obtain ⟨⟨s, s1, s0, s2, s3⟩, tb, own, fr⟩ := S.asr
    refine ⟨⟨s, s1, fun z => (own1_or _ z).elim s0 fun e => (by rw [e, hq] at s3; cases s3), sm _ _ s2, sm _ _ s3⟩, tb.ext sm, fun x hx => ?_, fun a o h1 h2 h3 h4 => sm _ _ (fr a o h1 h2 h3 h4)⟩
    have e : x = (q, ds) := by simpa using hx
    rw [e]
    exact ⟨xs, upd_same, t.go (Ext.of sm) hn⟩
end
section
variable {C : Addr} {X : Cx} {O : Addr → Prop} {ρ : Env} {H0 B H : Hp} {σ : L2.St} {De : Ends} {rest : List Stmt} {p q : Addr} {N M m k : Nat} {T : Tb} {ds zs : List D} {I J : Asr} {a b e : Expr} {es : List Expr} {pos p2 pc : Pos} {x : Str} {pre : List D → Prop} {R : List D → D → Prop} {d : D} {Φ : D → Prop} {qs : Ql}
/-- f(pen, ..), beside own lists -/
theorem ge_callQ (F : FnN X.prog X.w X.K X.mg X.base k C x m pre R) (hr : Room k X.A) (hO : O p) (ha : GA C X (owO O qs) ρ I (e :: es) (penQ C O H0 p N T qs) (· = .val (.ref p) :: ds)) (hp : pre ds) (hN : N + m ≤ 2 ^ 40) (hg : Gl X x := by rfl)
    (hdb : (x == ("__debug__" : Str)) = false := by decide) (he : starEach (e :: es) X.env = (false, eval e X.env) :: starEach es X.env := by rfl) (hpl : (backTo pos (starEach es X.env)).any (·.1) = false := by rfl) :
    GE C X (owO O qs) ρ I (.Call (.Name x p2) (e :: es) [] pos) (penQ C O H0 p (N + m) T qs) (R ds) := by
  obtain ⟨f, fd, ps, ok, hm, hk, hb⟩ := F.ex
  refine ge_of (pe_call ok hr hg hm hk hb .nil pass0 pa_tw hdb he hpl) fun σ H Q w dn i kk => ha σ H _ w dn i fun vs H1 zs e1 w1 j1 p1 n1 => ?_
  cases p1
  rw [List.append_nil]
  cases n1 with
  | cons hh t =>
    cases hh
    exact ⟨owO O qs, p, _, ds, N, rfl, .inl hO, w1, t, j1.1, hN, hp, fun v H' r hR ex w' g n => kk v H' r (e1.trans ex) w' (penQ_step j1 ex g) hR n⟩
/-- Poly(e), e being the own list itself or a plain row -/
theorem ge_makeQ {R : D → List Rat → Prop} {nsr : List Rat} (F : Mkr X.prog X.w X.K X.mg X.base CX0 k C x (spInit C R)) (hr : Room (k + 1) X.A) (nO : ¬ O q) (ha : GE C X (owO O [(q, zs)]) ρ I e (penQ C O H0 p M T [(q, zs)]) Φ) (hR : ∀ d, Φ d → (d = .val (.ref q) ∧ R (.lst zs) nsr) ∨ R d nsr) (hg : Gl X x := by rfl)
    (hdb : (x == ("__debug__" : Str)) = false := by decide) (he : starEach [e] X.env = (false, eval e X.env) :: starEach [] X.env := by rfl) (hpl : (backTo pos (starEach [] X.env)).any (·.1) = false := by rfl) :
    GE C X (owO O [(q, zs)]) ρ I (.Call (.Name x p2) [e] [] pos) (penQ C O H0 p M T [(q, zs)]) (Is (.poly nsr)) := by
  obtain ⟨f, fd, ps, ok, Mm, hm, hb⟩ := F.ex
  refine ge_of (pe_make Mm ok hr hg hm hb .nil pass0 (pa_cons pe_tw pa_nil he) hdb he hpl) fun σ H Q w dn i kk => ha σ H _ w dn i fun v H1 d1 e1 w1 j1 p1 n1 => ?_
  intro y dx hx hd hne
  have hx1 : (upd H1 dx (.own y)) y = none := by rw [upd_ne (Ne.symm hne)]; exact hx
  have s12 : Same H1 (upd (upd H1 dx (.own y)) y (.ins C dx [])) := (same_new hd).trans (same_new hx1)
  have cut : ∀ {a : Addr}, ¬ owO O [(q, zs)] a → ¬ O a := fun h z => h (.inl z)
  rcases hR d1 p1 with ⟨rfl, hr1⟩ | hr1
  · cases n1
    obtain ⟨xs0, h1, h2⟩ := j1.2.2.1 (q, zs) (by simp)
    have n1 : Dn C O H1 (.ref q) (.lst zs) := .lst nO h1 (h2.less fun a z => .inl z)
    have wO : Wf O H1 := fun a ha => w1 a (.inl ha)
    refine ⟨O, y, dx, .ref q, .lst zs, nsr, rfl, wO.same s12, own_not wO hx, own_not wO hd, upd_same, n1.ext (Ext.of s12), hr1, fun H' t xs keep hx' nt ht pr => ⟨rfl, ?_⟩⟩
    have sm : Same H1 H' := fun c o hc => keep c o (ne_of_none hc hx) (s12 c o hc)
    have j' := (penQ C O H0 p M T [(q, zs)]).st sm j1
    have np : Dn C O H' (.ref y) (.poly nsr) := .poly (own_not wO hx) hx' nt ht pr
    exact kk _ H' _ (e1.trans (Ext.of sm)) (w1.same sm) j' rfl (np.lf (owO_lst (penQ_owA j')) rfl)
  · refine ⟨owO O [(q, zs)], y, dx, v, d1, nsr, rfl, w1.same s12, own_not w1 hx, own_not w1 hd, upd_same, n1.ext (Ext.of s12), hr1, fun H' t xs keep hx' nt ht pr => ⟨rfl, ?_⟩⟩
    have sm : Same H1 H' := fun c o hc => keep c o (ne_of_none hc hx) (s12 c o hc)
    exact kk _ H' _ (e1.trans (Ext.of sm)) (w1.same sm) ((penQ C O H0 p M T [(q, zs)]).st sm j1) rfl (.poly (own_not w1 hx) hx' nt ht pr)
/-- own[i] = e, the place drawn -/
theorem gq_storeQ (nO : ¬ O q) (S : Stt C (owO O [(q, ds)]) B H σ ρ (penQ C O H0 p N T [(q, ds)]))
    (he : GE C X (owO O [(q, ds)]) ρ (penQ C O H0 p N T [(q, ds)]) e (penQ C O H0 p N T [(q, ds)]) (Is d)) (ha : GE C X (owO O [(q, ds)]) ρ (penQ C O H0 p N T [(q, ds)]) a (penQ C O H0 p N T [(q, ds)]) (Is (.val (.ref q))))
    (hb : GE C X (owO O [(q, ds)]) ρ (penQ C O H0 p N T [(q, ds)]) b (penQ C O H0 p M T [(q, ds)]) (fun z => ∃ j : Nat, z = .int j ∧ j < ds.length)) (hl : ds.length ≤ 1000)
    (kk : ∀ H' j, j < ds.length → Stt C (owO O [(q, ds.set j d)]) B H' σ ρ (penQ C O H0 p M T [(q, ds.set j d)]) → ssw X rest De σ H')
    (hs : swapsWithSole [.Subscript a b p2] e pos.line X.env = pure false := by rfl) (hw : swappedStores [.Subscript a b p2] e X.env = pure none := by rfl) (h1 : (assignEach [.Subscript a b p2] X.env).map (·.2) = [assign (.Subscript a b p2) X.env] := by rfl)
    (hsub : ∀ v, assign (.Subscript a b p2) X.env v = (do
      let ov ← holding [v] (eval a X.env)
      let iv ← holding [v, ov] (eval b X.env)
      standAt p2
      holding [v, ov, iv] (setItem ov iv v)
      release [v, ov, iv] []) := by intro _; rfl) : ssw X (.Assign [.Subscript a b p2] e pos :: rest) De σ H := by
  refine gq_of (ps_asg pe_tw (pg_sub pe_tw pe_tw set_list hsub) hs hw h1) ?_
  refine S.geE he fun v H1 d1 p1 n1 e1 S1 => ?_
  cases p1
  refine S1.geE ha fun v2 H2 d2 p2 n2 e2 S2 => ?_
  cases p2
  cases n2
  refine S2.geE hb fun v3 H3 d3 p3 n3 e3 S3 => ?_
  obtain ⟨j, rfl, hj⟩ := p3
  cases n3
  obtain ⟨xs, hq, t⟩ := S3.asr.2.2.1 (q, ds) (by simp)
  have hlx : j < xs.length := by rw [t.length]; exact hj
  refine ⟨q, xs, (j : Int), j, rfl, rfl, hq, ?_, ?_⟩
  · unfold ixN
    rw [if_pos (by omega), if_pos (by omega)]
    simp
  · exact kk _ j hj (stt_put nO S3 (t.set ((n1.ext e2).ext e3) j))
/-- own.append(e), e drawing -/
theorem gq_appQ {y : Expr} {apos cpos : Pos} (nO : ¬ O q) (S : Stt C (owO O [(q, ds)]) B H σ ρ (penQ C O H0 p N T [(q, ds)]))
    (ha : GE C X (owO O [(q, ds)]) ρ (penQ C O H0 p N T [(q, ds)]) y (penQ C O H0 p N T [(q, ds)]) (Is (.val (.ref q))))
    (he : GE C X (owO O [(q, ds)]) ρ (penQ C O H0 p N T [(q, ds)]) e (penQ C O H0 p M T [(q, ds)]) Φ) (hl : ds.length ≤ 1000)
    (kk : ∀ H' d, Φ d → Stt C (owO O [(q, ds ++ [d])]) B H' σ ρ (penQ C O H0 p M T [(q, ds ++ [d])]) → ssw X rest De σ H')
    (hbase : attributeBase y "append" X.env (eval y X.env) = eval y X.env := by rfl)
    (hfew : ((backTo cpos (starEach [e] X.env)).all (fun x => !x.1) && (backToKw cpos (keywordEach [] X.env)).all (fun x => x.1.isSome) && decide ([e].length + ([] : List Keyword).length + (if ([] : List Keyword).isEmpty then 0 else 1) < 30)) = true := by rfl)
    (hline : (apos.endLine == cpos.line) = true := by rfl) (hst : starEach [e] X.env = (false, eval e X.env) :: starEach [] X.env := by rfl) (hplain : (backTo cpos (starEach [] X.env)).any (·.1) = false := by rfl)
    (hs : swapsWith (.Call (.Attribute y "append" apos) [e] [] cpos) none pos.line X.env = pure false := by rfl) :
    ssw X (.Expr (.Call (.Attribute y "append" apos) [e] [] cpos) pos :: rest) De σ H := by
  refine gq_of (ps_expr (pe_bm PySem.F.plainAttrs_list PySem.F.slot_list_append PySem.F.type_list_append mt_append pe_tw (pa_cons pe_tw pa_nil hst) hbase hfew hline hst hplain) hs) ?_
  refine S.geE ha fun v2 H2 d2 p2 n2 e2 S2 => ?_
  cases p2
  cases n2
  obtain ⟨xs0, hq0, _⟩ := S2.asr.2.2.1 (q, ds) (by simp)
  refine ⟨.inl ⟨rfl, _, SqL.of hq0⟩, ?_⟩
  refine S2.geE he fun v1 H1 d1 p1 n1 e1 S1 => ?_
  obtain ⟨xs, hq, t⟩ := S1.asr.2.2.1 (q, ds) (by simp)
  refine ⟨q, xs, v1, rfl, rfl, hq, ?_, ?_⟩
  · rw [show xs.length = ds.length from t.length, sizeLine_eq]
    omega
  · exact kk _ d1 p1 (stt_put nO S1 (t.append (.cons n1 .nil)))
/-- x, y = e, [] -/
theorem gq_parOwn {pa pb pt : Pos} {kt k2 : Nat} {pt2 pl : Pos} {x y : Str} (i j : Nat) (S : Stt C (owO O []) B H σ ρ (penQ C O H0 p N T [])) (hc : X.calm = true) (hN : X.N.Nodup) (h : GE C X (owO O []) ρ (penQ C O H0 p N T []) a (penQ C O H0 p M T []) Φ)
    (k : ∀ q σ' H' d, Φ d → ¬ O q → B q = none → Stt C (owO O [(q, [])]) B H' σ' ((ρ.set i (some d)).set j (some (.val (.ref q)))) (penQ C O H0 p M T [(q, [])]) → ssw X rest De σ' H')
    (hi : X.N[i]? = some x := by rfl) (hj : X.N[j]? = some y := by rfl) (hij : i ≠ j := by decide) (hx : X.env.scope.names.lookup x = some .local := by rfl) (hy : X.env.scope.names.lookup y = some .local := by rfl)
    (hst : starEach [a, .List [] pl] X.env = (false, eval a X.env) :: starEach [.List [] pl] X.env := by rfl) (hst2 : starEach [.List [] pl] X.env = (false, eval (.List [] pl) X.env) :: starEach [] X.env := by rfl)
    (hw : swappedStores [.Tuple [.Name x pa, .Name y pb] kt pt] (.Tuple [a, .List [] pl] k2 pt2) X.env = pure (some [x, y]) := by rfl) (hs : swapsWithSole [.Tuple [.Name x pa, .Name y pb] kt pt] (.Tuple [a, .List [] pl] k2 pt2) pos.line X.env = pure false := by rfl) :
    ssw X (.Assign [.Tuple [.Name x pa, .Name y pb] kt pt] (.Tuple [a, .List [] pl] k2 pt2) pos :: rest) De σ H := by
  refine gq_of (ps_par (i := i) (j := j) hc hN hi hj hij hx hy (pa_cons pe_tw (pa_cons (pe_lst pa_nil) pa_nil hst2) hst) hw hs) ?_
  refine S.ge h fun v1 H1 d1 p1 n1 S1 => ?_
  refine ⟨Nat.zero_le _, fun q hq => ?_⟩
  obtain ⟨nO, hB, S2⟩ := penQ_new (ds := []) (xs := []) S1 hq .nil
  refine ⟨v1, .ref q, rfl, k q _ _ d1 p1 nO hB ⟨S2.wf, (S2.den.set i (n1.go (Ext.of (same_new hq)) fun b nb hb z => ?_)).set j (.val _), S2.asr, S2.ext⟩⟩
  exact (own1_or b z).elim nb fun e => hb (by rw [e]; exact hq)
end
/-- a new list, told as such: its place is free at the start -/
def EvF (C : Addr) (O : Addr → Prop) (ρ : Env) (p : Addr) (N M : Nat) (te : TE) (Gd : List D → Prop) : Prop := ∀ (σ : L2.St) (H : Hp) (Q : VK), Wf O H → Den C O H σ ρ → penAt O H p N →
  (∀ q xs zs H', H q = none → Ext O H H' → Wf (fun a => O a ∨ a = q) H' → penAt (fun a => O a ∨ a = q) H' p M → (∀ a o, O a → a ≠ p → H a = some o → H' a = some o) → H' q = some (.lst xs) → DnAll C (fun a => O a ∨ a = q) H' xs zs → Gd zs → Q (.ref q) H') → te σ H Q
section
variable {C : Addr} {X : Cx} {O : Addr → Prop} {ρ : Env} {pos : Pos}
theorem lcF_at {elt tg : Expr} {scope : Scope} {own : List (Str × Nat)} {y : Nat → Nat → D} {f : D → Env → Env} {dom : D → Prop} {ns : Nat → Prop} {Gd : Nat → Nat → D → Prop} {p : Addr} {N m L : Nat} {wi : TI} {σ : L2.St} {H : Hp} {Q : VK} (hO : O p) (w : Wf O H) (dn : Den C O H σ ρ)
    (hG : ∀ (R : It → Hp → Prop), (∀ Jt H1 n, Ext O H H1 → Wf O H1 → (penG O H p N).P H1 → ns n → Wlk C O Jt H1 n (y n) → R Jt H1) → wi σ H R)
    (T : ∀ b O', Tg C (ibk X scope b) O' tg (own.map (·.2)) f dom) (hd : ∀ n i, ns n → i < n → dom (y n i)) (hL : ∀ n, ns n → n ≤ L) (hL2 : L ≤ 100000) (hNL : N + L * m ≤ 2 ^ 40)
    (he : ∀ b O' H2 n i M, (∀ a, O a → O' a) → O' p → ns n → i < n → M + m ≤ 2 ^ 40 → GE C (ibk X scope b) O' (f (y n i) (wipeR ρ (own.map (·.2)))) (penG O' H2 p M) elt (penG O' H2 p (M + m)) (Gd n i))
    (k : ∀ q xs zs H', H q = none → Ext O H H' → Wf (fun a => O a ∨ a = q) H' → penAt (fun a => O a ∨ a = q) H' p (N + L * m) → (∀ a o, O a → a ≠ p → H a = some o → H' a = some o) → H' q = some (.lst xs) → DnAll C (fun a => O a ∨ a = q) H' xs zs → (ns zs.length ∧ ∀ i d, zs[i]? = some d → Gd zs.length i d) → Q (.ref q) H') :
    tLc wi (fun v σ H Q => ∀ b, gw (ibk X scope b) tg v σ H Q) (fun σ H Q => Q true H) (fun σ H Q => ∀ b, tw (ibk X scope b) elt σ H Q) (own.map (·.2)) σ H Q := by
  refine hG _ fun Jt H1 n e1 w1 j1 hns W => ?_
  intro Dl hDl
  have hnl := hL n hns
  have sub : ∀ a, (O a ∨ a = Dl) → O a ∨ H1 a = none := fun a h => h.elim .inl fun e => .inr (by rw [e]; exact hDl)
  have hpD : p ≠ Dl := fun z => w1 p hO (by rw [z]; exact hDl)
  have dn1 : Den C (fun a => O a ∨ a = Dl) H1 (L2.wipe σ (own.map (·.2))) (wipeR ρ (own.map (·.2))) := ((dn.ext e1).wipe _).go Ext.refl fun a no hs z => (sub a z).elim no hs
  refine lc_it (g := fun v σ H Q => ∀ b, gw (ibk X scope b) tg v σ H Q) (tt := fun σ H Q => Q true H) (te := fun σ H Q => ∀ b, tw (ibk X scope b) elt σ H Q) (vs := own.map (·.2)) (σ := σ) (Qd := fun H' => Q (V.ref Dl) H') (J := Jt) (n := n) (G := fun H' => Ext (fun a => O a ∨ a = Dl) H1 H' ∧ Wf (fun a => O a ∨ a = Dl) H') (Y := fun i H2 x H3 => Same H2 H3 ∧ Dn C (fun a => O a ∨ a = Dl) H3 x (y n i))
    ⟨fun i H' hi h => W.go _ sub i H' hi h.1, fun H' h => W.stop _ sub H' h.1, fun i H' x H2 hi h yy => W.yld _ sub i H' x H2 hi h.1 h.2 yy⟩
    (fun i H' => Ext (fun a => O a ∨ a = Dl) H1 H' ∧ Wf (fun a => O a ∨ a = Dl) H' ∧ penAt (fun a => O a ∨ a = Dl) H' p (N + i * m) ∧ (∀ a o, O a → a ≠ p → H1 a = some o → H' a = some o) ∧ ∃ acc zs, H' Dl = some (.lst acc) ∧ DnAll C (fun a => O a ∨ a = Dl) H' acc zs ∧ zs.length = i ∧ ∀ j d, zs[j]? = some d → Gd n j d) ⟨?_, ?_, ?_, ?_, [], [], upd_same, .nil, rfl, fun j d h => by simp at h⟩ ?_ ?_ ?_
  · exact Ext.of (same_new hDl)
  · intro a ha
    rcases ha with ha | ha
    · exact (w1.same (same_new hDl)) a ha
    · rw [ha, upd_same]
      exact fun z => nomatch z
  · obtain ⟨s, s1, s0, s2, s3⟩ := penG_at j1
    rw [Nat.zero_mul, Nat.add_zero]
    exact ⟨s, s1, (fun z => z.elim s0 fun e => by rw [e, hDl] at s3; cases s3), (same_new hDl) _ _ s2, (same_new hDl) _ _ s3⟩
  · exact fun a o _ _ h => (same_new hDl) a o h
  · rintro i H' hi ⟨ex, wf, _⟩
    exact ⟨ex, wf⟩
  · rintro i x H' H2 hi ⟨ex, wf, pa, kp, acc, zs, hl, nacc, hzl, hz⟩ ⟨sm2, nx⟩ b
    have wf2 : Wf (fun a => O a ∨ a = Dl) H2 := wf.same sm2
    refine (T b _).ok _ H2 _ x (y n i) _ wf2 (dn1.ext (ex.trans (Ext.of sm2))) nx (hd n i hns hi) fun σ' dn' hw => ?_
    have idem : L2.wipe (L2.wipe σ (own.map (·.2))) (own.map (·.2)) = L2.wipe σ (own.map (·.2)) := by
      refine List.ext_getElem? fun j => ?_
      by_cases hm : j ∈ own.map (·.2)
      · have key : ∀ (τ : L2.St) (ws : List Nat), j ∈ ws → (L2.wipe τ ws)[j]? = if j < τ.length then some Option.none else Option.none := by
          intro τ ws
          induction ws with
          | nil => intro h; cases h
          | cons u ws ih =>
            intro h
            unfold L2.wipe
            by_cases hu : u = j
            · subst hu
              by_cases hl : u < τ.length
              · rw [if_pos hl, List.getElem?_set_self (by rw [wipe_length]; exact hl)]
              · rw [if_neg hl]
                exact List.getElem?_eq_none_iff.mpr (by rw [List.length_set, wipe_length]; omega)
            · rw [List.getElem?_set_ne hu]
              exact ih ((List.mem_cons.mp h).resolve_left fun e => hu e.symm)
        rw [key _ _ hm, key _ _ hm, wipe_length]
      · rw [wipe_out hm]
    refine ⟨hw.trans idem, ?_⟩
    show (if true = true then _ else _)
    rw [if_pos rfl]
    intro b
    have him : i * m + m ≤ L * m := by
      have := Nat.mul_le_mul_right m (show i + 1 ≤ L by omega)
      rw [Nat.succ_mul] at this
      exact this
    have pa2 : penAt (fun a => O a ∨ a = Dl) H2 p (N + i * m) := by
      obtain ⟨s, s1, s0, s2, s3⟩ := pa
      exact ⟨s, s1, s0, sm2 _ _ s2, sm2 _ _ s3⟩
    refine he b (fun a => O a ∨ a = Dl) H2 n i (N + i * m) (fun a h => .inl h) (.inl hO) hns hi (by omega) σ' H2 _ wf2 dn' (penAt_g pa2) fun v H4 z e4 w4 s4 p4 n4 => ?_
    have kp4 := penG_kp s4
    have hacc : H4 Dl = some (.lst acc) := kp4 Dl _ (.inr rfl) (Ne.symm hpD) (sm2 _ _ hl)
    have lenA : acc.length = zs.length := nacc.length
    have exD : Ext (fun a => O a ∨ a = Dl) H4 (upd H4 Dl (.lst (acc ++ [v]))) := fun c o hno hc2 => by
      rw [upd_ne (fun z => hno (.inr z))]
      exact hc2
    refine ⟨acc, hacc, Nat.lt_of_le_of_lt (show acc.length ≤ 100000 by omega) (by decide), ((ex.trans (Ext.of sm2)).trans e4).trans exD, ?_, ?_, ?_, acc ++ [v], zs ++ [z], upd_same, ?_, by rw [List.length_append, hzl]; rfl, ?_⟩
    · intro a ha
      by_cases hc : a = Dl
      · rw [hc, upd_same]
        exact fun z => nomatch z
      · rw [upd_ne hc]
        exact w4 a ha
    · obtain ⟨s, s1, s0, s2, s3⟩ := penG_at s4
      refine ⟨s, ?_, s0, by rw [upd_ne hpD]; exact s2, by rw [upd_ne (fun z => s0 (.inr z))]; exact s3⟩
      rw [Nat.succ_mul, ← Nat.add_assoc]
      exact s1
    · intro a o ha hne h
      rw [upd_ne (fun z => w1 a ha (by rw [z]; exact hDl))]
      exact kp4 a o (.inl ha) hne (sm2 _ _ (kp a o ha hne h))
    · exact (((nacc.ext (Ext.of sm2)).ext e4).ext exD).append (.cons (n4.ext exD) .nil)
    · intro j d hj
      by_cases hjl : j < zs.length
      · rw [List.getElem?_append_left hjl] at hj
        exact hz j d hj
      · rw [List.getElem?_append_right (by omega)] at hj
        cases hq : j - zs.length with
        | zero =>
          rw [hq] at hj
          have e0 : z = d := by simpa using hj
          have ej : j = i := by omega
          rw [ej, ← e0]
          exact p4
        | succ q => rw [hq] at hj; simp at hj
  · rintro H' ⟨ex, wf, pa, kp, acc, zs, hl, nacc, hzl, hz⟩
    have hnO : ¬ O Dl := fun z => w1 Dl z hDl
    have exO : Ext O H1 H' := fun c o nc hcc => ex c o (fun z => z.elim nc fun e => by rw [e, hDl] at hcc; cases hcc) hcc
    refine k Dl acc zs H' (new_ext w1 e1 hDl) (e1.trans exO) wf ?_ (fun a o ha hne h => kp a o ha hne (penG_kp j1 a o ha hne h)) hl nacc ⟨by rw [hzl]; exact hns, by rw [hzl]; exact hz⟩
    obtain ⟨s, s1, s0, s2, s3⟩ := pa
    refine ⟨s, s1.mono ?_, s0, s2, s3⟩
    have := Nat.mul_le_mul_right m hnl
    omega
theorem evF_lc {elt tg iter : Expr} {scope : Scope} {own : List (Str × Nat)} {y : Nat → Nat → D} {f : D → Env → Env} {dom : D → Prop} {ns : Nat → Prop} {Gd : Nat → Nat → D → Prop} {p : Addr} {N0 N m L : Nat} (hc : X.calm = true) (hN : X.N.Nodup) (hO : O p) (G : ∀ H0, GIn C X O ρ (penG O H0 p N0) tg iter (penG O H0 p N) ns y)
    (ok : BlkOk X.N X.env.scope scope own) (T : ∀ b O', Tg C (ibk X scope b) O' tg (own.map (·.2)) f dom) (hd : ∀ n i, ns n → i < n → dom (y n i)) (hL : ∀ n, ns n → n ≤ L) (hL2 : L ≤ 100000) (hNL : N + L * m ≤ 2 ^ 40)
    (he : ∀ b O' H2 n i M, (∀ a, O a → O' a) → O' p → ns n → i < n → M + m ≤ 2 ^ 40 → GE C (ibk X scope b) O' (f (y n i) (wipeR ρ (own.map (·.2)))) (penG O' H2 p M) elt (penG O' H2 p (M + m)) (Gd n i)) (hs : ∀ x, foldedSetIterable iter X.env x = pure x := by intro _; rfl) :
    EvF C O ρ p N0 (N + L * m) (tw X (.ListComp elt [⟨tg, iter, [], 0⟩] scope pos)) (fun zs => ns zs.length ∧ ∀ i d, zs[i]? = some d → Gd zs.length i d) := fun σ H Q w dn i k => by
  obtain ⟨wi, hpi, hG⟩ := (G H).ex
  exact tw_of (pe_lc (g := fun v σ H Q => ∀ b, gw (ibk X scope b) tg v σ H Q) (tt := fun σ H Q => Q true H) (te := fun σ H Q => ∀ b, tw (ibk X scope b) elt σ H Q) hc hN hpi ok
    (fun s H C cl fp => ⟨fun pins s' σ H' v u Q Iv r h => h (s, H, C, cl, fp) pins s' u Iv r⟩) (fun s H C cl fp => pts_nil) (fun s H C cl fp => ⟨fun pins s' σ H' Q Iv h => h (s, H, C, cl, fp) pins s' Iv⟩) hs)
    (lcF_at hO w dn (fun R q => hG σ H R w dn (penAt_g i) q) T hd hL hL2 hNL he k)
/-- x = [..], a list of its own compile -/
theorem gq_setLc {elt tg iter : Expr} {scope : Scope} {own : List (Str × Nat)} {y : Nat → Nat → D} {f : D → Env → Env} {dom : D → Prop} {ns : Nat → Prop} {Gd : Nat → Nat → D → Prop} {p : Addr} {N0 N m L : Nat} {x : Str} {px spos : Pos} {O : Addr → Prop} {B H H0 : Hp} {σ : L2.St} {T : Tb} {rest : List Stmt} {De : Ends} (i : Nat) (S : Stt C (owO O []) B H σ ρ (penQ C O H0 p N0 T [])) (hc : X.calm = true) (hN : X.N.Nodup) (hO : O p) (G : ∀ H0, GIn C X (owO O []) ρ (penG (owO O []) H0 p N0) tg iter (penG (owO O []) H0 p N) ns y)
    (ok : BlkOk X.N X.env.scope scope own) (Tt : ∀ b O', Tg C (ibk X scope b) O' tg (own.map (·.2)) f dom) (hd : ∀ n i, ns n → i < n → dom (y n i)) (hL : ∀ n, ns n → n ≤ L) (hL2 : L ≤ 100000) (hNL : N + L * m ≤ 2 ^ 40)
    (he : ∀ b O' H2 n i M, (∀ a, owO O [] a → O' a) → O' p → ns n → i < n → M + m ≤ 2 ^ 40 → GE C (ibk X scope b) O' (f (y n i) (wipeR ρ (own.map (·.2)))) (penG O' H2 p M) elt (penG O' H2 p (M + m)) (Gd n i))
    (kk : ∀ σ' H' zs, ns zs.length → (∀ i d, zs[i]? = some d → Gd zs.length i d) → Stt C (owO O []) B H' σ' (ρ.set i (some (.lst zs))) (penQ C O H0 p (N + L * m) T []) → ssw X rest De σ' H')
    (hi : X.N[i]? = some x := by rfl) (hx : X.env.scope.names.lookup x = some .local := by rfl) (hsw : swapsWith (.ListComp elt [⟨tg, iter, [], 0⟩] scope pos) (some (.Name x px)) spos.line X.env = pure true := by rfl) (hs : ∀ x, foldedSetIterable iter X.env x = pure x := by intro _; rfl) :
    ssw X (.Assign [.Name x px] (.ListComp elt [⟨tg, iter, [], 0⟩] scope pos) spos :: rest) De σ H := by
  obtain ⟨wi, hpi, hG⟩ := (G H).ex
  refine gq_of (ps_setLc (g := fun v σ H Q => ∀ b, gw (ibk X scope b) tg v σ H Q) (tt := fun σ H Q => Q true H) (te := fun σ H Q => ∀ b, tw (ibk X scope b) elt σ H Q) hc hN hi hx hsw hpi ok
    (fun s H C cl fp => ⟨fun pins s' σ H' v u Q Iv r h => h (s, H, C, cl, fp) pins s' u Iv r⟩) (fun s H C cl fp => pts_nil) (fun s H C cl fp => ⟨fun pins s' σ H' Q Iv h => h (s, H, C, cl, fp) pins s' Iv⟩) hs) ?_
  refine lcF_at (.inl hO) S.wf S.den (fun R q => hG σ H R S.wf S.den (penAt_g S.asr.1) q) Tt hd hL hL2 hNL he fun q xs zs H' hq e w1 pa kp hl nl hg => ?_
  have nO : ¬ owO O [] q := fun z => S.wf q z hq
  have pg : (penG (owO O []) H p (N + L * m)).P H' := by
    obtain ⟨s, s1, s0, s2, s3⟩ := pa
    exact ⟨s, s1, fun z => s0 (.inl z), s2, s3, kp⟩
  have nq : Dn C (owO O []) H' (.ref q) (.lst zs) := .lst nO hl (nl.less fun a z => .inl z)
  exact kk _ H' zs hg.1 hg.2 ⟨fun a ha => w1 a (.inl ha), (S.den.ext e).set i nq, penQ_step S.asr e pg, S.ext.trans e⟩
end
section
variable {C : Addr} {X : Cx} {O : Addr → Prop} {ρ : Env} {H0 B H : Hp} {σ : L2.St} {De : Ends} {rest : List Stmt} {p : Addr} {N M : Nat} {T : Tb} {a b : Expr} {pos : Pos} {Gd : List D → Prop} {d2 : List D → D}
/-- x, y = [..], e: the list is an own one from now on -/
theorem gq_lcOwn {tg : Expr} {vs : List Nat} {f : D → Env → Env} {dom : D → Prop} {k2 : Nat} {pt2 : Pos} (S : Stt C (owO O []) B H σ ρ (penQ C O H0 p N T [])) (hO : O p) (Tt : ∀ q, Tg C X (owO O [(q, [])]) tg vs f dom) (h1 : EvF C (owO O []) ρ p N M (tw X a) Gd)
    (h2 : ∀ q zs, Gd zs → ¬ O q → GE C X (owO O [(q, zs)]) ρ (penQ C O H0 p M T [(q, zs)]) b (penQ C O H0 p M T [(q, zs)]) (Is (d2 zs))) (hd : ∀ q zs, Gd zs → dom (.tup [.val (.ref q), d2 zs]))
    (k : ∀ q zs σ' H', Gd zs → ¬ O q → B q = none → Stt C (owO O [(q, zs)]) B H' σ' (f (.tup [.val (.ref q), d2 zs]) ρ) (penQ C O H0 p M T [(q, zs)]) → ssw X rest De σ' H')
    (hst : starEach [a, b] X.env = (false, eval a X.env) :: starEach [b] X.env := by rfl) (hst2 : starEach [b] X.env = (false, eval b X.env) :: starEach [] X.env := by rfl)
    (hs : swapsWithSole [tg] (.Tuple [a, b] k2 pt2) pos.line X.env = pure false := by rfl) (hw : swappedStores [tg] (.Tuple [a, b] k2 pt2) X.env = pure none := by rfl) (ha : (assignEach [tg] X.env).map (·.2) = [assign tg X.env] := by rfl) : ssw X (.Assign [tg] (.Tuple [a, b] k2 pt2) pos :: rest) De σ H := by
  refine gq_of (ps_asg (pe_tup (pa_cons pe_tw (pa_cons pe_tw pa_nil hst2) hst)) pg_gw hs hw ha) ?_
  refine h1 σ H _ S.wf S.den S.asr.1 fun q xs zs H1 hq e1 w1 pa kp hl nl hg => ?_
  rw [own1 zs] at w1 pa nl
  have nO' : ¬ owO O [] q := fun z => S.wf q z hq
  have nO : ¬ O q := fun z => nO' (.inl z)
  have hB : B q = none := new_ext S.wf S.ext hq
  have hn : ∀ a, ¬ owO O [] a → H a ≠ none → ¬ owO O [(q, zs)] a := fun a na ha z => (own1_or a z).elim na fun e => ha (by rw [e]; exact hq)
  have sm := sm_of e1 kp
  have S1 : Stt C (owO O [(q, zs)]) B H1 σ ρ (penQ C O H0 p M T [(q, zs)]) := by
    obtain ⟨⟨s, s1, s0, s2, s3⟩, tb, own, fr⟩ := S.asr
    have ne : ∀ {b : Addr} {o : HO}, H b = some o → o ≠ .dK (penK s) → b ≠ p := fun {b o} h1 h2 z => by
      rw [z, s2] at h1
      exact h2 (Option.some.inj h1).symm
    refine ⟨w1, S.den.go e1 hn, ⟨pa, fun t ht => ?_, fun x hx => ?_, fun a o h1 h2 h3 h4 => sm a o h2 (fr a o h1 h2 h3 h4)⟩, fun b o nb hb => e1 b o (fun z => nb (own1_sub b z)) (S.ext b o (fun z => nb (own1_sub b z)) hb)⟩
    · obtain ⟨ps, h1, h2, h3⟩ := tb t ht
      refine ⟨ps, sm _ _ (ne h1 (by intro z; cases z)) h1, h2, fun pos cv hc => ?_⟩
      obtain ⟨c, e1, e2⟩ := h3 pos cv hc
      exact ⟨c, e1, sm _ _ (ne e2 (by unfold LamX.CodeO; intro z; cases z)) e2⟩
    · have e : x = (q, zs) := by simpa using hx
      rw [e]
      exact ⟨xs, hl, nl⟩
  refine S1.geE (h2 q zs hg nO) fun v2 H2 dd pp n2 ee2 S2 => ?_
  cases pp
  refine ⟨by show 2 ≤ sizeLine; decide, fun t ht => ?_⟩
  have sm2 := same_new (o := .tup [.ref q, v2]) ht
  have wf2 := wf_new (o := .tup [.ref q, v2]) S2.wf ht
  have S3 : Stt C (owO O [(q, zs)]) B (upd H2 t (.tup [.ref q, v2])) σ ρ (penQ C O H0 p M T [(q, zs)]) := ⟨wf2, S2.den.ext (Ext.of sm2), (penQ C O H0 p M T [(q, zs)]).st sm2 S2.asr, S2.ext.trans (Ext.of sm2)⟩
  exact (Tt q).ok σ _ ρ (.ref t) (.tup [.val (.ref q), d2 zs]) _ wf2 S3.den (.tup (own_not S2.wf ht) upd_same (.cons (.val _) (.cons (n2.ext (Ext.of sm2)) .nil))) (hd q zs hg) fun σ' dn _ => k q zs σ' _ hg nO hB ⟨wf2, dn, S3.asr, S3.ext⟩
end
end TM
/-! ## LwTop2 -/
set_option Elab.async false
set_option linter.all false
set_option maxRecDepth 100000
set_option maxHeartbeats 4000000
set_option exponentiation.threshold 100000
/-! LwTop2: _law_made_right. -/
namespace TM
open PySem L2 PySem.Spec PyProof.Rows
section
variable {C : Addr} {X : Cx} {O : Addr → Prop} {ρ : Env} {I J K : Asr} {a b c d e : Expr} {pos p2 : Pos} {H0 : Hp} {p q : Addr} {N : Nat} {T : Tb} {zs : List D} {ns : List Rat} {d2 : D} {k : Nat}
theorem EvT.lendQ {tt : TT} {Ξ : Bool → Prop} {qs : Ql} {ds : List D} (i : Nat) (hq : (q, ds) ∈ qs) (no : ∀ x ∈ qs, ¬ O x.1) (hi : ρ[i]? = some (some (.val (.ref q)))) (h : ∀ H1, EvT C O (ρ.set i (some (.lst ds))) (ownA (owO O qs) H1) tt (ownA (owO O qs) H1) Ξ) :
    EvT C (owO O qs) ρ (penQ C O H0 p N T qs) tt (penQ C O H0 p N T qs) Ξ := fun σ H Q w dn ip k => by
  have ih : (owA C O H qs).P H := penQ_owA ip
  refine h H σ H Q (wf_less w) (den_lend i hq no dn ih hi) ownA_refl fun v H' e w' j ph => ?_
  have sm : Same H H' := same_of (e := fun b o nb hb => by
    exact e b o (fun z => nb (.inl z)) hb) j
  exact k v H' (Ext.of sm) (w.same sm) ((penQ C O H0 p N T qs).st sm ip) ph
theorem gt_eqO {R : List D → D → Prop} {kb : Bool} (EC : EqC X.K C) (F : MFn X.prog X.w X.K X.mg X.base CX0 k C "__eq__" (spP C R)) (hr : Room k X.A) (ha : GE C X O ρ I a J (Is (.poly ns))) (hb : GE C X O ρ J b K (Is d2)) (hd : (∃ ms, d2 = .poly ms) ∨ isOth d2) (hR : R [.poly ns, d2] (.bl kb))
    (hm : behindInMarks .Eq b = false := by exact nomark _) : GT C X O ρ I (.Compare a [.Eq] [b] pos) K (· = kb) := gt_cmp (op_eqO EC F hr) ha hb (fun H v1 v2 Q w n1 n2 k =>
  ⟨ins_dn n1, hd.elim (fun ⟨ms, e⟩ => .inl (ins_dn (e ▸ n2))) fun o => .inr (oth_dn n2 o), O, _, _, w, .cons n1 (.cons n2 .nil), hR, fun v H' s n => k v H' _ s rfl n⟩) hm
theorem gt_or4 {k1 k2 k3 k4 : Bool} (ha : GT C X O ρ I a I (· = k1)) (hb : GT C X O ρ I b I (· = k2)) (hc : GT C X O ρ I c I (· = k3)) (hd : GT C X O ρ I d I (· = k4)) : GT C X O ρ I (.BoolOp .Or [a, b, c, d] pos) I (· = (k1 || (k2 || (k3 || k4)))) :=
  gt_of (PW.pt (pw_or pt_tw (pw_or pt_tw (pw_or pt_tw (pw_or1 pt_tw))))) fun σ H Q w dn i q => by
  refine ha σ H _ w dn i fun b1 H1 e1 w1 j1 p1 => ?_
  cases p1
  cases k1 with
  | true => exact q true H1 e1 w1 j1 rfl
  | false =>
    refine hb σ H1 _ w1 (dn.ext e1) j1 fun b2 H2 e2 w2 j2 p2 => ?_
    cases p2
    cases k2 with
    | true => exact q true H2 (e1.trans e2) w2 j2 rfl
    | false =>
      refine hc σ H2 _ w2 ((dn.ext e1).ext e2) j2 fun b3 H3 e3 w3 j3 p3 => ?_
      cases p3
      cases k3 with
      | true => exact q true H3 ((e1.trans e2).trans e3) w3 j3 rfl
      | false =>
        refine hd σ H3 _ w3 (((dn.ext e1).ext e2).ext e3) j3 fun b4 H4 e4 w4 j4 p4 => ?_
        cases p4
        exact q k4 H4 (((e1.trans e2).trans e3).trans e4) w4 j4 (by simp)
/-- tuple(own) -/
theorem ge_tupOwn (hm : X.mg "tuple" = none) (ha : GE C X (owO O [(q, zs)]) ρ (penQ C O H0 p N T [(q, zs)]) e (penQ C O H0 p N T [(q, zs)]) (Is (.val (.ref q)))) (hg : Gl X "tuple" := by rfl) (he : starEach [e] X.env = (false, eval e X.env) :: starEach [] X.env := by rfl) (hpl : (backTo pos (starEach [] X.env)).any (·.1) = false := by rfl) :
    GE C X (owO O [(q, zs)]) ρ (penQ C O H0 p N T [(q, zs)]) (.Call (.Name "tuple" p2) [e] [] pos) (penQ C O H0 p N T [(q, zs)]) (Is (.tup zs)) :=
  ge_of (pe_callTy call_tuple_of hg hm PyProof.Rows.boot_tuple (pa_cons pe_tw pa_nil he) (by decide) (by decide) he hpl) fun σ H Q w dn i kk => ha σ H _ w dn i fun v H1 d1 e1 w1 j1 p1 n1 => by
    cases p1
    cases n1
    obtain ⟨xs, h1, t⟩ := j1.2.2.1 (q, zs) (by simp)
    exact ⟨_, _, rfl, .inl ⟨SqL.of h1, fun l hl => kk _ _ _ (e1.trans (Ext.of (same_new hl))) (wf_new w1 hl) ((penQ C O H0 p N T [(q, zs)]).st (same_new hl) j1) rfl (.tup (own_not w1 hl) upd_same (t.ext (Ext.of (same_new hl))))⟩⟩
end
/-! ### rows -/
theorem trim_snoc {x : Rat} (hx : x ≠ 0) : ∀ l : List Rat, trim (l ++ [x]) = l ++ [x]
  | [] => trim_cons fun z => hx z.2
  | q :: l => by
    have ih := trim_snoc hx l
    rw [List.cons_append, trim_cons (fun z => by rw [ih] at z; simp at z), ih]
theorem trim_idem (l : List Rat) : trim (trim l) = trim l := tr_trim l
/-- passed in many ways -/
structure Gvn (ns : List Rat) (zs : List D) : Prop where
  len : zs.length = ns.length
  at_ : ∀ i d, zs[i]? = some d → passedD (cf ns i) d
theorem passed_sm {q : Rat} {d : D} (h : passedD q d) (hq : Hb 66 q) : d.Sm ∧ d.pl = true ∧ d.dep ≤ 1 := by
  have h1 := hq.1
  have h2 := hq.2
  have small : ∀ z : Int, z.natAbs < 2 ^ 70 → smI z := fun z hz => Nat.lt_trans (log_lt hz (by decide)) (by decide)
  rcases h with ⟨_, rfl⟩ | ⟨m, hm, hd⟩
  · exact ⟨sm_int (small _ (by omega)), rfl, by simp [D.dep]⟩
  · have s1 : smI (q.num * m) := small _ (by rw [Int.natAbs_mul]; rcases hm with rfl | rfl | rfl <;> simp <;> omega)
    have s2 : smI ((q.den : Int) * m) := small _ (by rw [Int.natAbs_mul]; rcases hm with rfl | rfl | rfl <;> simp <;> omega)
    rcases hd with rfl | rfl
    · exact ⟨sm_tup2 s1 s2, rfl, by simp [D.dep, D.deps]⟩
    · exact ⟨sm_lst2 s1 s2, rfl, by simp [D.dep, D.deps]⟩
section
variable {ns : List Rat} {zs : List D}
theorem Gvn.each (g : Gvn ns zs) (hn : ∀ q ∈ ns, Hb 66 q) : ∀ d ∈ zs, ∃ q ∈ ns, passedD q d := fun d hd => by
  obtain ⟨i, hi, e⟩ := List.mem_iff_getElem.mp hd
  have h := g.at_ i d (by rw [List.getElem?_eq_getElem hi, e])
  have hl : i < ns.length := by rw [← g.len]; exact hi
  rw [cf_in hl] at h
  exact ⟨_, List.getElem_mem _, h⟩
theorem Gvn.wq (g : Gvn ns zs) (hn : ∀ q ∈ ns, Hb 66 q) : Paired Wq zs ns := paired_at g.len fun i d hd => by
  have hl : i < ns.length := by
    rw [← g.len]
    exact (List.getElem?_eq_some_iff.mp hd).1
  exact passed_wq (g.at_ i d hd) (n := 66) (by rw [cf_in hl]; exact hn _ (List.getElem_mem _)) (by decide)
theorem Gvn.sm (g : Gvn ns zs) (hn : ∀ q ∈ ns, Hb 66 q) : ∀ d ∈ zs, d.Sm := fun d hd => by
  obtain ⟨q, hq, h⟩ := g.each hn d hd
  exact (passed_sm h (hn q hq)).1
theorem pls_iff : ∀ {ds : List D}, D.pls ds = true ↔ ∀ d ∈ ds, d.pl = true
  | [] => by simp [D.pls]
  | d :: ds => by simp [D.pls, pls_iff (ds := ds)]
theorem Gvn.fit (g : Gvn ns zs) (hn : ∀ q ∈ ns, Hb 66 q) : (D.lst zs).fit = true := by
  have h1 := pls_iff.mpr fun d hd => by
    obtain ⟨q, hq, h⟩ := g.each hn d hd
    exact (passed_sm h (hn q hq)).2.1
  have h2 := deps_le (n := 1) fun d hd => by
    obtain ⟨q, hq, h⟩ := g.each hn d hd
    exact (passed_sm h (hn q hq)).2.2
  unfold D.fit
  rw [Bool.and_eq_true_iff]
  exact ⟨by unfold D.pl; exact h1, decide_eq_true (by unfold D.dep; omega)⟩
theorem Gvn.dat (g : Gvn ns zs) (hn : ∀ q ∈ ns, Hb 66 q) : ∀ d ∈ zs, isDat2 d := fun d hd => by
  obtain ⟨q, hq, h⟩ := g.each hn d hd
  obtain ⟨a, b, hw, _⟩ := passed_wr h
  exact hw.dat
end
/-- with something else in it -/
theorem bad_set {zs : List D} {odd : D} {j : Nat} (hj : j < zs.length) (hz : ∀ d ∈ zs, isDat2 d) (hl : zs.length ≤ 1000) (ho : badD odd) : badRow (.lst (zs.set j odd)) := by
  refine .inr ⟨_, rfl, fun x hx => ?_, by rw [List.length_set]; exact hl, odd, ?_, ho.2⟩
  · rcases List.mem_or_eq_of_mem_set hx with h | rfl
    · exact hz x h
    · exact ho.1
  · exact List.mem_set hj _
theorem sm_set {zs : List D} {odd : D} {j : Nat} (hz : ∀ d ∈ zs, d.Sm) (ho : odd.Sm) : ∀ d ∈ zs.set j odd, d.Sm := fun x hx => by
  rcases List.mem_or_eq_of_mem_set hx with h | rfl
  · exact hz x h
  · exact ho
def strangeL : List D := [.non, .int 5, .str "12", .dic, .bl true]
theorem strange_bad : ∀ d ∈ strangeL, badRow d ∧ d.Sm := by
  intro d hd
  simp only [strangeL, List.mem_cons, List.not_mem_nil, or_false] at hd
  rcases hd with rfl | rfl | rfl | rfl | rfl <;> exact ⟨.inl ⟨⟨_, rfl⟩, rfl⟩, by decide +kernel, by decide +kernel, by decide +kernel, by decide +kernel⟩
end TM
/-! ## LwTop3 -/
set_option Elab.async false
set_option linter.all false
set_option maxRecDepth 100000
set_option maxHeartbeats 4000000
set_option exponentiation.threshold 100000
/-! LwTop3: _law_made_right, walked. -/
namespace TM
open PySem L2 PySem.Spec PyProof.Rows
theorem paired_app {α β : Type} {F : α → β → Prop} : ∀ {xs : List α} {ys : List β} {us : List α} {vs : List β}, Paired F xs ys → Paired F us vs → Paired F (xs ++ us) (ys ++ vs)
  | _, _, _, _, .nil, h => h
  | _, _, _, _, .cons a t, h => .cons a (paired_app t h)
section
variable {P : Program} {w : World} {K : PySem.W.Frag} {mg : Str → Option Value} {base : Heap} {f cb cr ci cu Pt : Addr} {fd : FuncData} {C : Addr} {k : Nat} {T : Tb}
abbrev mrN : List Str := ["_law_pen_here", "_law_numbers", "_law_due", "_law_kept", "_law_made", "_law_odd", "_law_given", "_law_strange", "_law_k", "_law_number"]
theorem sc_mr : FnScope mrN ["_law_pen_here"] (defScope (top 67)) := ⟨rfl, rfl, rfl, by decide +kernel, rfl, by decide +kernel, by decide +kernel⟩
abbrev mrE (p : Addr) (nums due kept made odd given : Option D) : Env := [some (.val (.ref p)), nums, due, kept, made, odd, given, none, none, none]
theorem body_mr (g : Gs K mg C) (V : PgV P w K mg base k C) (E : PgX P w K mg base k C cb cr) (L : LwV P w K mg base k C) (N : LwN P w K mg base k C) (W : WhyE K mg base cb cr ci cu) (LG : LamG base mg T fd.code ((("_law_made_right" : Str) ++ ".<locals>.") ++ "<lambda>") Pt) :
    BodyT P w K mg base C T mrN "_law_made_right" (top 67) f fd.code (k + 3) 200 := by
  intro A outer s H E0 hr hgd O H0 p M De hO hT hM S hrt
  have hr0 : Room k (A.deeper (envOfC "_law_made_right" (defScope (top 67)) s.heap.objs.size f fd.code)) := hr.mono (by omega)
  have hr1 : Room (k + 1) (A.deeper (envOfC "_law_made_right" (defScope (top 67)) s.heap.objs.size f fd.code)) := hr.mono (by omega)
  have hO' : owO O [] p := .inl hO
  have hOP : O Pt := hT _ LG.mem
  have kw : PyData.strOk (("row" : String) : Str) = true := by decide +kernel
  -- the numbers
  refine (gq_setLc (x := "_law_numbers") (N := M + 1) (m := 20) (L := 8) (ns := fun n => ∃ i : Int, D.int (n : Nat) = .int i ∧ i < 8) (y := fun _ i => .int (i : Nat)) (f := TM.f1 8) (dom := fun _ => True) (Gd := fun _ i z => ∃ q, z = pair q ∧ Hb 64 q) (own := [("_law_k", 8)]) 1 S ?hc1 ?nd1 hO ?G1 ?ok1 ?T1 (fun n i hn hi => trivial) (fun n hn => ?_) (by omega) (by omega) (fun b O' H2 n i M1 hsub hp hns hi hM => ?_) ?k1 ?hi1 ?hx1 ?hs1 ?hf1 : ssw _ _ _ _ _)
  case nd1 => exact sc_mr.nd
  case hc1 => rfl
  case hi1 => rfl
  case hx1 => rfl
  case hs1 => rfl
  case hf1 => intro _; rfl
  case ok1 => exact blkOk_by (by rfl)
  case T1 => exact fun b O' => tg_name (i := 8) sc_mr.nd rfl (.inl rfl) (by simp)
  case G1 =>
    refine fun H1 => gin_range1 (Φ := fun z => ∃ i : Int, z = .int i ∧ i < 8) (g.f "range") (Ev.imp (ge_callN (N := M) (m := 1) N.draw hr0 hO' (ga_two (ge_var 0) ge_int) ⟨8, rfl, by omega, by omega⟩ (by omega)) ?_)
    rintro z ⟨n, i, e, h0, h1, rfl⟩
    cases e
    exact ⟨i, rfl, h0, by omega, i, rfl, h1⟩
  · obtain ⟨i, e, hi⟩ := hn
    have : (n : Int) = i := by injection e
    omega
  · refine Ev.imp (ge_callNn (N := M1 + 3 + 16) (m := 1) (Ψ := fun ds => ∃ a b : Rat, ds = [.lst [pair 0, pair a, pair b]] ∧ Hb 64 a ∧ Hb 64 b) (pre := prePick) (R := Rpick) N.pick hr0 hp (ga_imp (ga_consK (J := penG O' H2 p M1) (ge_var 0) (ga_oneN (ge_lstn (Ψ := fun ds => ∃ a b : Rat, ds = [pair 0, pair a, pair b] ∧ Hb 64 a ∧ Hb 64 b) (ga_imp (ga_consK (J := penG O' H2 p M1) (d := pair 0) (ge_tup (ga_two ge_int ge_int)) (ga_consn (J := penG O' H2 p (M1 + 3)) (Φ := fun z => ∃ q : Rat, z = pair q ∧ Hb 64 q) (Ψ := fun _ ds => ∃ d, ds = [d] ∧ ∃ q : Rat, d = pair q ∧ Hb 64 q) ?_ (fun d _ => ga_oneN ?_))) ?_) ?_))) ?_) ?_ (by omega)) ?_
    · refine Ev.imp (ge_callN (N := M1) (m := 3) (pre := preRatio) (R := Rratio) N.ratio hr0 hp (ga_two (ge_var 0) ge_int) ⟨9, rfl, by omega, by omega⟩ (by omega)) ?_
      rintro z ⟨q, rfl, hq⟩
      exact ⟨q, rfl, hq.mono (by decide)⟩
    · exact (ge_callN (N := M1 + 3) (ds := []) (pre := fun ds => ds = []) (R := RsomeRatio) N.somer hr0 hp (ga_one (ge_var 0)) rfl (by omega)).imp fun z h => h.2
    · rintro ds ⟨d0, rfl, d, ds', rfl, ⟨a, rfl, ha⟩, z, rfl, b, rfl, hb⟩
      exact ⟨a, b, rfl, ha, hb⟩
    · rintro ds ⟨a, b, rfl, _⟩
      simp
    · rintro ds ⟨ds', rfl, z, rfl, es, rfl, a, b, rfl, ha, hb⟩
      exact ⟨_, rfl, a, b, rfl, ha, hb⟩
    · rintro ds ⟨a, b, rfl, _⟩
      exact ⟨_, _, rfl, rfl, by simp, by simp⟩
    · rintro r ⟨ds, ⟨a, b, rfl, ha, hb⟩, d, es, e1, e2, e3⟩
      cases e1
      cases e2
      simp only [List.mem_cons, List.not_mem_nil, or_false] at e3
      rcases e3 with rfl | rfl | rfl
      · exact ⟨0, rfl, hb_zero (by decide)⟩
      · exact ⟨a, rfl, ha⟩
      · exact ⟨b, rfl, hb⟩
  rintro σ1 H1 zs0 ⟨i0, ei0, hi0⟩ hz0 S1
  obtain ⟨ns0, rfl, hql0, hb0⟩ := prs_of hz0
  have hl0 : ns0.length ≤ 8 := by
    have : ((prs ns0).length : Int) = i0 := by injection ei0
    rw [prs_len] at this
    omega
  refine (gq_set (x := "_law_numbers") (J := penQ C O H0 p (M + 1 + 8 * 20 + 1) T []) (Φ := fun z => ∃ ns : List Rat, z = .lst (prs ns) ∧ ns.length ≤ 10 ∧ ∀ q ∈ ns, Hb 64 q) 1 S1 ?nd2 ?h2 ?k2 ?hi2 ?hx2 ?hs2 ?hf2 : ssw _ _ _ _ _)
  case nd2 => exact sc_mr.nd
  case hi2 => rfl
  case hx2 => exact .inl rfl
  case hs2 => rfl
  case hf2 => exact .inl rfl
  case h2 =>
    refine Ev.liftQ fun H1 => Ev.imp (ge_catN (J := penG (owO O []) H1 p (M + 1 + 8 * 20)) (P1 := fun ds => ds = prs ns0) (P2 := fun ds => ∃ i : Int, (0 ≤ i ∧ i < 3) ∧ ds = List.replicate i.toNat (pair 0)) ((ge_var 1).imp fun z e => ⟨_, e, rfl⟩)
      (ge_repN (r := fun i => 0 ≤ i ∧ i < 3) (d := pair 0) (ge_lst (ga_one (ge_tup (ga_two ge_int ge_int)))) ((ge_callN (N := M + 1 + 8 * 20) (m := 1) N.draw hr0 hO' (ga_two (ge_var 0) ge_int) ⟨3, rfl, by omega, by omega⟩ (by omega)).imp fun z ⟨n, i, e, h0, h1, h2⟩ => ⟨i, h2, h0, by cases e; exact h1⟩) (fun i hi => by omega)) (fun d1 d2 h1 h2 => ?_)) ?_
    · obtain ⟨i, hi, rfl⟩ := h2
      rw [h1, prs_len, List.length_replicate]
      omega
    · rintro z ⟨ds, es, rfl, rfl, i, hi, rfl⟩
      refine ⟨ns0 ++ List.replicate i.toNat 0, ?_, ?_, fun q hq => ?_⟩
      · unfold prs
        rw [List.map_append, List.map_replicate]
      · rw [List.length_append, List.length_replicate]
        omega
      · rcases List.mem_append.mp hq with h | h
        · exact hb0 q h
        · rw [List.eq_of_mem_replicate h]
          exact hb_zero (by decide)
  rintro σ2 H2 d2 ⟨ns, rfl, hl, hb⟩ S2
  have hb6 : ∀ q ∈ ns, Hb 66 q := fun q hq => (hb q hq).mono (by decide)
  have hbt : ∀ q ∈ trim ns, Hb 66 q := fun q hq => hb6 q (trim_mem q hq)
  have hlt := trim_len ns
  obtain ⟨N1, hN1⟩ : ∃ N1, N1 = M + 1 + 8 * 20 + 1 := ⟨_, rfl⟩
  rw [← hN1] at S2
  replace S2 : Stt C (owO O []) H0 H2 σ2 (mrE p (some (.lst (prs ns))) none none none none none) (penQ C O H0 p N1 T []) := S2
  -- given
  refine (gq_lcOwn (M := N1 + 10 * 3) (Gd := fun zs => zs.length = (prs ns).length ∧ ∀ i d, zs[i]? = some d → passedD (cf ns i) d) (d2 := fun _ => .tup (prs (trim ns))) (f := f2 6 2) (dom := two) (vs := [6, 2]) S2 hO ?T3 ?e3 ?g3 ?d3 ?k3 ?st3 ?su3 ?s3 ?w3 ?a3 : ssw _ _ _ _ _)
  case st3 => rfl
  case su3 => rfl
  case s3 => rfl
  case w3 => rfl
  case a3 => rfl
  case T3 => exact fun q => tg_two (i := 6) (j := 2) rfl sc_mr.nd rfl (.inr rfl) rfl (.inl rfl) (by simp) (by simp)
  case d3 => exact fun q zs _ => ⟨_, _, rfl⟩
  case e3 =>
    refine evF_lc (m := 3) (L := 10) (ns := fun n => n = (prs ns).length) (Gd := fun _ i d => passedD (cf ns i) d) rfl sc_mr.nd hO' (fun H0 => GI.gin (gi_list (ge_var 1))) (own := [("_law_number", 9)]) (blkOk_by (by rfl)) (fun b O' => tg_name (i := 9) (vs := [9]) sc_mr.nd rfl (.inl rfl) (by simp)) (fun n i hn hi => trivial) (fun n hn => by rw [hn, prs_len]; exact hl) (by omega) (by omega) (fun b O' H2 n i M hsub hp hns hi hM => ?_)
    have hi' : i < ns.length := by rw [hns, prs_len] at hi; exact hi
    rw [prs_get hi', ← cf_in hi']
    have hqi : Hb 4000 (cf ns i) := by rw [cf_in hi']; exact (hb _ (List.getElem_mem _)).mono (by decide)
    refine (ge_callN N.passed hr0 hp (ga_two (ge_var 0) (ge_var 9)) ⟨_, rfl, hqi⟩ hM).imp fun r ⟨q, e1, e2⟩ => ?_
    have e3 : cf ns i = q := pair_inj (List.cons.inj e1).1
    rw [e3]
    exact e2
  case g3 => exact fun q zs _ _ => ge_toTup (g.f "tuple") (ge_call L.poly hr0 (ga_one (ge_var 1)) ⟨ns, rfl, by omega, rfl⟩)
  rintro q zs σ3 H3 ⟨hzl, hza⟩ nO hB S3
  have gv : Gvn ns zs := ⟨by rw [hzl, prs_len], hza⟩
  have hzl' : zs.length ≤ 10 := by rw [gv.len]; exact hl
  have noq : ∀ x ∈ [(q, zs)], ¬ O x.1 := fun x hx => by
    have e : x = (q, zs) := by simpa using hx
    rw [e]
    exact nO
  have mq : (q, zs) ∈ [(q, zs)] := .head _
  obtain ⟨N2, hN2⟩ : ∃ N2, N2 = N1 + 10 * 3 := ⟨_, rfl⟩
  rw [← hN2] at S3
  replace S3 : Stt C (owO O [(q, zs)]) H0 H3 σ3 (mrE p (some (.lst (prs ns))) (some (.tup (prs (trim ns)))) none none none (some (.val (.ref q)))) (penQ C O H0 p N2 T [(q, zs)]) := S3
  have shG := (row_sw (gv.sm hb6) (by omega)).1
  -- kept
  refine (gq_set (x := "_law_kept") (J := penQ C O H0 p N2 T [(q, zs)]) (Φ := Is (.str (D.lst zs).shw)) 3 S3 ?nd4 ?h4 ?k4 ?hi4 ?hx4 ?hs4 ?hf4 : ssw _ _ _ _ _)
  case nd4 => exact sc_mr.nd
  case hi4 => rfl
  case hx4 => exact .inl rfl
  case hs4 => rfl
  case hf4 => exact .inl rfl
  case h4 => exact Ev.lendQ 6 mq noq rfl (fun H1 => ge_repr W.s hgd hr0 (g.f "repr") (ge_var 6) shG.ok) (fun d e => by cases e; rfl)
  rintro σ4 H4 d4 rfl S4
  replace S4 : Stt C (owO O [(q, zs)]) H0 H4 σ4 (mrE p (some (.lst (prs ns))) (some (.tup (prs (trim ns)))) (some (.str (D.lst zs).shw)) none none (some (.val (.ref q)))) (penQ C O H0 p N2 T [(q, zs)]) := S4
  -- made
  refine (gq_set (x := "_law_made") (J := penQ C O H0 p (N2 + 1) T [(q, zs)]) (Φ := Is (.poly (trim ns))) 4 S4 ?nd5 ?h5 ?k5 ?hi5 ?hx5 ?hs5 ?hf5 : ssw _ _ _ _ _)
  case nd5 => exact sc_mr.nd
  case hi5 => rfl
  case hx5 => exact .inl rfl
  case hs5 => rfl
  case hf5 => exact .inl rfl
  case h5 =>
    refine ge_makeQ V.mkp hr1 nO (ge_callQ (N := N2) (m := 1) (ds := [.lst [.val (.ref q), .tup zs]]) (pre := prePick) (R := Rpick) N.pick hr0 hO (ga_two (ge_var 0) (ge_lst (ga_two (ge_var 6) (ge_tupOwn (g.f "tuple") (ge_var 6))))) ⟨_, _, rfl, rfl, by simp, by simp⟩ (by omega)) ?_
    rintro d ⟨d0, es, e1, e2, e3⟩
    cases e1
    cases e2
    simp only [List.mem_cons, List.not_mem_nil, or_false] at e3
    rcases e3 with rfl | rfl
    · exact .inl ⟨rfl, zs, ns, rfl, gv.wq hb6, by omega, rfl⟩
    · exact .inr ⟨zs, ns, rfl, gv.wq hb6, by omega, rfl⟩
  rintro σ5 H5 d5 rfl S5
  replace S5 : Stt C (owO O [(q, zs)]) H0 H5 σ5 (mrE p (some (.lst (prs ns))) (some (.tup (prs (trim ns)))) (some (.str (D.lst zs).shw)) (some (.poly (trim ns))) none (some (.val (.ref q)))) (penQ C O H0 p (N2 + 1) T [(q, zs)]) := S5
  have shT := sw_tup hbt (by decide) (by omega)
  have tlen : (trim ns).length ≤ 10 := by omega
  refine (gq_no (J := penQ C O H0 p (N2 + 1) T [(q, zs)]) S5 ?c6 ?k6 : ssw _ _ _ _ _)
  case c6 =>
    refine gt_imp (gt_or3 (k1 := !decide ((D.lst zs).shw = (D.lst zs).shw)) (k2 := !decide ((D.tup (prs (trim ns))).shw = (D.tup (prs (trim ns))).shw)) (k3 := !decide (((trim ns).length : Int) - 1 = ((prs (trim ns)).length : Int) - 1))
      (gt_neS (Ev.lendQ 6 mq noq rfl (fun H1 => ge_repr W.s hgd hr0 (g.f "repr") (ge_var 6) shG.ok) (fun d e => by cases e; rfl)) (ge_var 3))
      (fun _ => gt_neS (ge_repr W.s hgd hr0 (g.f "repr") (ge_num g.pc.cl g.pc.nn (ge_var 4)) shT.ok) (ge_repr W.s hgd hr0 (g.f "repr") (ge_var 2) shT.ok))
      (fun _ _ => gt_neI (ge_meth0 g.pc.cl V.deg hr0 (ge_var 4) ⟨_, rfl, rfl⟩) (ge_sub (ge_len (g.f "len") (ge_var 2) rfl) ge_int))) ?_
    rw [prs_len]
    simp
  intro H6 S6
  refine (gq_no (J := penQ C O H0 p (N2 + 1) T [(q, zs)]) S6 ?c7 ?k7 : ssw _ _ _ _ _)
  case c7 =>
    have h1 : trim (trim ns ++ [1]) = trim ns ++ [1] := trim_snoc (by decide) _
    have wt : Paired Wq (prs (trim ns)) (trim ns) := wqs_prs (n := 66) (by decide) hbt
    have w1 : Wq (.int 1) 1 := ⟨1, 1, wr_int 1, by decide, rfl⟩
    have w3 : Wq (.int 3) 3 := ⟨3, 1, wr_int 3, by decide, rfl⟩
    have wa : Paired Wq (prs (trim ns) ++ [.int 1]) (trim ns ++ [1]) := paired_app wt (.cons w1 .nil)
    refine gt_imp (gt_or4 (k1 := false) (k2 := false) (k3 := false) (k4 := !true)
      (gt_eqO (ns := trim ns) (d2 := .poly (trim (trim ns ++ [1]))) V.ec V.eq hr0 (ge_var 4) (ge_make V.mkp hr1 (ge_cat (ge_toList (g.f "list") (ge_var 2) rfl) (ge_lst (ga_one ge_int)) (by rw [prs_len]; simp; omega)) ⟨_, _, rfl, wa, by rw [List.length_append, prs_len]; simp; omega, rfl⟩) (.inl ⟨_, rfl⟩) ⟨_, _, rfl, .inl ⟨_, rfl, ?_⟩⟩)
      (gt_eqO (ns := trim ns) (d2 := .tup (prs (trim ns))) V.ec V.eq hr0 (ge_var 4) (ge_var 2) (.inr trivial) ⟨_, _, rfl, .inr ⟨trivial, rfl⟩⟩)
      (gt_eqO (ns := trim [3]) (d2 := .int 3) V.ec V.eq hr0 (ge_make V.mkp hr1 (ge_tup (ga_one ge_int)) ⟨_, [3], rfl, .cons w3 .nil, by simp, rfl⟩) ge_int (.inr trivial) ⟨_, _, rfl, .inr ⟨trivial, rfl⟩⟩)
      (gt_not (gt_eqO (ns := trim ns) (d2 := .poly (trim (trim ns))) V.ec V.eq hr0 (ge_var 4) (ge_make V.mkp hr1 (ge_var 2) ⟨_, _, rfl, wt, by rw [prs_len]; omega, rfl⟩) (.inl ⟨_, rfl⟩) ⟨_, _, rfl, .inl ⟨_, rfl, ?_⟩⟩))) rfl
    · rw [h1, decide_eq_false (fun z => by have := congrArg List.length z; simp at this)]
    · rw [trim_idem, decide_eq_true rfl]
  intro H7 S7
  -- something else
  refine (gq_set (x := "_law_odd") (J := penQ C O H0 p (N2 + 1 + 1) T [(q, zs)]) (Φ := fun z => z ∈ anyL) 5 S7 ?nd8 ?h8 ?k8 ?hi8 ?hx8 ?hs8 ?hf8 : ssw _ _ _ _ _)
  case nd8 => exact sc_mr.nd
  case hi8 => rfl
  case hx8 => exact .inl rfl
  case hs8 => rfl
  case hf8 => exact .inl rfl
  case h8 => exact Ev.liftQ fun H1 => (ge_callN (N := N2 + 1) (ds := []) (pre := fun ds => ds = []) (R := Rany) N.any hr0 (.inl hO) (ga_one (ge_var 0)) rfl (by omega)).imp fun z h => h.2
  rintro σ8 H8 odd ho S8
  obtain ⟨N3, hN3⟩ : ∃ N3, N3 = N2 + 1 + 1 := ⟨_, rfl⟩
  rw [← hN3] at S8
  replace S8 : Stt C (owO O [(q, zs)]) H0 H8 σ8 (mrE p (some (.lst (prs ns))) (some (.tup (prs (trim ns)))) (some (.str (D.lst zs).shw)) (some (.poly (trim ns))) (some odd) (some (.val (.ref q)))) (penQ C O H0 p N3 T [(q, zs)]) := S8
  have bo := any_bad odd ho
  -- what follows the test
  have fin : ∀ (e : Option D) (Hn : Hp) (Nn : Nat), Nn ≤ N3 + 1 → Stt C (owO O []) H0 Hn σ8 (mrE p (some (.lst (prs ns))) (some (.tup (prs (trim ns)))) (some (.str (D.lst zs).shw)) (some (.poly (trim ns))) (some odd) e) (penQ C O H0 p Nn T []) → ssw (bX P w K mg base mrN "_law_made_right" (top 67) f fd.code A outer s H E0) ((defBody (top 67)).drop 9) De σ8 Hn := by
    intro e Hn Nn hNn Sn
    refine (gq_set (x := "_law_strange") (J := penQ C O H0 p (Nn + 1) T []) (Φ := fun z => z ∈ strangeL) 7 Sn ?nd9 ?h9 ?k9 ?hi9 ?hx9 ?hs9 ?hf9 : ssw _ _ _ _ _)
    case nd9 => exact sc_mr.nd
    case hi9 => rfl
    case hx9 => exact .inr rfl
    case hs9 => rfl
    case hf9 => exact .inl rfl
    case h9 =>
      refine Ev.liftQ fun H1 => Ev.imp (ge_callN (N := Nn) (m := 1) (ds := [.lst strangeL]) (pre := prePick) (R := Rpick) N.pick hr0 hO' (ga_two (ge_var 0) (ge_lst ?_)) ⟨_, _, rfl, rfl, by simp [strangeL], by simp [strangeL]⟩ (by omega)) ?_
      · refine (ga_cons ge_non ?_ st_c : GA _ _ _ _ _ _ _ _)
        refine (ga_cons ge_int ?_ st_c : GA _ _ _ _ _ _ _ _)
        refine (ga_cons ge_str ?_ st_c : GA _ _ _ _ _ _ _ _)
        refine (ga_cons ge_dic ?_ st_d : GA _ _ _ _ _ _ _ _)
        exact ga_one ge_bl st_c
      rintro r ⟨d, es, e1, e2, e3⟩
      cases e1
      cases e2
      exact e3
    rintro σ9 H9 st hst S9
    replace S9 : Stt C (owO O []) H0 H9 σ9 [some (.val (.ref p)), some (.lst (prs ns)), some (.tup (prs (trim ns))), some (.str (D.lst zs).shw), some (.poly (trim ns)), some odd, e, some st, none, none] (penQ C O H0 p (Nn + 1) T []) := S9
    obtain ⟨bs, ss⟩ := strange_bad st hst
    have sw := sm_sw ss
    refine (gq_retT (J := penQ C O H0 p (Nn + 1) T []) S9 hrt ?h10 fun H h => penQ_mono (by omega) h : ssw _ _ _ _ _)
    case h10 =>
      refine (ge_eqD hr0 (ge_whyQ (k := k + 1) W hgd hr LG hOP (.row sw.ok) fun A1 o1 s1 H1 E1 f1 c1 hr1 => ?_) (ge_tup (ga_two ge_str (ge_repr W.s hgd hr0 (g.f "repr") (ge_var 7) sw.ok))) (fit2 kw sw.st) (fit2 kw sw.st)).is (by rw [eqv2])
      exact gx_make E.init hr1 (ge_var 7) fun z => ⟨z, st, rfl, bs, rfl, rfl⟩
  -- a row with something else in it
  refine (gq_if (k := !(D.lst zs).eqv (.lst [])) (J := penQ C O H0 p N3 T [(q, zs)]) S8 ?c11 ?y11 ?n11 : ssw _ _ _ _ _)
  case c11 => exact EvT.lendQ 6 mq noq rfl fun H1 => gt_neD hr0 (ge_var 6) (ge_lst ga_nil) (gv.fit hb6) rfl
  case n11 =>
    intro _ H11 S11
    exact gq_nil (fin _ H11 N3 (by omega) (unownQ 6 S11 nO hB rfl))
  case y11 =>
    intro hne H11 S11
    rw [eqv_nilL] at hne
    have hpos : 0 < zs.length := by
      cases zs with
      | nil => cases hne
      | cons _ _ => simp
    refine (gq_storeQ (d := odd) (M := N3 + 1) nO S11 ?e12 ?v12 ?b12 (by omega) ?k12 ?s12 ?w12 ?a12 ?u12 : ssw _ _ _ _ _)
    case e12 => exact ge_var 5
    case v12 => exact ge_var 6
    case s12 => rfl
    case w12 => rfl
    case a12 => rfl
    case u12 => intro _; rfl
    case b12 =>
      refine Ev.imp (ge_callQ (N := N3) (m := 1) (ds := [.int (zs.length : Int)]) (pre := preDraw) (R := Rdraw) N.draw hr0 hO (ga_two (ge_var 0) (Ev.lendQ 6 mq noq rfl (fun H1 => ge_len (g.f "len") (ge_var 6) rfl) (fun d e => by cases e; rfl))) ⟨_, rfl, by omega, by omega⟩ (by omega)) ?_
      rintro z ⟨n, i, e, h0, h1, rfl⟩
      cases e
      exact ⟨i.toNat, by rw [Int.toNat_of_nonneg h0], by omega⟩
    intro H12 j hj S12
    have S13 := unownQ 6 S12 nO hB rfl
    replace S13 : Stt C (owO O []) H0 H12 σ8 (mrE p (some (.lst (prs ns))) (some (.tup (prs (trim ns)))) (some (.str (D.lst zs).shw)) (some (.poly (trim ns))) (some odd) (some (.lst (zs.set j odd)))) (penQ C O H0 p (N3 + 1) T []) := S13
    have sR := (row_sw (sm_set (j := j) (gv.sm hb6) (any_sm odd ho)) (by rw [List.length_set]; omega)).1
    refine (gq_no (J := penQ C O H0 p (N3 + 1) T []) S13 ?c14 ?k14 : ssw _ _ _ _ _)
    case c14 =>
      refine gt_imp (gt_neD hr0 (ge_whyQ (k := k + 1) W hgd hr LG hOP (.row sR.ok) fun A1 o1 s1 H1 E1 f1 c1 hr1 => ?_) (ge_tup (ga_two ge_str (ge_repr W.s hgd hr0 (g.f "repr") (ge_var 6) sR.ok))) (fit2 kw sR.st) (fit2 kw sR.st)) (by rw [eqv2]; rfl)
      exact gx_make E.init hr1 (ge_var 6) fun z => ⟨z, _, rfl, bad_set hj (gv.dat hb6) (by omega) bo, rfl, rfl⟩
    intro H14 S14
    exact gq_nil (fin _ H14 (N3 + 1) (by omega) S14)
theorem fn_mr (g : Gs K mg C) (V : PgV P w K mg base k C) (E : PgX P w K mg base k C cb cr) (L : LwV P w K mg base k C) (N : LwN P w K mg base k C) (W : WhyE K mg base cb cr ci cu) (F : FnP K "_law_made_right" "_law_made_right" (top 67) f fd) (hm : mg "_law_made_right" = some (.ref f)) (LG : LamG base mg T fd.code ((("_law_made_right" : Str) ++ ".<locals>.") ++ "<lambda>") Pt) :
    FnT P w K mg base (k + 4) C T "_law_made_right" 200 := fn_T F hm sc_mr (F.bindsN fun _ _ _ _ _ _ us hl => match us, hl with | [_], _ => rfl) (body_mr g V E L N W LG)
end
end TM
/-! ## LwTop4 -/
set_option Elab.async false
set_option linter.all false
set_option maxRecDepth 100000
set_option maxHeartbeats 4000000
set_option exponentiation.threshold 100000
/-! LwTop4: _law_divided_right. -/
namespace TM
open PySem L2 PySem.Spec PyProof.Rows
theorem st_n {x : Str} {p : Pos} {es : List Expr} {env : PySem.Env} : starEach (.Name x p :: es) env = (false, eval (.Name x p) env) :: starEach es env := rfl
theorem prs_inj {a b : List Rat} (h : prs a = prs b) : a = b := by
  have e := eqv_prsT a b
  rw [h, eqv_prsT] at e
  simpa using e
section
variable {P : Program} {w : World} {K : PySem.W.Frag} {mg : Str → Option Value} {base : Heap} {f cb cr ci cu Pt : Addr} {fd : FuncData} {C : Addr} {k : Nat} {T : Tb}
abbrev drN : List Str := ["_law_pen_here", "_law_planted", "_law_ones", "_law_k", "_law_other", "_law_both", "_law_due", "_law_a", "_law_b", "_law_one"]
theorem sc_dr : FnScope drN ["_law_pen_here"] (defScope (top 68)) := ⟨rfl, rfl, rfl, by decide +kernel, rfl, by decide +kernel, by decide +kernel⟩
abbrev drE (p : Addr) (pl : List Rat) (ones kk other both due a b : Option D) : Env := [some (.val (.ref p)), some (.lst (prs pl)), ones, kk, other, both, due, a, b, none]
def rowsD (pl : List Rat) (os : List (List Rat)) : List D := os.map fun o => .lst (prs (mulL pl o))
theorem body_dr (MF : DivAll) (g : Gs K mg C) (V : PgV P w K mg base k C) (E : PgX P w K mg base k C cb cr) (L : LwV P w K mg base k C) (N : LwN P w K mg base k C) (W : WhyE K mg base cb cr ci cu) (LG : LamG base mg T fd.code ((("_law_divided_right" : Str) ++ ".<locals>.") ++ "<lambda>") Pt) :
    BodyT P w K mg base C T drN "_law_divided_right" (top 68) f fd.code (k + 3) 240 := by
  intro A outer s H E0 hr hgd O H0 p M De hO hT hM S hrt
  have hr0 : Room k (A.deeper (envOfC "_law_divided_right" (defScope (top 68)) s.heap.objs.size f fd.code)) := hr.mono (by omega)
  have hO' : owO O [] p := .inl hO
  have hOP : O Pt := hT _ LG.mem
  -- what is planted
  refine (gq_parOwn (M := M + 34) (Φ := fun z => ∃ pl, z = .lst (prs pl) ∧ SmallR 3 pl) 1 2 S ?hc1 ?nd1 ?h1 ?k1 ?hi1 ?hj1 ?ij1 ?hx1 ?hy1 ?st1 ?su1 ?hw1 ?hs1 : ssw _ _ _ _ _)
  case hc1 => rfl
  case nd1 => exact sc_dr.nd
  case hi1 => rfl
  case hj1 => rfl
  case ij1 => decide
  case hx1 => rfl
  case hy1 => rfl
  case st1 => rfl
  case su1 => rfl
  case hw1 => rfl
  case hs1 => rfl
  case h1 =>
    refine Ev.liftQ fun H1 => Ev.imp (ge_callN (N := M) (m := 34) (ds := [.int 2, .int 3]) (pre := preDrawn) (R := Rdrawn) N.drawn hr0 hO' (ga_cons (ge_var 0) (ga_two ge_int ge_int)) ⟨2, 3, rfl, by omega, by omega, by omega, by omega⟩ (by omega)) ?_
    rintro z ⟨d, m, qs, e, rfl, h1, h2, h3⟩
    cases e
    exact ⟨qs, rfl, h1, by omega, h3⟩
  rintro q σ1 H1 d1 ⟨pl, rfl, hpl⟩ nO hB S1
  obtain ⟨N1, hN1⟩ : ∃ N1, N1 = M + 34 := ⟨_, rfl⟩
  rw [← hN1] at S1
  replace S1 : Stt C (owO O [(q, [])]) H0 H1 σ1 (drE p pl (some (.val (.ref q))) none none none none none none) (penQ C O H0 p (N1 + 0 * 35) T [(q, [])]) := by
    rw [Nat.zero_mul, Nat.add_zero]
    exact S1
  -- two products
  refine (gq_for (n := 2) (J := penQ C O H0 p (N1 + 0 * 35) T [(q, [])]) (y := fun i => .int (i : Nat)) (vs := [3]) (f := TM.f1 3) (dom := fun _ => True) S1 ?hp2 ?hc2 ?G2 ?T2 (fun _ _ => trivial) (fun i ρ I => ∃ os : List (List Rat), os.length = i ∧ (∀ o ∈ os, SmallR 5 o) ∧ I = penQ C O H0 p (N1 + i * 35) T [(q, rowsD pl os)] ∧ ∃ kk other, ρ = drE p pl (some (.val (.ref q))) kk other none none none none) ⟨[], rfl, fun o ho => (nomatch ho), rfl, none, none, rfl⟩ ?st2 ?en2 ?fs2 : ssw _ _ _ _ _)
  case fs2 => intro _; rfl
  case hp2 => exact PassesOwn.never
  case hc2 => rfl
  case G2 => exact gi_range1 (g.f "range") ge_int (by omega) (by omega)
  case T2 => exact tg_name (i := 3) sc_dr.nd rfl (.inl rfl) (by simp)
  case st2 =>
    rintro H2 e2 i ρ' I' σ' H' hi ⟨os, ho, hsm, rfl, kk, other, rfl⟩ S2
    have hi2 : i < 2 := hi
    replace S2 : Stt C (owO O [(q, rowsD pl os)]) H2 H' σ' (drE p pl (some (.val (.ref q))) (some (.int (i : Nat))) other none none none none) (penQ C O H0 p (N1 + i * 35) T [(q, rowsD pl os)]) := S2
    refine (gq_set (x := "_law_other") (J := penQ C O H0 p (N1 + i * 35 + 34) T [(q, rowsD pl os)]) (Φ := fun z => ∃ o, z = .lst (prs o) ∧ SmallR 5 o) 4 S2 ?nd3 ?h3 ?k3 ?hi3 ?hx3 ?hs3 ?hf3 : ssw _ _ _ _ _)
    case nd3 => exact sc_dr.nd
    case hi3 => rfl
    case hx3 => exact .inl rfl
    case hs3 => rfl
    case hf3 => exact .inl rfl
    case h3 =>
      refine Ev.liftQ fun H1 => Ev.imp (ge_callN (N := N1 + i * 35) (m := 34) (ds := [.int 4, .int 3]) (pre := preDrawn) (R := Rdrawn) N.drawn hr0 (.inl hO) (ga_cons (ge_var 0) (ga_two ge_int ge_int)) ⟨4, 3, rfl, by omega, by omega, by omega, by omega⟩ (by omega)) ?_
      rintro z ⟨d, m, qs, e, rfl, h1, h2, h3⟩
      cases e
      exact ⟨qs, rfl, h1, by omega, h3⟩
    rintro σ3 H3 d3 ⟨o, rfl, hos⟩ S3
    replace S3 : Stt C (owO O [(q, rowsD pl os)]) H2 H3 σ3 (drE p pl (some (.val (.ref q))) (some (.int (i : Nat))) (some (.lst (prs o))) none none none none) (penQ C O H0 p (N1 + i * 35 + 34) T [(q, rowsD pl os)]) := S3
    refine (gq_appQ (M := N1 + i * 35 + 34 + 1) (Φ := fun z => ∃ o, SmallR 5 o ∧ z = .lst (prs (mulL pl o))) nO S3 ?a4 ?e4 ?l4 ?k4 ?b4 ?f4 ?n4 ?t4 ?p4 ?s4 : ssw _ _ _ _ _)
    case a4 => exact ge_var 2
    case l4 =>
      show (os.map _).length ≤ 1000
      rw [List.length_map]
      omega
    case b4 => rfl
    case f4 => rfl
    case n4 => rfl
    case t4 => rfl
    case p4 => rfl
    case s4 => rfl
    case e4 =>
      refine Ev.liftQ fun H1 => Ev.imp (ge_callP (J := penG (owO O [(q, rowsD pl os)]) H1 p (N1 + i * 35 + 34 + 1)) (Ψ := fun ds => ∃ o, SmallR 5 o ∧ ds = [.lst (prs pl), .lst (prs o)]) L.ptimes hr0 (ga_imp (ga_consK (J := penG (owO O [(q, rowsD pl os)]) H1 p (N1 + i * 35 + 34)) (ge_var 1) (ga_oneN (ge_callN (N := N1 + i * 35 + 34) (m := 1) (ds := [.lst [.lst (prs o), .lst (prs o), .lst (prs [1]), .lst (prs [])]]) (pre := prePick) (R := Rpick) N.pick hr0 (.inl hO) (ga_two (ge_var 0) (ge_lst ?_)) ⟨_, _, rfl, rfl, by simp, by simp⟩ (by omega)))) ?_) ?_) ?_
      · refine (ga_cons (J := penG (owO O [(q, rowsD pl os)]) H1 p (N1 + i * 35 + 34)) (d := .lst (prs o)) ?x1 ?y1 st_n : GA _ _ _ _ _ _ _ _)
        case x1 => exact ge_var 4
        refine (ga_cons (J := penG (owO O [(q, rowsD pl os)]) H1 p (N1 + i * 35 + 34)) (d := .lst (prs o)) ?x2 ?y2 st_n : GA _ _ _ _ _ _ _ _)
        case x2 => exact ge_var 4
        exact ga_two (J := penG (owO O [(q, rowsD pl os)]) H1 p (N1 + i * 35 + 34)) (d1 := .lst (prs [1])) (d2 := .lst (prs [])) (ge_lst (ga_one (d := pair 1) (ge_tup (ga_two ge_int ge_int)))) (ge_lst ga_nil)
      · rintro ds ⟨ds', rfl, d, rfl, d0, es, e1, e2, e3⟩
        cases e1
        cases e2
        simp only [List.mem_cons, List.not_mem_nil, or_false] at e3
        rcases e3 with rfl | rfl | rfl | rfl
        · exact ⟨o, hos, rfl⟩
        · exact ⟨o, hos, rfl⟩
        · exact ⟨[1], small_one, rfl⟩
        · exact ⟨[], small_nil, rfl⟩
      · rintro ds ⟨o, hos, rfl⟩
        exact ⟨_, pl, o, 31, 51, rfl, by have := hpl.len; omega, by have := hos.len; omega, hpl.cd, hos.cd, by omega, rfl⟩
      · rintro r ⟨ds, ⟨o, hos, rfl⟩, a, b, n, m, e, _, _, _, _, _, rfl⟩
        have e1 : prs pl = prs a ∧ prs o = prs b := by simpa using e
        rw [← prs_inj e1.1, ← prs_inj e1.2]
        exact ⟨o, hos, rfl⟩
    rintro H4 d4 ⟨o2, ho2, rfl⟩ S4
    refine gq_nil ⟨drE p pl (some (.val (.ref q))) (some (.int (i : Nat))) (some (.lst (prs o))) none none none none, penQ C O H0 p (N1 + (i + 1) * 35) T [(q, rowsD pl (os ++ [o2]))], ⟨os ++ [o2], by rw [List.length_append, ho]; rfl, fun o h => ?_, rfl, _, _, rfl⟩, ?_⟩
    · rcases List.mem_append.mp h with h | h
      · exact hsm o h
      · have e : o = o2 := by simpa using h
        rw [e]
        exact ho2
    · have e1 : N1 + i * 35 + 34 + 1 = N1 + (i + 1) * 35 := by omega
      have e2 : rowsD pl os ++ [.lst (prs (mulL pl o2))] = rowsD pl (os ++ [o2]) := by
        unfold rowsD
        rw [List.map_append]
        rfl
      rw [e1, e2] at S4
      exact S4
  rintro ρ' I' σ5 H5 ⟨os, hl, hsm, rfl, kk, other, rfl⟩ S5
  obtain ⟨o1, o2, rfl⟩ : ∃ o1 o2, os = [o1, o2] := by
    match os, hl with
    | [o1, o2], _ => exact ⟨o1, o2, rfl⟩
  have h1 := hsm o1 (.head _)
  have h2 := hsm o2 (.tail _ (.head _))
  have F := MF pl o1 o2 hpl h1 h2
  have ca := mul_cd hpl h1
  have cb' := mul_cd hpl h2
  have la := mul_len hpl h1
  have lb := mul_len hpl h2
  have ta := tr_mul pl o1
  have tb := tr_mul pl o2
  have S6 := unownQ (ds := rowsD pl [o1, o2]) 2 S5 nO hB rfl
  obtain ⟨N2, hN2⟩ : ∃ N2, N2 = N1 + 2 * 35 := ⟨_, rfl⟩
  rw [← hN2] at S6
  replace S6 : Stt C (owO O []) H0 H5 σ5 (drE p pl (some (.lst [.lst (prs (mulL pl o1)), .lst (prs (mulL pl o2))])) kk other none none none none) (penQ C O H0 p N2 T []) := S6
  generalize mulL pl o1 = a at *
  generalize mulL pl o2 = b at *
  have hba : ∀ x ∈ a, Hb 4000 x := fun x hx => (cd_mem ca x hx).mono (by decide)
  have hbb : ∀ x ∈ b, Hb 4000 x := fun x hx => (cd_mem cb' x hx).mono (by decide)
  -- the objects
  refine (gq_tupN (J := penQ C O H0 p (N2 + 62 + 62) T []) (Ψ := fun ds => ds = [.poly a, .poly b]) (f := f2 7 8) (dom := two) (vs := [7, 8]) S6 ?T7 ?h7 ?d7 ?k7 ?s7 ?w7 ?a7 : ssw _ _ _ _ _)
  case T7 => exact tg_two (i := 7) (j := 8) rfl sc_dr.nd rfl (.inr rfl) rfl (.inr rfl) (by simp) (by simp)
  case s7 => rfl
  case w7 => rfl
  case a7 => rfl
  case d7 =>
    rintro ds rfl
    exact ⟨by simp, _, _, rfl⟩
  case h7 =>
    refine EvA.liftQ fun H1 => ga_imp (ga_consn (J := penG (owO O []) H1 p (N2 + 62)) (Φ := fun z => z = .poly a) (Ψ := fun _ ds => ∃ d, ds = [d] ∧ d = .poly b) ?_ (fun d _ => ga_oneN ?_)) ?_
    · refine (ge_callN (N := N2) (m := 62) (ds := [.lst (prs a)]) (pre := preMade) (R := Rmade) N.made hr0 hO' (ga_two (ge_var 0) (ge_ix (ge_var 2) ge_int rfl rfl)) ⟨a, rfl, by omega, hba⟩ (by omega)).imp ?_
      rintro z ⟨qs, e, rfl⟩
      have e1 : prs a = prs qs := by simpa using e
      rw [← prs_inj e1, show trim a = a from ta]
    · refine (ge_callN (N := N2 + 62) (m := 62) (ds := [.lst (prs b)]) (pre := preMade) (R := Rmade) N.made hr0 hO' (ga_two (ge_var 0) (ge_ix (ge_var 2) ge_int rfl rfl)) ⟨b, rfl, by omega, hbb⟩ (by omega)).imp ?_
      rintro z ⟨qs, e, rfl⟩
      have e1 : prs b = prs qs := by simpa using e
      rw [← prs_inj e1, show trim b = b from tb]
    · rintro ds ⟨d, ds', rfl, rfl, z, rfl, rfl⟩
      rfl
  rintro σ7 H7 ds rfl S7
  obtain ⟨N3, hN3⟩ : ∃ N3, N3 = N2 + 62 + 62 := ⟨_, rfl⟩
  rw [← hN3] at S7
  replace S7 : Stt C (owO O []) H0 H7 σ7 (drE p pl (some (.lst [.lst (prs a), .lst (prs b)])) kk other none none (some (.poly a)) (some (.poly b))) (penQ C O H0 p N3 T []) := S7
  obtain ⟨n1, m1, q1, com1, com2, hm1⟩ := F.com
  refine (gq_no (J := penQ C O H0 p N3 T []) S7 ?c8 ?k8 : ssw _ _ _ _ _)
  case c8 =>
    refine gt_imp (gt_neD hr0 (ge_num g.pc.cl g.pc.nn (ge_call V.common hr0 (ga_two (ge_var 7) (ge_var 8)) ⟨n1, a, b, q1, rfl, com1, rfl⟩)) (ge_toTup (g.f "tuple") (ge_call L.pcommon hr0 (ga_two (ge_ix (ge_var 2) ge_int rfl rfl) (ge_ix (ge_var 2) ge_int rfl rfl)) ⟨m1, a, b, q1, rfl, hm1, com2, rfl⟩)) (fit_prsT _) (fit_prsT _)) ?_
    rw [eqv_prsT]
    simp
  intro H8 S8
  have kn : PyData.strOk (("number" : String) : Str) = true := by decide +kernel
  have kd : PyData.strOk (("divisor" : String) : Str) = true := by decide +kernel
  have k0 : PyData.strOk (("0" : String) : Str) = true := by decide +kernel
  refine (gq_if (k := (D.lst (prs b)).eqv (.lst [])) (J := penQ C O H0 p N3 T []) S8 ?c9 ?y9 ?n9 : ssw _ _ _ _ _)
  case c9 => exact gt_eqD hr0 (ge_ix (ge_var 2) ge_int rfl rfl) (ge_lst ga_nil) (fit_prsL _) rfl
  case y9 =>
    intro hz H9 S9
    rw [eqv_nilL] at hz
    have hb0 : b = [] := by
      cases b with
      | nil => rfl
      | cons _ _ => cases hz
    subst hb0
    have s0 : (D.int 0).Sm := sm_int (by show Nat.log2 0 < 1920; decide)
    refine (gq_retT (J := penQ C O H0 p N3 T []) (M := M + 240) S9 ?r10 ?h10 (fun H h => penQ_mono (by omega) h) : ssw _ _ _ _ _)
    case r10 => exact hrt
    case h10 =>
      have es : (D.int 0).shw = ("0" : Str) := by decide +kernel
      refine (ge_eqD hr0 (ge_whyQ (k := k + 1) W hgd hr LG hOP (.num (wd := "divisor") (sm_sw s0).ok) fun A1 o1 s1 H1 E1 f1 c1 hr1 => ?_) (ge_tup (ga_cons ge_str (ga_two ge_str ge_str))) (by rw [es]; exact fit3 kn kd k0) (fit3 kn kd k0)).is (by rw [es, eqv3])
      exact gx_call E.divided (hr1.mono (by omega)) (ga_two (ge_var 7) (ge_var 8)) ⟨a, rfl, rfl, rfl⟩
  case n9 =>
  intro hz H9 S9
  rw [eqv_nilL] at hz
  have hb0 : b ≠ [] := fun z => by
    rw [z] at hz
    cases hz
  refine gq_nil ?_
  generalize hq : quoL a b = qo at *
  generalize hr' : remL a b = re at *
  have fq : ∀ i, i < 2 → ∃ x : List Rat, [D.lst (prs qo), D.lst (prs re)].getD i .non = .lst (prs x) ∧ [D.tup (prs qo), D.tup (prs re)].getD i .non = .tup (prs x) ∧ [D.poly qo, D.poly re].getD i .non = .poly x := fun i hi =>
    match i, hi with
    | 0, _ => ⟨qo, rfl, rfl, rfl⟩
    | 1, _ => ⟨re, rfl, rfl, rfl⟩
  have rg2 : (List.range 2).map (fun i => [D.tup (prs qo), D.tup (prs re)].getD i .non) = [D.tup (prs qo), D.tup (prs re)] := rfl
  have dok := F.ok hb0
  have e1 := F.cq hb0
  have e2 := F.cm hb0
  have e3 := F.cr hb0
  have e4 := F.eq hb0
  rw [hq] at e1 e2 e4
  rw [hr'] at e3 e4
  -- quotient and rest
  refine (gq_par (J := penQ C O H0 p N3 T []) (d1 := .tup [.poly qo, .poly re]) (d2 := .lst [.tup (prs qo), .tup (prs re)]) 5 6 S9 ?hc11 ?nd11 ?h11 ?k11 ?hi11 ?hj11 ?ij11 ?hx11 ?hy11 ?hw11 ?hs11 : ssw _ _ _ _ _)
  case hc11 => rfl
  case nd11 => exact sc_dr.nd
  case hi11 => rfl
  case hj11 => rfl
  case ij11 => decide
  case hx11 => rfl
  case hy11 => rfl
  case hw11 => rfl
  case hs11 => rfl
  case h11 =>
    refine ga_two (ge_call V.divided hr0 (ga_two (ge_var 7) (ge_var 8)) ⟨a, b, rfl, hb0, tb, by omega, by omega, dok, by rw [hq, hr']⟩) ?_
    refine Ev.is (ge_lc (n := 2) (g := fun i => [D.tup (prs qo), D.tup (prs re)].getD i .non) rfl sc_dr.nd (gi_tup (ds := [.lst (prs qo), .lst (prs re)]) (ge_call L.pdivided hr0 (ga_two (ge_ix (ge_var 2) ge_int rfl rfl) (ge_ix (ge_var 2) ge_int rfl rfl)) ⟨a, b, rfl, hb0, tb, by omega, by omega, dok, by rw [hq, hr']⟩)) (own := [("_law_one", 9)]) (blkOk_by (by rfl)) (fun b O' => tg_name (i := 9) (vs := [9]) sc_dr.nd rfl (.inl rfl) (by simp)) (fun i hi => trivial) (by omega) (fun b0 O' I' hsub i hi => ?_)) (by rw [rg2])
    obtain ⟨x, x1, x2, _⟩ := fq i hi
    rw [x1, x2]
    exact ge_toTup (g.f "tuple") (ge_var 9)
  intro σ11 H11 S11
  replace S11 : Stt C (owO O []) H0 H11 σ11 (drE p pl (some (.lst [.lst (prs a), .lst (prs b)])) kk other (some (.tup [.poly qo, .poly re])) (some (.lst [.tup (prs qo), .tup (prs re)])) (some (.poly a)) (some (.poly b))) (penQ C O H0 p N3 T []) := S11
  have fit4 : (D.lst [.tup (prs qo), .tup (prs re)]).fit = true := by
    unfold D.fit
    have d1 := prs_deps qo
    have d2 := prs_deps re
    refine Bool.and_eq_true_iff.mpr ⟨by simp [D.pl, D.pls, prs_pls], decide_eq_true ?_⟩
    simp only [D.dep, D.deps]
    omega
  have eqv4 : (D.lst [.tup (prs qo), .tup (prs re)]).eqv (.lst [.tup (prs qo), .tup (prs re)]) = true := by
    have q1 := eqv_prsT qo qo
    have q2 := eqv_prsT re re
    unfold D.eqv at q1 q2 ⊢
    simp only [D.py, D.pys, PyData.eqv, PyData.eqvAll] at q1 q2 ⊢
    rw [q1, q2]
    simp
  refine (gq_no (J := penQ C O H0 p N3 T []) S11 ?c12 ?k12 : ssw _ _ _ _ _)
  case c12 =>
    refine gt_imp (gt_or (k1 := !true) (k2 := !(D.lst [.tup (prs qo), .tup (prs re)]).eqv (.lst [.tup (prs qo), .tup (prs re)])) (gt_not (gt_val (ge_isi (g.f "isinstance") (ge_var 5) (ge_tuple_ty (g.f "tuple")) rfl rfl)))
      (fun _ => gt_neD hr0 (Ev.is (ge_lc (n := 2) (g := fun i => [D.tup (prs qo), D.tup (prs re)].getD i .non) rfl sc_dr.nd (gi_tup (ds := [.poly qo, .poly re]) (ge_var 5)) (own := [("_law_one", 9)]) (blkOk_by (by rfl)) (fun b O' => tg_name (i := 9) (vs := [9]) sc_dr.nd rfl (.inl rfl) (by simp)) (fun i hi => trivial) (by omega) (fun b0 O' I' hsub i hi => ?_)) (by rw [rg2])) (ge_var 6) fit4 fit4)) (by rw [eqv4]; rfl)
    obtain ⟨x, _, x2, x3⟩ := fq i hi
    rw [x2, x3]
    exact ge_num g.pc.cl g.pc.nn (ge_var 9)
  intro H12 S12
  refine (gq_retT (J := penQ C O H0 p N3 T []) S12 hrt ?h13 (fun H h => penQ_mono (by omega) h) : ssw _ _ _ _ _)
  case h13 =>
    have lq : qo.length ≤ 20 := by
      rw [← hq]
      refine Nat.le_trans (trim_len _) ?_
      rw [List.length_map, List.length_range]
      unfold dN
      omega
    have lr : re.length ≤ 20 := by
      rw [← hr']
      have := len_rem a b
      omega
    have lm := len_mul qo b
    refine (ge_eqO V.ec V.eq hr0 (ge_opL V.ops.dA V.ops.add V.ops.radd rfl hr0 (ge_opL V.ops.dM V.ops.mul V.ops.rmul rfl hr0 (ge_ix (ge_var 5) ge_int rfl rfl) (ge_var 8) (.inl ⟨_, rfl⟩) ⟨qo, b, 2000, 92, _, rfl, .inl rfl, by omega, by omega, e1, cb', by omega, rfl⟩) (ge_ix (ge_var 5) ge_int rfl rfl) (.inl ⟨_, rfl⟩) ⟨mulL qo b, re, _, rfl, .inl rfl, by omega, by omega, e2, e3, rfl⟩) (ge_var 7) (.inl ⟨_, rfl⟩) ⟨_, _, rfl, .inl ⟨_, rfl, rfl⟩⟩).is ?_
    rw [e4]
    simp
theorem fn_dr (MF : DivAll) (g : Gs K mg C) (V : PgV P w K mg base k C) (E : PgX P w K mg base k C cb cr) (L : LwV P w K mg base k C) (N : LwN P w K mg base k C) (W : WhyE K mg base cb cr ci cu) (F : FnP K "_law_divided_right" "_law_divided_right" (top 68) f fd) (hm : mg "_law_divided_right" = some (.ref f)) (LG : LamG base mg T fd.code ((("_law_divided_right" : Str) ++ ".<locals>.") ++ "<lambda>") Pt) :
    FnT P w K mg base (k + 4) C T "_law_divided_right" 240 := fn_T F hm sc_dr (F.bindsN fun _ _ _ _ _ _ us hl => match us, hl with | [_], _ => rfl) (body_dr MF g V E L N W LG)
end
end TM
/-! ## LwTop5 -/
set_option Elab.async false
set_option linter.all false
set_option maxRecDepth 100000
set_option maxHeartbeats 4000000
set_option exponentiation.threshold 100000
/-! LwTop5: the law: what one lap needs. -/
namespace TM
open PySem L2 PySem.Spec PyProof.Rows
section
variable {C : Addr} {X : Cx} {O : Addr → Prop} {ρ : Env} {I J K L : Asr} {a b c e : Expr} {es : List Expr} {pos : Pos} {ns : List Rat} {r : D} {k : Nat} {Ψ : List D → Prop}
theorem ge_methN {m : Str} {R : List D → D → Prop} {pl : Sem Bool} {apos : Pos} {o : Expr} (hc : Cls X.K C) (F : MFn X.prog X.w X.K X.mg X.base CX0 k C m (spP C R)) (hr : Room k X.A) (ho : GE C X O ρ I o J (Is (.poly ns))) (ha : GA C X O ρ J (e :: es) K Ψ) (hR : ∀ ds, Ψ ds → R (.poly ns :: ds) r) (hmn : (m == numF) = false := by decide)
    (hst : starEach (e :: es) X.env = (false, eval e X.env) :: starEach es X.env := by rfl) (hpl : (backTo pos (starEach es X.env)).any (·.1) = false := by rfl)
    (ht : eval (.Call (.Attribute o m apos) (e :: es) [] pos) X.env = (do
      let ov ← eval o X.env
      standAt apos.atName
      let (f, first) ← holding [ov] (getMethod ov m pl)
      callWith pos f first (backTo pos (starEach (e :: es) X.env)) (backToKw pos (keywordEach [] X.env))) := by rfl) : GE C X O ρ I (.Call (.Attribute o m apos) (e :: es) [] pos) K (Is r) := by
  obtain ⟨f, fd, ps, ok, M, hb⟩ := F.ex
  refine ge_of (pe_meth pe_tw hc M ok hr hb .nil pass0 pa_tw hst hpl ht) fun σ H Q w dn i k => ho σ H _ w dn i fun v H1 d1 e1 w1 j1 p1 n1 => ?_
  cases p1
  have n1' := n1
  cases n1 with
  | poly n h nt rr pr =>
    refine ⟨_, _, _, rfl, h, ?_, ha σ H1 _ w1 (dn.ext e1) j1 fun vs H2 zs e2 w2 j2 p2 n2 => ?_⟩
    · show List.lookup m [(numF, _)] = none
      unfold List.lookup
      rw [hmn]
      rfl
    · rw [List.append_nil]
      exact ⟨O, _, r, w2, .cons (n1'.ext e2) n2, hR zs p2, fun v H' s n => k v H' r ((e1.trans e2).trans (Ext.of s)) (w2.same s) (K.st s j2) rfl n⟩
theorem gt_or2F {k2 : Bool} (ha : GT C X O ρ I a J (· = false)) (hb : GT C X O ρ J b K (· = k2)) : GT C X O ρ I (.BoolOp .Or [a, b] pos) K (· = k2) := gt_of (PW.pt (pw_or pt_tw (pw_or1 pt_tw))) fun σ H Q w dn i q => by
  refine ha σ H _ w dn i fun b1 H1 e1 w1 j1 p1 => ?_
  cases p1
  exact hb σ H1 _ w1 (dn.ext e1) j1 fun b2 H2 e2 w2 j2 p2 => q b2 H2 (e1.trans e2) w2 j2 p2
theorem gt_or3F {k3 : Bool} (ha : GT C X O ρ I a J (· = false)) (hb : GT C X O ρ J b K (· = false)) (hc : GT C X O ρ K c L (· = k3)) : GT C X O ρ I (.BoolOp .Or [a, b, c] pos) L (· = k3) := gt_of (PW.pt (pw_or pt_tw (pw_or pt_tw (pw_or1 pt_tw)))) fun σ H Q w dn i q => by
  refine ha σ H _ w dn i fun b1 H1 e1 w1 j1 p1 => ?_
  cases p1
  refine hb σ H1 _ w1 (dn.ext e1) j1 fun b2 H2 e2 w2 j2 p2 => ?_
  cases p2
  exact hc σ H2 _ w2 ((dn.ext e1).ext e2) j2 fun b3 H3 e3 w3 j3 p3 => q b3 H3 ((e1.trans e2).trans e3) w3 j3 p3
end
/-! ### rows of the law -/
/-- a made polynomial beside its row -/
def rowD (r : List Rat) : D := .tup [.poly r, .lst (prs r)]
structure RowOk (n : Nat) (r : List Rat) : Prop where
  tr : Tr r
  len : r.length ≤ 20
  cd : CD n r
theorem RowOk.sw {n : Nat} {r : List Rat} (h : RowOk n r) (hn : n ≤ 1900) : (D.tup (prs r)).Sw := sw_tup (cd_mem h.cd) (by omega) (by have := h.len; omega)
theorem RowOk.mono {n m : Nat} {r : List Rat} (h : RowOk n r) (hm : n ≤ m) : RowOk m r := ⟨h.tr, h.len, h.cd.mono hm⟩
theorem small_row {one : List Rat} (h : SmallR 6 one) : RowOk 61 one := ⟨h.tr, by have := h.len; omega, h.cd⟩
theorem hb_one {n : Nat} : Hb (n + 1) 1 := ⟨Nat.one_lt_two_pow (by omega), Nat.one_lt_two_pow (by omega)⟩
theorem scale_small {one : List Rat} (h : SmallR 6 one) : SmallR 6 (scaleL one (-1)) := by
  refine ⟨tr_scale _ _, Nat.le_trans (len_scale _ _) h.len, fun q hq => ?_⟩
  obtain ⟨x, hx, rfl⟩ := List.mem_map.mp (trim_mem q hq)
  have : x * (-1 : Rat) = -x := by grind
  rw [this]
  exact hb_neg (h.hb x hx)
theorem third : pair (1 / 3) = .tup [.int 1, .int 3] := by
  have h1 : (1 / 3 : Rat).num = 1 := by decide +kernel
  have h2 : (1 / 3 : Rat).den = 3 := by decide +kernel
  unfold pair
  rw [h1, h2]
  rfl
theorem third_rt : rt (-1) 1 = -1 := by decide +kernel
theorem hb_third : Hb 10 (1 / 3 : Rat) := ⟨by decide +kernel, by decide +kernel⟩
theorem one_cd {q : Rat} (h : Hb 10 q) : CD 11 (trim [q]) := cd_trim (cd_of_hb (by decide) (by simp) fun x hx => by
  have e : x = q := by simpa using hx
  rw [e]
  exact h.mono (by decide))
theorem one_len (q : Rat) : (trim [q]).length ≤ 1 := trim_len [q]
theorem add_row {n m : Nat} {s : Rat} {a b : List Rat} (hs : s = 1 ∨ s = -1) (ha : RowOk n a) (hb : RowOk m b) : RowOk (n + m + 1) (addL s a b) := ⟨tr_add _ _ _, by have := len_add s a b; have := ha.len; have := hb.len; omega, cd_add hs ha.cd hb.cd⟩
theorem mul_row {n m : Nat} {a b : List Rat} (ha : RowOk n a) (hb : RowOk m b) (hl : a.length + b.length ≤ 20) : RowOk (n + m + 10) (mulL a b) := ⟨tr_mul _ _, by have := len_mul a b; omega, cd_mul ha.cd hb.cd (by omega)⟩
theorem flat_row {q : Rat} (h : Hb 10 q) : RowOk 11 (trim [q]) := ⟨tr_trim _, by have := one_len q; omega, one_cd h⟩
theorem moved_row {one : List Rat} {s t : Rat} (h : SmallR 6 one) (hs : Hb 10 s) (ht : Hb 10 t) : RowOk 967 (movedL one s t) := by
  have hl := h.len
  obtain ⟨h1, h2⟩ := moved_size (hs.mono (by decide)) (ht.mono (by decide)) one (by omega) fun q hq => (h.hb q hq).mono (by decide)
  refine ⟨?_, by omega, h1.mono (by omega)⟩
  cases one with
  | nil => rfl
  | cons c r =>
    rw [moved_cons]
    exact tr_add _ _ _
theorem slope_row {one : List Rat} (h : SmallR 6 one) : RowOk 151 (slopeL one) := by
  have hm : ∀ q ∈ slopeL one, Hb 24 q := fun q hq => by
    obtain ⟨i, hi, e⟩ := List.mem_iff_getElem.mp hq
    have e2 : cf (slopeL one) i = q := by rw [cf_in hi, e]
    rw [← e2, cf_slope]
    by_cases hl : i + 1 < one.length
    · have h1 : Hb 10 (cf one (i + 1)) := by rw [cf_in hl]; exact h.hb _ (List.getElem_mem _)
      exact hb_mul (hb_nat (n := 0) (by have := h.len; omega)) h1
    · rw [cf_out (by omega)]
      have : ((i + 1 : Nat) : Rat) * 0 = 0 := by grind
      rw [this]
      exact hb_zero (by decide)
  have hl : (slopeL one).length ≤ 6 := by
    unfold slopeL
    refine Nat.le_trans (trim_len _) ?_
    rw [List.length_drop, List.length_map, List.length_range]
    have := h.len
    omega
  have hc : ∀ {l : List Rat}, (∀ q ∈ l, Hb 24 q) → CD (24 * l.length + 1) l := by
    intro l
    induction l with
    | nil => exact fun _ => (cd_of_hb (n := 1) (by decide) (by simp) (fun q hq => nomatch hq))
    | cons q l ih =>
      intro h
      have := cd_cons (h q (.head _)) (ih fun x hx => h x (.tail _ hx))
      rw [List.length_cons]
      exact this.mono (by omega)
  exact ⟨tr_slope _, by omega, (hc hm).mono (by omega)⟩
theorem area_hb {one : List Rat} (h : SmallR 6 one) : (areaL one).length ≤ 7 ∧ (∀ q ∈ areaL one, Hb 24 q) ∧ CD 200 (areaL one) := by
  have hl : (areaL one).length ≤ 7 := by
    unfold areaL
    refine Nat.le_trans (trim_len _) ?_
    rw [List.length_cons, List.length_map, List.length_range]
    have := h.len
    omega
  have hm : ∀ q ∈ areaL one, Hb 24 q := fun q hq => by
    obtain ⟨i, hi, e⟩ := List.mem_iff_getElem.mp hq
    have e2 : cf (areaL one) i = q := by rw [cf_in hi, e]
    rw [← e2]
    cases i with
    | zero =>
      rw [cf_area0]
      exact hb_zero (by decide)
    | succ i =>
      rw [cf_areaS]
      have h3 : ((i : Rat) + 1) = ((i + 1 : Nat) : Rat) := by simp
      by_cases hl2 : i < one.length
      · have h1 : Hb 10 (cf one i) := by rw [cf_in hl2]; exact h.hb _ (List.getElem_mem _)
        have := hb_divq (n := 10) (m := 14) h1 (hb_nat (n := 0) (j := i + 1) (by have := h.len; omega)) (by rw [← h3]; exact nat_succ_ne i)
        rw [h3]
        exact this
      · rw [cf_out (by omega)]
        have : (0 : Rat) / ((i : Rat) + 1) = 0 := by grind
        rw [this]
        exact hb_zero (by decide)
  have hc : ∀ {l : List Rat}, (∀ q ∈ l, Hb 24 q) → CD (24 * l.length + 1) l := by
    intro l
    induction l with
    | nil => exact fun _ => (cd_of_hb (n := 1) (by decide) (by simp) (fun q hq => nomatch hq))
    | cons q l ih =>
      intro h
      have := cd_cons (h q (.head _)) (ih fun x hx => h x (.tail _ hx))
      rw [List.length_cons]
      exact this.mono (by omega)
  exact ⟨hl, hm, (hc hm).mono (by omega)⟩
/-- a ratio as it is passed beside a polynomial -/
structure Bes (q : Rat) (d : D) : Prop where
  oth : isOth d
  wq : Wq d q
theorem bes_tup {q : Rat} (h : Hb 10 q) : Bes q (.tup [.int (3 * q.num), .int (3 * (q.den : Int))]) := ⟨trivial, passed_wq (n := 10) (.inr ⟨3, .inr (.inr rfl), .inl (by rw [Int.mul_comm 3, Int.mul_comm 3])⟩) h (by decide)⟩
theorem bes_pair {q : Rat} (h : Hb 10 q) : Bes q (pair q) := ⟨trivial, h.wq (by decide)⟩
theorem bes_int {q : Rat} (h : Hb 10 q) (hd : q.den = 1) : Bes q (.int q.num) := ⟨trivial, passed_wq (n := 10) (.inl ⟨hd, rfl⟩) h (by decide)⟩
theorem Bes.poly {q : Rat} {d : D} (h : Bes q d) : polyD d (trim [q]) := .inr ⟨q, h.wq, rfl⟩
end TM
/-! ## LwTop6 -/
set_option Elab.async false
set_option linter.all false
set_option maxRecDepth 100000
set_option maxHeartbeats 4000000
set_option exponentiation.threshold 100000
/-! LwTop6: the law, walked. -/
namespace TM
open PySem L2 PySem.Spec PyProof.Rows
theorem cd_negs {n : Nat} {l : List Rat} (h : CD n l) : CD n (scaleL l (-1)) := by
  obtain ⟨Dd, d0, d1, dz⟩ := h
  refine ⟨Dd, d0, d1, fun i => ?_⟩
  obtain ⟨z, hz, e⟩ := dz i
  exact ⟨-z, by rw [Int.natAbs_neg]; exact hz, by
    have hn : (((-z : Int)) : Rat) = -(z : Rat) := by simp
    rw [cf_scale, e, Rat.divInt_eq_div, Rat.divInt_eq_div, hn]
    grind⟩
section
variable {P : Program} {w : World} {K : PySem.W.Frag} {mg : Str → Option Value} {base : Heap} {f cb cr ci cu Pt : Addr} {fd : FuncData} {C : Addr} {k : Nat} {T : Tb}
abbrev lwN : List Str := ["_law_script", "_law_pen_here", "_law_lap", "_law_one", "_law_two", "_law_b", "_law_by", "_law_rows", "_law_flat", "_law_passed_here", "_law_start", "_law_step", "_law_moved", "_law_told_poly", "_law_due", "_law_a", "_law_more", "_law_odd"]
theorem sc_lw : FnScope lwN ["_law_script"] (defScope (top 69)) := ⟨rfl, rfl, rfl, by decide +kernel, rfl, by decide +kernel, by decide +kernel⟩
abbrev lwE (a0 p : Addr) (lap one two b by_ rows flat ps st sp mv tp du a more odd : Option D) : Env := [some (.val (.ref a0)), some (.val (.ref p)), lap, one, two, b, by_, rows, flat, ps, st, sp, mv, tp, du, a, more, odd]
/-- the law is called with the script: it answers True -/
def spLaw (K : PySem.W.Frag) (T : Tb) : Sp := fun vs H Q _ => ∃ (a : Addr) (ns : List Int), vs = [.ref a] ∧ SqL K H a (ns.map V.int) ∧ ns.length ≤ 1000 ∧ (∀ t ∈ T, t.1 ≠ a ∧ H t.1 = some (.tbl #[])) ∧ ∀ H', Q (.bl true) H'
abbrev lX (P : Program) (w : World) (K : PySem.W.Frag) (mg : Str → Option Value) (base : Heap) (f : Addr) (cd : Value) (A : Around) (outer : List PySem.Env) (s : Shared) (H : Hp) (E : XK) : Cx := bX P w K mg base lwN "law" (top 69) f cd A outer s H E
theorem law_lap (g : Gs K mg C) (V : PgV P w K mg base k C) (E : PgX P w K mg base k C cb cr) (L : LwV P w K mg base k C) (N : LwN P w K mg base k C) (W : WhyE K mg base cb cr ci cu) (LG : LamG base mg T fd.code ((("law" : Str) ++ ".<locals>.") ++ "<lambda>") Pt)
    (RR : FnT P w K mg base (k + 4) C T "_law_ratios_right" 64) (MR : FnT P w K mg base (k + 4) C T "_law_made_right" 200) (DR : FnT P w K mg base (k + 4) C T "_law_divided_right" 240)
    {A : Around} {outer : List PySem.Env} {s : Shared} {H : Hp} {E0 : XK} (hr : Room (k + 4) (A.deeper (envOfC "law" (defScope (top 69)) s.heap.objs.size f fd.code))) (hgd : A.guards = some [])
    {O : Addr → Prop} {H0 B H1 : Hp} {a0 p : Addr} {M : Nat} {De : Ends} {σ : L2.St} (hO : O p) (hT : ∀ t ∈ T, O t.1) (hM : M + 720 ≤ 2 ^ 40) {lap one0 two0 b0 by0 rows0 flat0 ps0 st0 sp0 mv0 tp0 du0 a1 more0 odd0 : Option D}
    (S : Stt C (owO O []) B H1 σ (lwE a0 p lap one0 two0 b0 by0 rows0 flat0 ps0 st0 sp0 mv0 tp0 du0 a1 more0 odd0) (penQ C O H0 p M T []))
    {body : List Stmt} (hbody : ∃ tg it q1, (defBody (top 69)).getD 1 (.Pass ⟨0, 0, 0, 0⟩) = .For tg it body [] q1)
    (fin : ∀ σ' H' x1 x2 x3 x4 x5 x6 x7 x8 x9 x10 x11 x12 x13 x14 x15 x16, Stt C (owO O []) B H' σ' (lwE a0 p x1 x2 x3 x4 x5 x6 x7 x8 x9 x10 x11 x12 x13 x14 x15 x16) (penQ C O H0 p (M + 720) T []) → De.nx σ' H') :
    ssw (lX P w K mg base f fd.code A outer s H E0) body De σ H1 := by
  obtain ⟨tg, it, q1, hb⟩ := hbody
  cases hb
  have hr0 : Room k (A.deeper (envOfC "law" (defScope (top 69)) s.heap.objs.size f fd.code)) := hr.mono (by omega)
  have hr1 : Room (k + 2) (A.deeper (envOfC "law" (defScope (top 69)) s.heap.objs.size f fd.code)) := hr.mono (by omega)
  have hO' : owO O [] p := .inl hO
  have hOP : O Pt := hT _ LG.mem
  -- two polynomials
  refine (gq_parN (J := penQ C O H0 p (M + 34 + 34) T []) (Ψ := fun ds => ∃ x y, ds = [.lst (prs x), .lst (prs y)] ∧ SmallR 6 x ∧ SmallR 6 y) 3 4 S ?hc1 ?nd1 ?h1 ?p1 ?k1 ?hi1 ?hj1 ?ij1 ?hx1 ?hy1 ?hw1 ?hs1 : ssw _ _ _ _ _)
  case hc1 => rfl
  case nd1 => exact sc_lw.nd
  case hi1 => rfl
  case hj1 => rfl
  case ij1 => decide
  case hx1 => rfl
  case hy1 => rfl
  case hw1 => rfl
  case hs1 => rfl
  case p1 =>
    rintro ds ⟨x, y, rfl, _⟩
    exact ⟨_, _, rfl⟩
  case h1 =>
    refine EvA.liftQ fun H1 => ga_imp (ga_consn (J := penG (owO O []) H1 p (M + 34)) (Φ := fun z => ∃ x, z = .lst (prs x) ∧ SmallR 6 x) (Ψ := fun _ ds => ∃ d, ds = [d] ∧ ∃ x, d = .lst (prs x) ∧ SmallR 6 x) ?_ (fun d _ => ga_oneN ?_)) ?_
    · refine Ev.imp (ge_callN (N := M) (m := 34) (ds := [.int 5, .int 5]) (pre := preDrawn) (R := Rdrawn) N.drawn hr0 hO' (ga_cons (ge_var 1) (ga_two ge_int ge_int)) ⟨5, 5, rfl, by omega, by omega, by omega, by omega⟩ (by omega)) ?_
      rintro z ⟨d, m, qs, e, rfl, h1, h2, h3⟩
      cases e
      exact ⟨qs, rfl, h1, by omega, h3⟩
    · refine Ev.imp (ge_callN (N := M + 34) (m := 34) (ds := [.int 5, .int 5]) (pre := preDrawn) (R := Rdrawn) N.drawn hr0 hO' (ga_cons (ge_var 1) (ga_two ge_int ge_int)) ⟨5, 5, rfl, by omega, by omega, by omega, by omega⟩ (by omega)) ?_
      rintro z ⟨d, m, qs, e, rfl, h1, h2, h3⟩
      cases e
      exact ⟨qs, rfl, h1, by omega, h3⟩
    · rintro ds ⟨d, ds', rfl, ⟨x, rfl, hx⟩, z, rfl, y, rfl, hy⟩
      exact ⟨x, y, rfl, hx, hy⟩
  rintro σ1 H2 d1 d2 ⟨one, two1, e, ho, ht1⟩ S1
  cases e
  have ro := small_row ho
  have hlo := ho.len
  have ho4 : ∀ q ∈ one, Hb 4490 q := fun q hq => (ho.hb q hq).mono (by decide)
  have r13 : RowOk 11 (trim [1 / 3]) := flat_row hb_third
  have e13 : trim [(1 / 3 : Rat)] = [1 / 3] := by decide +kernel
  rw [e13] at r13
  have sc1 : RlScaled [.lst (prs one), .tup [.int (-1), .int 1]] (.lst (prs (scaleL one (-1)))) := ⟨one, _, -1, 1, rfl, rfl, by decide, by omega, ho4, ⟨by decide, by decide⟩, by rw [third_rt]⟩
  refine (gq_set (x := "_law_two") (J := penQ C O H0 p (M + 34 + 34 + 1) T []) (Φ := fun z => ∃ y, z = .lst (prs y) ∧ RowOk 100 y ∧ y.length ≤ 6) 4 S1 ?nd2 ?h2 ?k2 ?hi2 ?hx2 ?hs2 ?hf2 : ssw _ _ _ _ _)
  case nd2 => exact sc_lw.nd
  case hi2 => rfl
  case hx2 => exact .inl rfl
  case hs2 => rfl
  case hf2 => exact .inl rfl
  case h2 =>
    refine Ev.liftQ fun H1 => Ev.imp (ge_callN (N := M + 34 + 34) (m := 1) (ds := [.lst [.lst (prs two1), .lst (prs two1), .lst (prs (scaleL one (-1))), .lst (prs (addL 1 one [1 / 3]))]]) (pre := prePick) (R := Rpick) N.pick hr0 hO' (ga_two (ge_var 1) (ge_lst ?_)) ⟨_, _, rfl, rfl, by simp, by simp⟩ (by omega)) ?_
    · refine (ga_cons (J := penG (owO O []) H1 p (M + 34 + 34)) (d := .lst (prs two1)) ?x1 ?y1 st_n : GA _ _ _ _ _ _ _ _)
      case x1 => exact ge_var 4
      refine (ga_cons (J := penG (owO O []) H1 p (M + 34 + 34)) (d := .lst (prs two1)) ?x2 ?y2 st_n : GA _ _ _ _ _ _ _ _)
      case x2 => exact ge_var 4
      refine (ga_two (J := penG (owO O []) H1 p (M + 34 + 34)) ?x3 ?x4 ?x5 ?x6 : GA _ _ _ _ _ _ _ _)
      case x5 => rfl
      case x6 => rfl
      case x3 => exact ge_call L.scaled hr0 (ga_two (ge_var 3) (ge_tup (ga_two (ge_neg ge_int) ge_int))) sc1
      case x4 => exact ge_call L.pplus hr0 (ga_two (ge_var 3) (ge_lst (ga_one ((ge_tup (ga_two ge_int ge_int)).is third.symm)))) ⟨one, [1 / 3], rfl, by omega, by simp, ro.cd.mono (by decide), r13.cd.mono (by decide), rfl⟩
    · rintro r ⟨d, es, e1, e2, e3⟩
      cases e1
      cases e2
      simp only [List.mem_cons, List.not_mem_nil, or_false] at e3
      rcases e3 with rfl | rfl | rfl | rfl
      · exact ⟨two1, rfl, (small_row ht1).mono (by decide), ht1.len⟩
      · exact ⟨two1, rfl, (small_row ht1).mono (by decide), ht1.len⟩
      · exact ⟨_, rfl, (small_row (scale_small ho)).mono (by decide), (scale_small ho).len⟩
      · exact ⟨_, rfl, (add_row (.inl rfl) ro r13).mono (by decide), by have := len_add 1 one [1 / 3]; simp at this; omega⟩
  rintro σ2 H3 d3 ⟨two, rfl, rt, hlt⟩ S2
  -- the objects
  refine (gq_tupN (J := penQ C O H0 p (M + 34 + 34 + 1 + 62 + 62 + 3) T []) (Ψ := fun ds => ∃ q : Rat, ds = [.poly one, .poly two, pair q] ∧ Hb 10 q) (f := f3 15 5 6) (dom := three) (vs := [15, 5, 6]) S2 ?T3 ?h3 ?d3 ?k3 ?s3 ?w3 ?a3 : ssw _ _ _ _ _)
  case T3 => exact tg_three (i := 15) (j := 5) (l := 6) rfl sc_lw.nd rfl (.inr rfl) rfl (.inl rfl) rfl (.inl rfl) (by simp) (by simp) (by simp)
  case s3 => rfl
  case w3 => rfl
  case a3 => rfl
  case d3 =>
    rintro ds ⟨q, rfl, _⟩
    exact ⟨by simp, _, _, _, rfl⟩
  case h3 =>
    refine EvA.liftQ fun H1 => ga_imp (ga_consn (J := penG (owO O []) H1 p (M + 34 + 34 + 1 + 62)) (Φ := fun z => z = .poly one) (Ψ := fun _ ds => ∃ d ds', ds = d :: ds' ∧ d = .poly two ∧ ∃ d2, ds' = [d2] ∧ ∃ q : Rat, d2 = pair q ∧ Hb 10 q) ?_ (fun d _ => ga_consn (J := penG (owO O []) H1 p (M + 34 + 34 + 1 + 62 + 62)) (Φ := fun z => z = .poly two) (Ψ := fun _ ds => ∃ d2, ds = [d2] ∧ ∃ q : Rat, d2 = pair q ∧ Hb 10 q) ?_ (fun d _ => ga_oneN ?_))) ?_
    · refine (ge_callN (N := M + 34 + 34 + 1) (m := 62) (ds := [.lst (prs one)]) (pre := preMade) (R := Rmade) N.made hr0 hO' (ga_two (ge_var 1) (ge_var 3)) ⟨one, rfl, by omega, fun q hq => (ho.hb q hq).mono (by decide)⟩ (by omega)).imp ?_
      rintro z ⟨qs, e, rfl⟩
      have e1 : prs one = prs qs := by simpa using e
      rw [← prs_inj e1, show trim one = one from ho.tr]
    · refine (ge_callN (N := M + 34 + 34 + 1 + 62) (m := 62) (ds := [.lst (prs two)]) (pre := preMade) (R := Rmade) N.made hr0 hO' (ga_two (ge_var 1) (ge_var 4)) ⟨two, rfl, by omega, fun q hq => (cd_mem rt.cd q hq).mono (by decide)⟩ (by omega)).imp ?_
      rintro z ⟨qs, e, rfl⟩
      have e1 : prs two = prs qs := by simpa using e
      rw [← prs_inj e1, show trim two = two from rt.tr]
    · refine (ge_callN (N := M + 34 + 34 + 1 + 62 + 62) (m := 3) (ds := [.int 7]) (pre := preRatio) (R := Rratio) N.ratio hr0 hO' (ga_two (ge_var 1) ge_int) ⟨7, rfl, by omega, by omega⟩ (by omega)).imp ?_
      rintro z ⟨q, rfl, hq⟩
      exact ⟨q, rfl, hq⟩
    · rintro ds ⟨d, ds', rfl, rfl, d2, ds2, rfl, rfl, z, rfl, q, rfl, hq⟩
      exact ⟨q, rfl, hq⟩
  rintro σ3 H4 ds ⟨by_, rfl, hby⟩ S3
  obtain ⟨N1, hN1⟩ : ∃ N1, N1 = M + 34 + 34 + 1 + 62 + 62 + 3 := ⟨_, rfl⟩
  rw [← hN1] at S3
  replace S3 : Stt C (owO O []) B H4 σ3 (lwE a0 p lap (some (.lst (prs one))) (some (.lst (prs two))) (some (.poly two)) (some (pair by_)) rows0 flat0 ps0 st0 sp0 mv0 tp0 du0 (some (.poly one)) more0 odd0) (penQ C O H0 p N1 T []) := S3
  have c1 : CD 2200 one := ro.cd.mono (by decide)
  have c2 : CD 2200 two := rt.cd.mono (by decide)
  have s2 : CD 2200 (scaleL two (-1)) := cd_negs c2
  have s1 : CD 2200 (scaleL one (-1)) := (small_row (scale_small ho)).cd.mono (by decide)
  -- the first rows
  refine (gq_set (x := "_law_rows") (J := penQ C O H0 p N1 T []) (Φ := Is (.lst [rowD (addL 1 one two), rowD (addL (-1) one two), rowD (mulL one two)])) 7 S3 ?nd4 ?h4 ?k4 ?hi4 ?hx4 ?hs4 ?hf4 : ssw _ _ _ _ _)
  case nd4 => exact sc_lw.nd
  case hi4 => rfl
  case hx4 => exact .inl rfl
  case hs4 => rfl
  case hf4 => exact .inl rfl
  case h4 =>
    refine ge_lst ?_
    refine (ga_cons (J := penQ C O H0 p N1 T []) (d := rowD (addL 1 one two)) ?x1f ?y1f st_t : GA _ _ _ _ _ _ _ _)
    case x1f => exact ge_tup (ga_two (ge_opL V.ops.dA V.ops.add V.ops.radd rfl hr0 (ge_var 15) (ge_var 5) (.inl ⟨_, rfl⟩) ⟨one, two, _, rfl, .inl rfl, by omega, by omega, c1, c2, rfl⟩) (ge_call L.pplus hr0 (ga_two (ge_var 3) (ge_var 4)) ⟨one, two, rfl, by omega, by omega, c1, c2, rfl⟩))
    refine (ga_two (J := penQ C O H0 p N1 T []) (d1 := rowD (addL (-1) one two)) (d2 := rowD (mulL one two)) ?x2f ?x3f st_t st_t : GA _ _ _ _ _ _ _ _)
    case x2f => exact ge_tup (ga_two (ge_opL V.ops.dS V.ops.sub V.ops.rsub rfl hr0 (ge_var 15) (ge_var 5) (.inl ⟨_, rfl⟩) ⟨one, two, _, rfl, .inl rfl, by omega, by omega, c1, c2, rfl⟩) ((ge_call L.pminus hr0 (ga_two (ge_var 3) (ge_var 4)) ⟨one, two, rfl, by omega, by omega, c1, c2, s2, rfl⟩).is (by rw [add_minus])))
    case x3f => exact ge_tup (ga_two (ge_opL V.ops.dM V.ops.mul V.ops.rmul rfl hr0 (ge_var 15) (ge_var 5) (.inl ⟨_, rfl⟩) ⟨one, two, 61, 100, _, rfl, .inl rfl, by omega, by omega, ro.cd, rt.cd, by omega, rfl⟩) (ge_call L.ptimes hr0 (ga_two (ge_var 3) (ge_var 4)) ⟨one, two, 61, 100, rfl, by omega, by omega, ro.cd, rt.cd, by omega, rfl⟩))
  rintro σ4 H5 d4 rfl S4
  obtain ⟨la, ha, ca⟩ := area_hb ho
  refine (gq_set (x := "_law_rows") (J := penQ C O H0 p N1 T []) (Φ := Is (.lst ([rowD (addL 1 one two), rowD (addL (-1) one two), rowD (mulL one two)] ++ [rowD (negL one), rowD (slopeL one), rowD one]))) 7 S4 ?nd5 ?h5 ?k5 ?hi5 ?hx5 ?hs5 ?hf5 : ssw _ _ _ _ _)
  case nd5 => exact sc_lw.nd
  case hi5 => rfl
  case hx5 => exact .inl rfl
  case hs5 => rfl
  case hf5 => exact .inl rfl
  case h5 =>
    refine ge_cat (J := penQ C O H0 p N1 T []) (ge_var 7) (ge_lst ?_) (by simp)
    refine (ga_cons (J := penQ C O H0 p N1 T []) (d := rowD (negL one)) ?x1g ?y1g st_t : GA _ _ _ _ _ _ _ _)
    case x1g => exact ge_tup (ga_two (ge_negO V.neg hr0 (ge_var 15) ⟨one, rfl, by omega, ro.cd.mono (by decide), rfl⟩) ((ge_call L.scaled hr0 (ga_two (ge_var 3) (ge_tup (ga_two (ge_neg ge_int) ge_int))) sc1).is (by rw [neg_scale])))
    refine (ga_two (J := penQ C O H0 p N1 T []) (d1 := rowD (slopeL one)) (d2 := rowD one) ?x2g ?x3g st_t st_t : GA _ _ _ _ _ _ _ _)
    case x2g => exact ge_tup (ga_two (ge_meth0 g.pc.cl V.slope hr0 (ge_var 15) ⟨one, rfl, by omega, ro.cd.mono (by decide), rfl⟩) (ge_call L.pslope hr0 (ga_one (ge_var 3)) ⟨one, rfl, by omega, ho4, rfl⟩))
    case x3g => exact ge_tup (ga_two ((ge_meth0 g.pc.cl V.slope hr0 (ge_meth0 g.pc.cl V.area hr0 (ge_var 15) ⟨one, rfl, by omega, ro.cd.mono (by decide), rfl⟩) ⟨areaL one, rfl, by omega, ca.mono (by decide), rfl⟩).is (by rw [slope_area ho.tr])) (ge_var 3))
  rintro σ5 H6 d5 rfl S5
  have rf := flat_row hby
  have lf := one_len by_
  have cf2 : CD 2200 (trim [by_]) := rf.cd.mono (by decide)
  have sf : CD 2200 (scaleL (trim [by_]) (-1)) := cd_negs cf2
  refine (gq_set (x := "_law_flat") (J := penQ C O H0 p N1 T []) (Φ := Is (.lst (prs (trim [by_])))) 8 S5 ?nd6 ?h6 ?k6 ?hi6 ?hx6 ?hs6 ?hf6 : ssw _ _ _ _ _)
  case nd6 => exact sc_lw.nd
  case hi6 => rfl
  case hx6 => exact .inl rfl
  case hs6 => rfl
  case hf6 => exact .inl rfl
  case h6 => exact ge_call L.poly hr0 (ga_one (ge_lst (ga_one (ge_var 6)))) ⟨[by_], rfl, by simp, rfl⟩
  rintro σ6 H7 d6 rfl S6
  -- a ratio beside them
  refine (gq_set (x := "_law_passed_here") (J := penQ C O H0 p (N1 + 1) T []) (Φ := Bes by_) 9 S6 ?nd7 ?h7 ?k7 ?hi7 ?hx7 ?hs7 ?hf7 : ssw _ _ _ _ _)
  case nd7 => exact sc_lw.nd
  case hi7 => rfl
  case hx7 => exact .inl rfl
  case hs7 => rfl
  case hf7 => exact .inl rfl
  case h7 =>
    have m3 : ∀ z : Int, CMulW 3 z ∨ True := fun _ => .inr trivial
    have hl1 := hb_smI hby (by decide)
    have q1 : Nat.log2 (3 : Int).natAbs = 1 := by decide
    have w1 : CMulW 3 by_.num := by
      show (3 : Int).natAbs.log2 + by_.num.natAbs.log2 < 1000000
      have := hl1.1
      unfold smI at this
      omega
    have w2 : CMulW 3 (by_.den : Int) := by
      show (3 : Int).natAbs.log2 + (by_.den : Int).natAbs.log2 < 1000000
      have := hl1.2
      unfold smI at this
      omega
    refine Ev.liftQ fun H1 => Ev.imp (ge_callN (N := N1) (m := 1) (ds := [.lst ([pair by_, .tup [.int (3 * by_.num), .int (3 * (by_.den : Int))]] ++ (if by_.den = 1 then [.int by_.num] else []))]) (pre := prePick) (R := Rpick) N.pick hr0 hO' (ga_two (ge_var 1) (ge_cat (ge_lst (ga_two (ge_var 6) (ge_tup (ga_two (ge_mul ge_int (ge_ix (ge_var 6) ge_int rfl rfl) w1) (ge_mul ge_int (ge_ix (ge_var 6) ge_int rfl rfl) w2))))) (ge_if (k := decide ((by_.den : Int) = 1)) (gt_eqI (ge_ix (ge_var 6) ge_int rfl rfl) ge_int) (fun z => (ge_lst (ga_one (ge_ix (ge_var 6) ge_int rfl rfl))).is ?_) (fun z => (ge_lst ga_nil).is ?_)) ?_)) ⟨_, _, rfl, rfl, by simp, ?_⟩ (by omega)) ?_
    · rw [if_pos (by have := of_decide_eq_true z; omega)]
    · rw [if_neg (by have := of_decide_eq_false z; omega)]
    · split <;> simp
    · split <;> simp
    · rintro r ⟨d, es, e1, e2, e3⟩
      cases e1
      cases e2
      rcases List.mem_append.mp e3 with h | h
      · simp only [List.mem_cons, List.not_mem_nil, or_false] at h
        rcases h with rfl | rfl
        · exact bes_pair hby
        · exact bes_tup hby
      · by_cases hd : by_.den = 1
        · rw [if_pos hd] at h
          have e : r = .int by_.num := by simpa using h
          rw [e]
          exact bes_int hby hd
        · rw [if_neg hd] at h
          cases h
  rintro σ7 H8 psd hps S7
  obtain ⟨N2, hN2⟩ : ∃ N2, N2 = N1 + 1 := ⟨_, rfl⟩
  rw [← hN2] at S7
  -- rows with it
  refine (gq_set (x := "_law_rows") (J := penQ C O H0 p N2 T []) (Φ := Is (.lst ([rowD (addL 1 one two), rowD (addL (-1) one two), rowD (mulL one two), rowD (negL one), rowD (slopeL one), rowD one] ++ [rowD (addL 1 one (trim [by_])), rowD (addL 1 one (trim [by_]))]))) 7 S7 ?nd8 ?h8 ?k8 ?hi8 ?hx8 ?hs8 ?hf8 : ssw _ _ _ _ _)
  case nd8 => exact sc_lw.nd
  case hi8 => rfl
  case hx8 => exact .inl rfl
  case hs8 => rfl
  case hf8 => exact .inl rfl
  case h8 =>
    refine ge_cat (J := penQ C O H0 p N2 T []) (ge_var 7) (ge_lst ?_) (by simp)
    refine (ga_two (J := penQ C O H0 p N2 T []) (d1 := rowD (addL 1 one (trim [by_]))) (d2 := rowD (addL 1 one (trim [by_]))) ?x2h ?x3h st_t st_t : GA _ _ _ _ _ _ _ _)
    case x2h => exact ge_tup (ga_two (ge_opL V.ops.dA V.ops.add V.ops.radd rfl hr0 (ge_var 15) (ge_var 9) (.inr hps.oth) ⟨one, trim [by_], _, rfl, hps.poly, by omega, by omega, c1, cf2, rfl⟩) (ge_call L.pplus hr0 (ga_two (ge_var 3) (ge_var 8)) ⟨one, _, rfl, by omega, by omega, c1, cf2, rfl⟩))
    case x3h => exact ge_tup (ga_two ((ge_addR V.ops.dA V.ops.radd V.ops.add hr0 (ge_var 9) (ge_var 15) hps.oth ⟨one, trim [by_], _, rfl, hps.poly, by omega, by omega, c1, cf2, rfl⟩).is (by rw [add_comm'])) (ge_call L.pplus hr0 (ga_two (ge_var 3) (ge_var 8)) ⟨one, _, rfl, by omega, by omega, c1, cf2, rfl⟩))
  rintro σ8 H9 d8 rfl S8
  refine (gq_set (x := "_law_rows") (J := penQ C O H0 p N2 T []) (Φ := Is (.lst ([rowD (addL 1 one two), rowD (addL (-1) one two), rowD (mulL one two), rowD (negL one), rowD (slopeL one), rowD one, rowD (addL 1 one (trim [by_])), rowD (addL 1 one (trim [by_]))] ++ [rowD (mulL one (trim [by_])), rowD (addL (-1) (trim [by_]) one)]))) 7 S8 ?nd9 ?h9 ?k9 ?hi9 ?hx9 ?hs9 ?hf9 : ssw _ _ _ _ _)
  case nd9 => exact sc_lw.nd
  case hi9 => rfl
  case hx9 => exact .inl rfl
  case hs9 => rfl
  case hf9 => exact .inl rfl
  case h9 =>
    refine ge_cat (J := penQ C O H0 p N2 T []) (ge_var 7) (ge_lst ?_) (by simp)
    refine (ga_two (J := penQ C O H0 p N2 T []) (d1 := rowD (mulL one (trim [by_]))) (d2 := rowD (addL (-1) (trim [by_]) one)) ?x2i ?x3i st_t st_t : GA _ _ _ _ _ _ _ _)
    case x2i => exact ge_tup (ga_two ((ge_mulR V.ops.dM V.ops.rmul V.ops.mul hr0 (ge_var 9) (ge_var 15) hps.oth ⟨one, trim [by_], 61, 11, _, rfl, hps.poly, by omega, by omega, ro.cd, rf.cd, by omega, rfl⟩).is (by rw [mul_comm'])) (ge_call L.ptimes hr0 (ga_two (ge_var 3) (ge_var 8)) ⟨one, _, 61, 11, rfl, by omega, by omega, ro.cd, rf.cd, by omega, rfl⟩))
    case x3i => exact ge_tup (ga_two (ge_subR V.ops.dS V.ops.rsub V.ops.sub hr0 (ge_var 9) (ge_var 15) hps.oth ⟨one, trim [by_], _, rfl, hps.poly, by omega, by omega, c1, cf2, rfl⟩) ((ge_call L.pminus hr0 (ga_two (ge_var 8) (ge_var 3)) ⟨_, one, rfl, by omega, by omega, cf2, c1, s1, rfl⟩).is (by rw [add_minus])))
  rintro σ9 H10 d9 rfl S9
  refine (gq_set (x := "_law_rows") (J := penQ C O H0 p N2 T []) (Φ := Is (.lst ([rowD (addL 1 one two), rowD (addL (-1) one two), rowD (mulL one two), rowD (negL one), rowD (slopeL one), rowD one, rowD (addL 1 one (trim [by_])), rowD (addL 1 one (trim [by_])), rowD (mulL one (trim [by_])), rowD (addL (-1) (trim [by_]) one)] ++ [rowD (mulL one (trim [by_])), rowD (addL (-1) one (trim [by_]))]))) 7 S9 ?nd10 ?h10 ?k10 ?hi10 ?hx10 ?hs10 ?hf10 : ssw _ _ _ _ _)
  case nd10 => exact sc_lw.nd
  case hi10 => rfl
  case hx10 => exact .inl rfl
  case hs10 => rfl
  case hf10 => exact .inl rfl
  case h10 =>
    refine ge_cat (J := penQ C O H0 p N2 T []) (ge_var 7) (ge_lst ?_) (by simp)
    refine (ga_two (J := penQ C O H0 p N2 T []) (d1 := rowD (mulL one (trim [by_]))) (d2 := rowD (addL (-1) one (trim [by_]))) ?x2j ?x3j st_t st_t : GA _ _ _ _ _ _ _ _)
    case x2j => exact ge_tup (ga_two (ge_opL V.ops.dM V.ops.mul V.ops.rmul rfl hr0 (ge_var 15) (ge_var 9) (.inr hps.oth) ⟨one, trim [by_], 61, 11, _, rfl, hps.poly, by omega, by omega, ro.cd, rf.cd, by omega, rfl⟩) (ge_call L.ptimes hr0 (ga_two (ge_var 3) (ge_var 8)) ⟨one, _, 61, 11, rfl, by omega, by omega, ro.cd, rf.cd, by omega, rfl⟩))
    case x3j => exact ge_tup (ga_two (ge_opL V.ops.dS V.ops.sub V.ops.rsub rfl hr0 (ge_var 15) (ge_var 9) (.inr hps.oth) ⟨one, trim [by_], _, rfl, hps.poly, by omega, by omega, c1, cf2, rfl⟩) ((ge_call L.pminus hr0 (ga_two (ge_var 3) (ge_var 8)) ⟨one, _, rfl, by omega, by omega, c1, cf2, sf, rfl⟩).is (by rw [add_minus])))
  rintro σ10 H11 d10 rfl S10
  obtain ⟨rs, hrs, hrl, hrok⟩ : ∃ rs : List (List Rat), [rowD (addL 1 one two), rowD (addL (-1) one two), rowD (mulL one two), rowD (negL one), rowD (slopeL one), rowD one, rowD (addL 1 one (trim [by_])), rowD (addL 1 one (trim [by_])), rowD (mulL one (trim [by_])), rowD (addL (-1) (trim [by_]) one)] ++ [rowD (mulL one (trim [by_])), rowD (addL (-1) one (trim [by_]))] = rs.map rowD ∧ rs.length = 12 ∧ ∀ r ∈ rs, RowOk 1000 r := by
    refine ⟨[addL 1 one two, addL (-1) one two, mulL one two, negL one, slopeL one, one, addL 1 one (trim [by_]), addL 1 one (trim [by_]), mulL one (trim [by_]), addL (-1) (trim [by_]) one, mulL one (trim [by_]), addL (-1) one (trim [by_])], rfl, rfl, fun r hr => ?_⟩
    simp only [List.mem_cons, List.not_mem_nil, or_false] at hr
    rcases hr with rfl | rfl | rfl | rfl | rfl | rfl | rfl | rfl | rfl | rfl | rfl | rfl
    · exact (add_row (.inl rfl) ro rt).mono (by decide)
    · exact (add_row (.inr rfl) ro rt).mono (by decide)
    · exact (mul_row ro rt (by omega)).mono (by decide)
    · rw [neg_scale]
      exact (small_row (scale_small ho)).mono (by decide)
    · exact (slope_row ho).mono (by decide)
    · exact ro.mono (by decide)
    · exact (add_row (.inl rfl) ro rf).mono (by decide)
    · exact (add_row (.inl rfl) ro rf).mono (by decide)
    · exact (mul_row ro rf (by omega)).mono (by decide)
    · exact (add_row (.inr rfl) rf ro).mono (by decide)
    · exact (mul_row ro rf (by omega)).mono (by decide)
    · exact (add_row (.inr rfl) ro rf).mono (by decide)
  rw [hrs] at S10
  replace S10 : Stt C (owO O []) B H11 σ10 (lwE a0 p lap (some (.lst (prs one))) (some (.lst (prs two))) (some (.poly two)) (some (pair by_)) (some (.lst (rs.map rowD))) (some (.lst (prs (trim [by_])))) (some psd) st0 sp0 mv0 tp0 du0 (some (.poly one)) more0 odd0) (penQ C O H0 p N2 T []) := S10
  -- another argument
  refine (gq_parN (J := penQ C O H0 p (N2 + 3 + 3 + 1) T []) (Ψ := fun ds => ∃ x y : Rat, ds = [pair x, pair y] ∧ Hb 10 x ∧ Hb 10 y) 10 11 S10 ?hc11 ?nd11 ?h11 ?p11 ?k11 ?hi11 ?hj11 ?ij11 ?hx11 ?hy11 ?hw11 ?hs11 : ssw _ _ _ _ _)
  case hc11 => rfl
  case nd11 => exact sc_lw.nd
  case hi11 => rfl
  case hj11 => rfl
  case ij11 => decide
  case hx11 => rfl
  case hy11 => rfl
  case hw11 => rfl
  case hs11 => rfl
  case p11 =>
    rintro ds ⟨x, y, rfl, _⟩
    exact ⟨_, _, rfl⟩
  case h11 =>
    refine EvA.liftQ fun H1 => ga_imp (ga_consn (J := penG (owO O []) H1 p (N2 + 3)) (Φ := fun z => ∃ x : Rat, z = pair x ∧ Hb 10 x) (Ψ := fun _ ds => ∃ d, ds = [d] ∧ ∃ x : Rat, d = pair x ∧ Hb 10 x) ?_ (fun d _ => ga_oneN ?_)) ?_
    · exact (ge_callN (N := N2) (m := 3) (ds := [.int 3]) (pre := preRatio) (R := Rratio) N.ratio hr0 hO' (ga_two (ge_var 1) ge_int) ⟨3, rfl, by omega, by omega⟩ (by omega)).imp fun z h => h
    · refine Ev.imp (ge_callNn (N := N2 + 3 + 3) (m := 1) (Ψ := fun ds => ∃ x : Rat, ds = [.lst [pair 0, pair x]] ∧ Hb 10 x) (pre := prePick) (R := Rpick) N.pick hr0 hO' (ga_imp (ga_consK (J := penG (owO O []) H1 p (N2 + 3)) (ge_var 1) (ga_oneN (ge_lstn (Ψ := fun ds => ∃ x : Rat, ds = [pair 0, pair x] ∧ Hb 10 x) (ga_imp (ga_consK (J := penG (owO O []) H1 p (N2 + 3)) (d := pair 0) (ge_tup (ga_two ge_int ge_int)) (ga_oneN (ge_callN (N := N2 + 3) (m := 3) (ds := [.int 3]) (pre := preRatio) (R := Rratio) N.ratio hr0 hO' (ga_two (ge_var 1) ge_int) ⟨3, rfl, by omega, by omega⟩ (by omega)))) ?_) ?_))) ?_) ?_ (by omega)) ?_
      · rintro ds ⟨d0, rfl, d, rfl, x, rfl, hx⟩
        exact ⟨x, rfl, hx⟩
      · rintro ds ⟨x, rfl, _⟩
        simp
      · rintro ds ⟨ds', rfl, z, rfl, es, rfl, x, rfl, hx⟩
        exact ⟨_, rfl, x, rfl, hx⟩
      · rintro ds ⟨x, rfl, _⟩
        exact ⟨_, _, rfl, rfl, by simp, by simp⟩
      · rintro r ⟨ds, ⟨x, rfl, hx⟩, d, es, e1, e2, e3⟩
        cases e1
        cases e2
        simp only [List.mem_cons, List.not_mem_nil, or_false] at e3
        rcases e3 with rfl | rfl
        · exact ⟨0, rfl, hb_zero (by decide)⟩
        · exact ⟨x, rfl, hx⟩
    · rintro ds ⟨d, ds', rfl, ⟨x, rfl, hx⟩, z, rfl, y, rfl, hy⟩
      exact ⟨x, y, rfl, hx, hy⟩
  rintro σ11 H12 d1 d2 ⟨sta, ste, e, hsa, hse⟩ S11
  cases e
  have wqOf : ∀ {x : Rat} {d : D}, Hb 10 x → passedD x d → Wq d x := fun hx h => passed_wq (n := 10) h hx (by decide)
  have ho50 : ∀ q ∈ one, Hb 50 q := fun q hq => (ho.hb q hq).mono (by decide)
  have ho100 : ∀ q ∈ one, Hb 100 q := fun q hq => (ho.hb q hq).mono (by decide)
  refine (gq_set (x := "_law_moved") (J := penQ C O H0 p (N2 + 3 + 3 + 1 + 3 + 3) T []) (Φ := Is (.poly (movedL one sta ste))) 12 S11 ?nd12 ?h12 ?k12 ?hi12 ?hx12 ?hs12 ?hf12 : ssw _ _ _ _ _)
  case nd12 => exact sc_lw.nd
  case hi12 => rfl
  case hx12 => exact .inl rfl
  case hs12 => rfl
  case hf12 => exact .inl rfl
  case h12 =>
    refine Ev.liftQ fun H1 => ge_methN (J := penG (owO O []) H1 p (N2 + 3 + 3 + 1)) (Ψ := fun ds => ∃ x y, ds = [x, y] ∧ passedD sta x ∧ passedD ste y) g.pc.cl V.moved hr0 (ge_var 15) (ga_imp (ga_consn (J := penG (owO O []) H1 p (N2 + 3 + 3 + 1 + 3)) (Φ := fun z => passedD sta z) (Ψ := fun _ ds => ∃ d, ds = [d] ∧ passedD ste d) ?_ (fun d _ => ga_oneN ?_)) ?_) ?_
    · refine (ge_callN (N := N2 + 3 + 3 + 1) (ds := [pair sta]) (pre := prePassed) (R := Rpassed) N.passed hr0 hO' (ga_two (ge_var 1) (ge_var 10)) ⟨sta, rfl, hsa.mono (by decide)⟩ (by omega)).imp ?_
      rintro z ⟨q, e, h⟩
      have : sta = q := pair_inj (List.cons.inj e).1
      rw [this]
      exact h
    · refine (ge_callN (N := N2 + 3 + 3 + 1 + 3) (ds := [pair ste]) (pre := prePassed) (R := Rpassed) N.passed hr0 hO' (ga_two (ge_var 1) (ge_var 11)) ⟨ste, rfl, hse.mono (by decide)⟩ (by omega)).imp ?_
      rintro z ⟨q, e, h⟩
      have : ste = q := pair_inj (List.cons.inj e).1
      rw [this]
      exact h
    · rintro ds ⟨a, ds', rfl, ha, b, rfl, hb⟩
      exact ⟨a, b, rfl, ha, hb⟩
    · rintro ds ⟨x, y, rfl, hx, hy⟩
      exact ⟨one, x, y, sta, ste, rfl, wqOf hsa hx, wqOf hse hy, hsa.mono (by decide), hse.mono (by decide), by omega, ho50, rfl⟩
  rintro σ12 H13 d12 rfl S12
  obtain ⟨N3, hN3⟩ : ∃ N3, N3 = N2 + 3 + 3 + 1 + 3 + 3 := ⟨_, rfl⟩
  rw [← hN3] at S12
  have rm := moved_row ho hsa hse
  have all : ∀ r ∈ rs ++ [movedL one sta ste], RowOk 1000 r := fun r hr => by
    rcases List.mem_append.mp hr with h | h
    · exact hrok r h
    · have e : r = movedL one sta ste := by simpa using h
      rw [e]
      exact rm.mono (by decide)
  have hlen : (rs.map rowD ++ [rowD (movedL one sta ste)]).length = 13 := by
    rw [List.length_append, List.length_map, hrl]
    rfl
  have hat : ∀ i, i < 13 → ∃ r, RowOk 1000 r ∧ (rs.map rowD ++ [rowD (movedL one sta ste)]).getD i .non = rowD r := fun i hi => by
    have e : rs.map rowD ++ [rowD (movedL one sta ste)] = (rs ++ [movedL one sta ste]).map rowD := by rw [List.map_append]; rfl
    have hl : i < (rs ++ [movedL one sta ste]).length := by rw [List.length_append, hrl]; exact hi
    refine ⟨(rs ++ [movedL one sta ste])[i], all _ (List.getElem_mem _), ?_⟩
    rw [e, List.getD_eq_getElem?_getD, List.getElem?_map, List.getElem?_eq_getElem hl]
    rfl
  replace S12 : Stt C (owO O []) B H13 σ12 (lwE a0 p lap (some (.lst (prs one))) (some (.lst (prs two))) (some (.poly two)) (some (pair by_)) (some (.lst (rs.map rowD))) (some (.lst (prs (trim [by_])))) (some psd) (some (pair sta)) (some (pair ste)) (some (.poly (movedL one sta ste))) tp0 du0 (some (.poly one)) more0 odd0) (penQ C O H0 p N3 T []) := S12
  -- all rows
  refine (gq_for (n := 13) (J := penQ C O H0 p N3 T []) (y := fun i => (rs.map rowD ++ [rowD (movedL one sta ste)]).getD i .non) (vs := [13, 14]) (f := f2 13 14) (dom := TM.two) S12 ?hp13 ?hc13 ?G13 ?T13 (fun i hi => ?_) (fun i ρ I => I = penQ C O H0 p N3 T [] ∧ ∃ tp du, ρ = lwE a0 p lap (some (.lst (prs one))) (some (.lst (prs two))) (some (.poly two)) (some (pair by_)) (some (.lst (rs.map rowD))) (some (.lst (prs (trim [by_])))) (some psd) (some (pair sta)) (some (pair ste)) (some (.poly (movedL one sta ste))) tp du (some (.poly one)) more0 odd0) ⟨rfl, _, _, rfl⟩ ?st13 ?en13 ?fs13 : ssw _ _ _ _ _)
  case fs13 => intro _; rfl
  case hp13 => exact PassesOwn.never
  case hc13 => rfl
  case T13 => exact tg_two (i := 13) (j := 14) rfl sc_lw.nd rfl (.inl rfl) rfl (.inl rfl) (by simp) (by simp)
  case G13 =>
    rw [← hlen]
    refine gi_list (ge_cat (J := penQ C O H0 p N3 T []) (ge_var 7) (ge_lst (ga_one (ge_tup (ga_two (ge_var 12) (ge_call L.pmoved hr0 (ga_cons (ge_var 3) (ga_two (ge_var 10) (ge_var 11))) ⟨one, sta, ste, rfl, hsa.mono (by decide), hse.mono (by decide), by omega, ho50, rfl⟩))))) (by rw [List.length_map, hrl]; simp))
  · obtain ⟨r, _, e⟩ := hat i hi
    rw [e]
    exact ⟨_, _, rfl⟩
  case st13 =>
    rintro H1 e1 i ρ' I' σ' H' hi ⟨rfl, tp, du, rfl⟩ S13
    obtain ⟨r, hrk, er⟩ := hat i hi
    rw [er] at S13
    replace S13 : Stt C (owO O []) H1 H' σ' (lwE a0 p lap (some (.lst (prs one))) (some (.lst (prs two))) (some (.poly two)) (some (pair by_)) (some (.lst (rs.map rowD))) (some (.lst (prs (trim [by_])))) (some psd) (some (pair sta)) (some (pair ste)) (some (.poly (movedL one sta ste))) (some (.poly r)) (some (.lst (prs r))) (some (.poly one)) more0 odd0) (penQ C O H0 p N3 T []) := S13
    have sw := hrk.sw (by decide)
    refine (gq_no (J := penQ C O H0 p N3 T []) S13 ?c14 ?k14 : ssw _ _ _ _ _)
    case c14 => exact gt_imp (gt_neS (ge_repr W.s hgd hr0 (g.f "repr") (ge_num g.pc.cl g.pc.nn (ge_var 13)) sw.ok) (ge_repr W.s hgd hr0 (g.f "repr") (ge_toTup (g.f "tuple") (ge_var 14)) sw.ok)) (by simp)
    intro H14 S14
    exact gq_nil ⟨_, _, ⟨rfl, _, _, rfl⟩, S14⟩
  rintro ρ' I' σ15 H15 ⟨rfl, tp, du, rfl⟩ S15
  -- a value
  have hev : Hb 200 (evalL one sta) := (hb_eval hsa ho.hb).mono (by
    have := Nat.mul_le_mul_left (10 + 10 + 1) hlo
    omega)
  have swE : (pair (evalL one sta)).RpOk := (sm_sw (sm_pair hev (by decide))).ok
  refine (gq_no (J := penQ C O H0 p (N3 + 3) T []) S15 ?c16 ?k16 : ssw _ _ _ _ _)
  case c16 =>
    refine gt_or2F (J := penQ C O H0 p (N3 + 3) T []) (gt_imp (gt_neS (J := penQ C O H0 p (N3 + 3) T []) (ge_repr W.s hgd hr0 (g.f "repr") (Ev.liftQ fun H1 => ge_methN (J := penG (owO O []) H1 p N3) (Ψ := fun ds => ∃ x, ds = [x] ∧ passedD sta x) g.pc.cl V.at_ hr0 (ge_var 15) (ga_oneN ?_) ?_) swE) (ge_repr W.s hgd hr0 (g.f "repr") (ge_call L.pat hr0 (ga_two (ge_var 3) (ge_var 10)) ⟨one, sta, rfl, by omega, ho100, hsa.mono (by decide), rfl⟩) swE)) (by simp)) ?_
    · refine (ge_callN (N := N3) (ds := [pair sta]) (pre := prePassed) (R := Rpassed) N.passed hr0 hO' (ga_two (ge_var 1) (ge_var 10)) ⟨sta, rfl, hsa.mono (by decide)⟩ (by omega)).imp ?_
      rintro z ⟨q, e, h⟩
      have : sta = q := pair_inj (List.cons.inj e).1
      rw [this]
      exact h
    · rintro ds ⟨x, rfl, hx⟩
      exact ⟨one, x, sta, rfl, wqOf hsa hx, hsa.mono (by decide), by omega, ho100, rfl⟩
    · refine gt_imp (gt_neD (d1 := pair 0) (d2 := pair 0) hr0 (Ev.is (ge_meth g.pc.cl V.at_ hr0 (ge_meth0 g.pc.cl V.area hr0 (ge_var 15) ⟨one, rfl, by omega, ro.cd.mono (by decide), rfl⟩) (ga_one ge_int) ⟨areaL one, .int 0, 0, rfl, ⟨0, 1, wr_int 0, by decide, rfl⟩, hb_zero (by decide), by omega, fun q hq => (ha q hq).mono (by decide), rfl⟩) (by rw [eval_area])) (ge_tup (ga_two ge_int ge_int)) (fit_pair _) (fit_pair _)) ?_
      rw [eqv_pair]
      simp
  intro H16 S16
  -- what is no ratio
  refine (gq_tupN (J := penQ C O H0 p (N3 + 3 + 1 + 1) T []) (Ψ := fun ds => ∃ o m, ds = [o, m] ∧ o ∈ anyL ∧ m ∈ anyL) (f := f2 17 16) (dom := TM.two) (vs := [17, 16]) S16 ?T17 ?h17 ?d17 ?k17 ?s17 ?w17 ?a17 : ssw _ _ _ _ _)
  case T17 => exact tg_two (i := 17) (j := 16) rfl sc_lw.nd rfl (.inr rfl) rfl (.inr rfl) (by simp) (by simp)
  case s17 => rfl
  case w17 => rfl
  case a17 => rfl
  case d17 =>
    rintro ds ⟨o, m, rfl, _⟩
    exact ⟨by simp, o, m, rfl⟩
  case h17 =>
    refine EvA.liftQ fun H1 => ga_imp (ga_consn (J := penG (owO O []) H1 p (N3 + 3 + 1)) (Φ := fun z => z ∈ anyL) (Ψ := fun _ ds => ∃ d, ds = [d] ∧ d ∈ anyL) ?_ (fun d _ => ga_oneN ?_)) ?_
    · exact (ge_callN (N := N3 + 3) (ds := []) (pre := fun ds => ds = []) (R := Rany) N.any hr0 hO' (ga_one (ge_var 1)) rfl (by omega)).imp fun z h => h.2
    · exact (ge_callN (N := N3 + 3 + 1) (ds := []) (pre := fun ds => ds = []) (R := Rany) N.any hr0 hO' (ga_one (ge_var 1)) rfl (by omega)).imp fun z h => h.2
    · rintro ds ⟨o, ds', rfl, ho, m, rfl, hm⟩
      exact ⟨o, m, rfl, ho, hm⟩
  rintro σ17 H17 ds ⟨odd, more, rfl, hod, hmo⟩ S17
  obtain ⟨N4, hN4⟩ : ∃ N4, N4 = N3 + 3 + 1 + 1 := ⟨_, rfl⟩
  rw [← hN4] at S17
  replace S17 : Stt C (owO O []) B H17 σ17 (lwE a0 p lap (some (.lst (prs one))) (some (.lst (prs two))) (some (.poly two)) (some (pair by_)) (some (.lst (rs.map rowD))) (some (.lst (prs (trim [by_])))) (some psd) (some (pair sta)) (some (pair ste)) (some (.poly (movedL one sta ste))) tp du (some (.poly one)) (some more) (some odd)) (penQ C O H0 p N4 T []) := S17
  have bo := any_bad odd hod
  have bm := any_bad more hmo
  have so := sm_sw (any_sm odd hod)
  have sm := sm_sw (any_sm more hmo)
  have kn : PyData.strOk (("number" : String) : Str) = true := by decide +kernel
  have kp : PyData.strOk (("place" : String) : Str) = true := by decide +kernel
  have ks : PyData.strOk (("start" : String) : Str) = true := by decide +kernel
  have kt : PyData.strOk (("step" : String) : Str) = true := by decide +kernel
  refine (gq_no (J := penQ C O H0 p N4 T []) S17 ?c18 ?k18 : ssw _ _ _ _ _)
  case c18 =>
    refine gt_imp (gt_neD hr0 (ge_whyQ (k := k) W hgd hr1 LG hOP (.num (wd := "place") so.ok) fun A1 o1 s1 H1 E1 f1 c1 hr2 => ?_) (ge_tup (ga_cons ge_str (ga_two ge_str (ge_repr W.s hgd hr0 (g.f "repr") (ge_var 17) so.ok)))) (fit3 kn kp so.st) (fit3 kn kp so.st)) (by rw [eqv3]; rfl)
    exact gx_meth g.pc.cl E.at_ hr2 (ge_var 15) (ga_one (ge_var 17)) ⟨one, odd, rfl, bo, rfl, rfl⟩
  intro H18 S18
  refine (gq_no (J := penQ C O H0 p N4 T []) S18 ?c19 ?k19 : ssw _ _ _ _ _)
  case c19 =>
    refine gt_imp (gt_neD hr0 (ge_whyQ (k := k) W hgd hr1 LG hOP (.num (wd := "start") so.ok) fun A1 o1 s1 H1 E1 f1 c1 hr2 => ?_) (ge_tup (ga_cons ge_str (ga_two ge_str (ge_repr W.s hgd hr0 (g.f "repr") (ge_var 17) so.ok)))) (fit3 kn ks so.st) (fit3 kn ks so.st)) (by rw [eqv3]; rfl)
    exact gx_meth g.pc.cl E.moved hr2 (ge_var 15) (ga_two (ge_var 17) (ge_var 16)) ⟨one, odd, more, rfl, rfl, .inl ⟨bo, rfl⟩⟩
  intro H19 S19
  refine (gq_no (J := penQ C O H0 p N4 T []) S19 ?c20 ?k20 : ssw _ _ _ _ _)
  case c20 =>
    refine gt_imp (gt_neD hr0 (ge_whyQ (k := k) W hgd hr1 LG hOP (.num (wd := "step") sm.ok) fun A1 o1 s1 H1 E1 f1 c1 hr2 => ?_) (ge_tup (ga_cons ge_str (ga_two ge_str (ge_repr W.s hgd hr0 (g.f "repr") (ge_var 16) sm.ok)))) (fit3 kn kt sm.st) (fit3 kn kt sm.st)) (by rw [eqv3]; rfl)
    exact gx_meth g.pc.cl E.moved hr2 (ge_var 15) (ga_two ge_int (ge_var 16)) ⟨one, .int 1, more, rfl, rfl, .inr ⟨⟨1, 1, 1, wr_int 1, by decide, rfl⟩, bm, rfl⟩⟩
  intro H20 S20
  -- the other parts
  refine (gq_no (J := penQ C O H0 p (N4 + 64 + 200 + 240) T []) S20 ?c21 ?k21 : ssw _ _ _ _ _)
  case c21 =>
    refine gt_or3F (J := penQ C O H0 p (N4 + 64) T []) (K := penQ C O H0 p (N4 + 64 + 200) T []) ?_ ?_ ?_
    · exact gt_imp (gt_not (gt_val (ge_callT RR hr hgd hO hT (ge_var 1) (by omega)))) rfl
    · exact gt_imp (gt_not (gt_val (ge_callT MR hr hgd hO hT (ge_var 1) (by omega)))) rfl
    · exact gt_imp (gt_not (gt_val (ge_callT DR hr hgd hO hT (ge_var 1) (by omega)))) rfl
  intro H21 S21
  refine gq_nil (fin σ17 H21 _ _ _ _ _ _ _ _ _ _ _ _ _ _ _ _ ⟨S21.wf, S21.den, penQ_mono (by omega) S21.asr, S21.ext⟩)
end
end TM
/-! ## LwTop7 -/
set_option Elab.async false
set_option linter.all false
set_option maxRecDepth 100000
set_option maxHeartbeats 4000000
set_option exponentiation.threshold 100000
/-! LwTop7: the law as a whole. -/
namespace TM
open PySem L2 PySem.Spec PyProof.Rows
section
variable {P : Program} {w : World} {K : PySem.W.Frag} {mg : Str → Option Value} {base : Heap} {f cb cr ci cu Pt : Addr} {fd : FuncData} {C : Addr} {k : Nat} {T : Tb}
theorem ok_law (g : Gs K mg C) (V : PgV P w K mg base k C) (E : PgX P w K mg base k C cb cr) (L : LwV P w K mg base k C) (N : LwN P w K mg base k C) (PN : Fn P w K mg base CX0 k "_law_pen" (spMk C K)) (W : WhyE K mg base cb cr ci cu)
    (RR : FnT P w K mg base (k + 4) C T "_law_ratios_right" 64) (MR : FnT P w K mg base (k + 4) C T "_law_made_right" 200) (DR : FnT P w K mg base (k + 4) C T "_law_divided_right" 240)
    (F : FnP K "law" "law" (top 69) f fd) (LG : LamG base mg T fd.code ((("law" : Str) ++ ".<locals>.") ++ "<lambda>") Pt) : FnOkG P w K mg base CX0 (k + 5) f fd ["_law_script"] (spLaw K T) := by
  refine ok_guard F sc_lw (fun vs H Q E h => ?_) fun A outer s H vs Q E0 hr hgd h => ⟨_, PSs.nox pss_tw, ?_⟩
  · obtain ⟨a, ns, rfl, _⟩ := h
    rfl
  obtain ⟨a, ns, rfl, hS, hl, hT, hQ⟩ := h
  obtain ⟨fp, fpd, psp, okp, mp, kp, bp⟩ := PN.ex
  have hr0 : Room k (A.deeper (envOfC "law" (defScope (top 69)) s.heap.objs.size f fd.code)) := hr.mono (by omega)
  show ssw (lX P w K mg base f fd.code A outer s H E0) (defBody (top 69)) { nx := fun _ H' => Q .non H', rt := Q } (L2.start lwN [.ref a]) H
  refine gq_of (ps_set (X := lX P w K mg base f fd.code A outer s H E0) (i := 1) (x := "_law_pen_here") sc_lw.nd rfl (.inl rfl) (pe_call okp hr0 rfl mp kp bp .nil pass0 (pa_cons (pe_var (i := 0) rfl (.inl rfl)) pa_nil))) ?_
  have nOa : ¬ a ∈ T.map (·.1) := fun z => by
    obtain ⟨t, ht, e⟩ := List.mem_map.mp z
    exact (hT t ht).1 e
  refine ⟨.ref a, rfl, fun b => b ∈ T.map (·.1), a, ns, rfl, nOa, fun b hb => ?_, hS, hl, fun p H' pn ex wf ow => ?_⟩
  · obtain ⟨t, ht, e⟩ := List.mem_map.mp hb
    rw [← e, (hT t ht).2]
    exact fun z => nomatch z
  obtain ⟨pno, pnw, ps, ps1, ps2, ps3, ps4, ps5⟩ := pn
  have hOT : ∀ t ∈ T, t.1 ∈ T.map (·.1) := fun t ht => List.mem_map.mpr ⟨t, ht, rfl⟩
  have tabs : LamX.Tabs T H' := fun t ht => LamX.TabS.nil (ow t.1 _ (hOT t ht) (hT t ht).2)
  have S : Stt C (owO (fun b => b ∈ T.map (·.1) ∨ b = p) []) H' H' ((L2.start lwN [.ref a]).set 1 (some (.ref p))) (lwE a p none none none none none none none none none none none none none none none none) (penQ C (fun b => b ∈ T.map (·.1) ∨ b = p) H' p (0 * 720) T []) := by
    have d0 : Den C (owO (fun b => b ∈ T.map (·.1) ∨ b = p) []) H' (L2.start lwN [.ref a]) ([D.val (.ref a)].map some ++ List.replicate (lwN.length - [D.val (.ref a)].length) Option.none) := den_start (.cons (.val _) .nil)
    refine ⟨fun b hb => ?_, d0.set 1 (.val (.ref p)), ⟨⟨ps, ps1.mono (by omega), fun z => ?_, ps4, ps5⟩, tabs, fun x hx => (nomatch hx), fun b o _ _ _ h => h⟩, Ext.refl⟩
    · rcases hb with (hb | rfl) | hb
      · exact wf b hb
      · rw [ps4]
        exact fun z => nomatch z
      · cases hb
    · rcases z with (z | z) | z
      · exact ps2 z
      · exact ps3 z
      · cases z
  refine (gq_for (n := 2) (J := penQ C (fun b => b ∈ T.map (·.1) ∨ b = p) H' p (0 * 720) T []) (y := fun i => .int (i : Nat)) (vs := [2]) (f := TM.f1 2) (dom := fun _ => True) S ?hp ?hc ?G ?T (fun _ _ => trivial) (fun i ρ I => I = penQ C (fun b => b ∈ T.map (·.1) ∨ b = p) H' p (i * 720) T [] ∧ ∃ x1 x2 x3 x4 x5 x6 x7 x8 x9 x10 x11 x12 x13 x14 x15 x16, ρ = lwE a p x1 x2 x3 x4 x5 x6 x7 x8 x9 x10 x11 x12 x13 x14 x15 x16) ⟨rfl, none, none, none, none, none, none, none, none, none, none, none, none, none, none, none, none, rfl⟩ ?st ?en ?fs : ssw _ _ _ _ _)
  case fs => intro _; rfl
  case hp => exact PassesOwn.never
  case hc => rfl
  case T => exact tg_name (i := 2) sc_lw.nd rfl (.inl rfl) (by simp)
  case G => exact gi_range1 (g.f "range") ge_int (by omega) (by omega)
  case st =>
    rintro H1 e1 i ρ' I' σ' H2 hi ⟨rfl, x1, x2, x3, x4, x5, x6, x7, x8, x9, x10, x11, x12, x13, x14, x15, x16, rfl⟩ S2
    have hi2 : i < 2 := hi
    refine law_lap (lap := some (.int (i : Nat))) (one0 := x2) (two0 := x3) (b0 := x4) (by0 := x5) (rows0 := x6) (flat0 := x7) (ps0 := x8) (st0 := x9) (sp0 := x10) (mv0 := x11) (tp0 := x12) (du0 := x13) (a1 := x14) (more0 := x15) (odd0 := x16) g V E L N W LG RR MR DR hr hgd (.inr rfl) (fun t ht => .inl (hOT t ht)) (by omega) S2 ⟨_, _, _, rfl⟩ fun σ3 H3 y1 y2 y3 y4 y5 y6 y7 y8 y9 y10 y11 y12 y13 y14 y15 y16 S3 => ?_
    refine ⟨_, _, ⟨rfl, y1, y2, y3, y4, y5, y6, y7, y8, y9, y10, y11, y12, y13, y14, y15, y16, rfl⟩, ?_⟩
    rw [show (i + 1) * 720 = i * 720 + 720 from by omega]
    exact S3
  case en =>
    rintro ρ' I' σ' H2 ⟨rfl, _⟩ S2
    refine gq_ret S2 ge_bl fun v H3 d pd n _ _ _ => ?_
    cases pd
    cases n
    exact hQ H3
end
end TM
/-! ## LwEnd -/
set_option Elab.async false
set_option linter.all false
set_option maxRecDepth 100000
set_option maxHeartbeats 4000000
set_option exponentiation.threshold 100000
/-! LwEnd: the end of the row, the guards known. -/
namespace TM
open PySem PySem.Spec PyProof.Rows L2 LamX
/-- the written part, the tables, what is asked of the law's def -/
structure CallG (P : Program) (w : World) (K : PySem.W.Frag) (mg mb : Str → Option Value) (k : Nat) (fa a : Addr) (cs : List (Addr × Addr)) (fd : FuncData) (x : Str) (sp : Sp) (s1 : Shared) (vs : List Value) (ns : List Int) : Prop where
  kin : K.In s1.heap
  glob : s1.heap.Ns mainGlobals mg
  blt : s1.heap.Ns builtinsNs mb
  boot : ∀ x : Str, x ≠ "__name__" → mb x = bootBuiltins x
  lim : s1.heap.NoLimit
  gens : s1.gens = #[]
  tabs : ∀ p ∈ cs, s1.heap.get? p.2 = some { cls := .none, data := .fields #[] }
  out : ∀ p ∈ cs, K.lookup p.2 = none
  hd : ∀ p ∈ cs, PySem.W.CodeHd s1.heap p.1 p.2
  bm : ∃ (bm : Addr) (ob : Obj), mg "__builtins__" = some (.ref bm) ∧ bm ≠ builtinsNs ∧ s1.heap.get? bm = some ob ∧ ob.cls = .type "module" ∧ ob.dict = some builtinsNs ∧ ob.data = .plain
  script : s1.heap.get? a = some { cls := .type "list", data := .seq vs.toArray }
  are : IntsAre vs ns
  len : ns.length ≤ sizeLine
  sys : ∃ (o : Obj) (es : Array DictEntry) (ep : Nat), s1.heap.get? sysModules = some o ∧ o.data = .dict es ep
/-- what is tracked at the start: the tables, perhaps the script -/
structure TrkG (P : Program) (w : World) (K : PySem.W.Frag) (cs : List (Addr × Addr)) (a : Addr) (ns : List Int) (s1 : Shared) (H : Hp) : Prop where
  tab : ∀ p ∈ cs, H p.2 = some (.tbl #[])
  how : ∀ b, H b = none ∨ b ∈ cs.map (·.2) ∨ ∃ o xs, H b = some (.frz o (.lst xs))
  seq : SqL K H a (ns.map V.int)
  ok : HOk P w H s1.heap
  only : ∀ b, H b ≠ none → b = a ∨ b ∈ cs.map (·.2)
  free : H a ≠ none → K.lookup a = none
section
variable {P : Program} {w : World} {K : PySem.W.Frag} {mg mb : Str → Option Value} {k : Nat} {fa a : Addr} {cs : List (Addr × Addr)} {fd : FuncData} {x : Str} {sp : Sp} {s1 : Shared} {vs : List Value} {ns : List Int} {H : Hp}
theorem trk_none (G : CallG P w K mg mb k fa a cs fd x sp s1 vs ns) (R : TrkG P w K cs a ns s1 H) {b : Addr} {o : Obj} (e : s1.heap.get? b = some o) (h1 : ∀ us n, o.data ≠ .seq us n) (h2 : o.data ≠ .fields #[]) : H b = none := by
  cases q : H b with
  | none => rfl
  | some u =>
    cases R.only b (by rw [q]; exact fun z => nomatch z) with
    | inl eb =>
      rw [eb, G.script] at e
      cases e
      exact absurd rfl (h1 _ _)
    | inr eb =>
      obtain ⟨p, hp, ep⟩ := List.mem_map.mp eb
      rw [← ep, G.tabs p hp] at e
      cases e
      exact absurd rfl h2
theorem trk_dict (G : CallG P w K mg mb k fa a cs fd x sp s1 vs ns) (R : TrkG P w K cs a ns s1 H) {b : Addr} {o : Obj} {es : Array DictEntry} {ep : Nat} (e : s1.heap.get? b = some o) (d : o.data = .dict es ep) : (hidT s1.heap H).get? b = some o :=
  hidT_get e (trk_none G R e (fun us n z => by rw [d] at z; cases z) (fun z => by rw [d] at z; cases z))
theorem trk_ns (G : CallG P w K mg mb k fa a cs fd x sp s1 vs ns) (R : TrkG P w K cs a ns s1 H) {b : Addr} {m : Str → Option Value} : s1.heap.Ns b m → (hidT s1.heap H).Ns b m := fun ⟨o, es, ep, e, d, r⟩ => ⟨o, es, ep, trk_dict G R e d, d, r⟩
theorem trk_kin (G : CallG P w K mg mb k fa a cs fd x sp s1 vs ns) (R : TrkG P w K cs a ns s1 H) : K.In (hidT s1.heap H) := fun b o e => hidT_get (G.kin b o e) (by
  cases q : H b with
  | none => rfl
  | some u =>
    cases R.only b (by rw [q]; exact fun z => nomatch z) with
    | inl eb =>
      rw [eb] at e q
      rw [R.free (by rw [q]; exact fun z => nomatch z)] at e
      cases e
    | inr eb =>
      obtain ⟨p, hp, ep⟩ := List.mem_map.mp eb
      rw [← ep, G.out p hp] at e
      cases e)
theorem trk_tab (G : CallG P w K mg mb k fa a cs fd x sp s1 vs ns) (R : TrkG P w K cs a ns s1 H) : ∀ p ∈ cs, TabB (hidT s1.heap H) mg p.1 p.2 := fun p hp => by
  have tp := G.tabs p hp
  obtain ⟨go, ges, gep, ge, gd, _⟩ := G.glob
  refine ⟨?_, ?_, fun z => ?_⟩
  · obtain ⟨o, us, file, tf, flags, tg, inF, text, tt, e1, r1, r2, r3, rest⟩ := G.hd p hp
    refine ⟨o, us, file, tf, flags, tg, inF, text, tt, hidT_get e1 (trk_none G R e1 (fun us n z => by rw [r2] at z; cases z) (fun z => ?_)), r1, r2, r3, rest⟩
    rw [r2] at z
    cases z
    simp at r3
  · obtain ⟨bm, ob, b1, b2, b3, b4, b5, b6⟩ := G.bm
    refine ⟨bm, ob, b1, b2, fun q => ?_, fun q => ?_, hidT_get b3 (trk_none G R b3 (fun us n z => by rw [b6] at z; cases z) (fun z => by rw [b6] at z; cases z)), b4, b5, b6⟩
    · rw [q, ge] at b3
      cases b3
      rw [gd] at b6
      cases b6
    · rw [q, tp] at b3
      cases b3
      cases b6
  · rw [z, tp] at ge
    cases ge
    cases gd
/-- the call, from such a heap -/
theorem call_core (G : CallG P w K mg mb k fa a cs fd x sp s1 vs ns) (R : TrkG P w K cs a ns s1 H) (hr : Room k callerA)
    (F : ∀ base : Heap, K.In base → base.Ns mainGlobals mg → SysIn base → (∀ p ∈ cs, TabB base mg p.1 p.2) → FnOkG P w K mg base CX0 k fa fd [x] sp) (hbind : ∀ (s : Shared) (u : Value), BindsTo s fd ⟨[u], []⟩ [(x, u)])
    (hsp : ∀ H : Hp, (∀ p ∈ cs, H p.2 = some (.tbl #[])) → SqL K H a (ns.map V.int) → (∀ p ∈ cs, p.2 ≠ a) → sp [.ref a] H (fun v _ => v = .bl true) fun _ _ _ => False) :
    codeAny (model P w) callerA (.call (.ref fa) ⟨[.ref a], []⟩) (fun r s2 => r = .ok (.ret (.bool true)) ∧ OldK s1.heap s2.heap ∧ s2.os = s1.os ∧ AllBare s2.gens) s1 := by
  have md : L2.Mod K mg (hidT s1.heap H) := ⟨trk_kin G R, trk_ns G R G.glob, ⟨mb, trk_ns G R G.blt, G.boot⟩, let ⟨mc, l1, l2⟩ := G.lim; ⟨mc, trk_ns G R l1, l2⟩⟩
  have ev : Env0 P w K mg (hidT s1.heap H) callerA [] s1 H := ⟨rfl, md, fun b o e => of_hidT e, Nat.le_of_eq (hidT_size _ _), trivial, fun b hb => (nomatch hb), R.ok, .of_eq G.gens⟩
  have sy : SysIn (hidT s1.heap H) := let ⟨o, es, ep, e, d⟩ := G.sys; ⟨o, trk_dict G R e d⟩
  have ta : ∀ p ∈ cs, p.2 ≠ a := fun p hp z => by
    have e := G.tabs p hp
    rw [z, G.script] at e
    have e2 : Data.seq vs.toArray _ = Data.fields #[] := congrArg Obj.data (Option.some.inj e)
    cases e2
  refine codeAny_mono ((F _ (trk_kin G R) (trk_ns G R G.glob) sy (trk_tab G R)).go callerA [] s1 H ⟨[.ref a], []⟩ [.ref a] [.ref a] _ _ hr rfl ev (hbind s1 (.ref a)) (.cons rfl .nil) (hsp H R.tab R.seq ta)) fun r s2 res => ?_
  cases r with
  | error e => exact (show False from res).elim
  | ok fl =>
    cases fl with
    | next => exact False.elim res
    | brk => exact False.elim res
    | cont => exact False.elim res
    | ret u =>
      obtain ⟨v, H2, os, bare, un, ok2, rv, ev2⟩ := res
      have ev3 : v = .bl true := ev2
      subst ev3
      obtain rfl : u = Value.bool true := rv
      have stay : ∀ b o, b ∉ cs.map (·.2) → s1.heap.get? b = some o → s2.heap.get? b = some o := fun b o nb e => by
        rcases R.how b with q | q | ⟨ob, xs, q⟩
        · exact un.keep b o e q (fun z => nomatch z) (fun z => nomatch z)
        · exact absurd q nb
        · have q2 := un.frzs b ob _ q
          have o1 := (R.ok b _ q).1
          have o2 := (ok2 b _ q2).1
          rw [e] at o1
          cases o1
          exact o2
      have more : ∀ p ∈ cs, ∃ ms : Array Value, s2.heap.get? p.2 = some { cls := .none, data := .fields ms } := fun p hp => by
        obtain ⟨ms, z⟩ := un.tbls p.2 #[] (R.tab p hp)
        exact ⟨_, ok2 p.2 _ z⟩
      refine ⟨rfl, ⟨fun b o e => ?_, fun b o e => ?_⟩, os, bare⟩
      · by_cases hb : b ∈ cs.map (·.2)
        · obtain ⟨p, hp, rfl⟩ := List.mem_map.mp hb
          obtain ⟨ms, hm⟩ := more p hp
          have tp := G.tabs p hp
          rw [tp] at e
          cases e
          exact .inr (.inl ⟨((G.hd p hp).tab tp).isCodeTable, rfl, #[], ms, rfl, by rw [Array.empty_append]; exact hm⟩)
        · exact .inl (stay b o hb e)
      · by_cases hb : b ∈ cs.map (·.2)
        · obtain ⟨p, hp, rfl⟩ := List.mem_map.mp hb
          obtain ⟨ms, hm⟩ := more p hp
          exact ⟨_, hm⟩
        · exact ⟨o, stay b o hb e⟩
/-- there is such a heap -/
theorem trk_ex (G : CallG P w K mg mb k fa a cs fd x sp s1 vs ns) : ∃ H, TrkG P w K cs a ns s1 H := by
  have lv : (ns.map V.int).length ≤ sizeLine := by rw [List.length_map]; exact G.len
  have rv := vals_ints G.are
  have na : a ∉ cs.map (·.2) := fun z => by
    obtain ⟨p, hp, e⟩ := List.mem_map.mp z
    have q := G.tabs p hp
    rw [e, G.script] at q
    have z2 : Data.seq vs.toArray _ = Data.fields #[] := congrArg Obj.data (Option.some.inj q)
    cases z2
  have at_ : ∀ b, b ∈ cs.map (·.2) → s1.heap.get? b = some { cls := .none, data := .fields #[] } := fun b hb => by
    obtain ⟨p, hp, rfl⟩ := List.mem_map.mp hb
    exact G.tabs p hp
  have mem : ∀ p ∈ cs, p.2 ∈ cs.map (·.2) := fun p hp => List.mem_map.mpr ⟨p, hp, rfl⟩
  let T : Hp := fun b => if b ∈ cs.map (·.2) then some (.tbl #[]) else none
  have Tin : ∀ b, b ∈ cs.map (·.2) → T b = some (.tbl #[]) := fun b hb => if_pos hb
  have Tout : ∀ b, b ∉ cs.map (·.2) → T b = none := fun b hb => if_neg hb
  have Tok : ∀ b u, T b = some u → b ∈ cs.map (·.2) ∧ u = .tbl #[] := fun b u e => by
    by_cases hb : b ∈ cs.map (·.2)
    · rw [Tin b hb] at e
      exact ⟨hb, (Option.some.inj e).symm⟩
    · rw [Tout b hb] at e
      cases e
  cases hk : K.lookup a with
  | some o =>
    have e := G.kin a o hk
    rw [G.script] at e
    cases e
    refine ⟨T, fun p hp => Tin _ (mem p hp), fun b => ?_, .inr ⟨_, vs.toArray, _, hk, rfl, rfl, rfl, by rw [List.size_toArray, G.are.length]; exact G.len, by simpa using rv⟩, fun b u e => ?_, fun b hb => ?_, fun hb => absurd (Tout a na) hb⟩
    · by_cases hb : b ∈ cs.map (·.2)
      · exact .inr (.inl hb)
      · exact .inl (Tout b hb)
    · obtain ⟨hb, rfl⟩ := Tok b u e
      exact at_ b hb
    · by_cases hm : b ∈ cs.map (·.2)
      · exact .inr hm
      · exact absurd (Tout b hm) hb
  | none =>
    have U : ∀ b, upd T a (.frz { cls := .type "list", data := .seq vs.toArray } (.lst (ns.map V.int))) b = if b = a then some (.frz { cls := .type "list", data := .seq vs.toArray } (.lst (ns.map V.int))) else T b := fun b => rfl
    refine ⟨upd T a (.frz { cls := .type "list", data := .seq vs.toArray } (.lst (ns.map V.int))), fun p hp => ?_, fun b => ?_, .inl (.inr ⟨_, upd_same⟩), fun b u e => ?_, fun b hb => ?_, fun _ => hk⟩
    · rw [upd_ne (fun z => na (by rw [← z]; exact mem p hp))]
      exact Tin _ (mem p hp)
    · by_cases hb : b = a
      · exact .inr (.inr ⟨_, _, by rw [hb]; exact upd_same⟩)
      · rw [upd_ne hb]
        by_cases hm : b ∈ cs.map (·.2)
        · exact .inr (.inl hm)
        · exact .inl (Tout b hm)
    · by_cases hb : b = a
      · rw [hb, upd_same] at e
        cases e
        rw [hb]
        exact ⟨G.script, lv, vs, _, rv, G.script⟩
      · rw [upd_ne hb] at e
        obtain ⟨hm, rfl⟩ := Tok b u e
        exact at_ b hm
    · by_cases hm : b = a
      · exact .inl hm
      · rw [upd_ne hm] at hb
        by_cases hm2 : b ∈ cs.map (·.2)
        · exact .inr hm2
        · exact absurd (Tout b hm2) hb
end
/-- what must be known of the law's def behind the head -/
def LawG (l : PySem.W.OpenLaw) (w : World) (K : PySem.W.Frag) (k n : Nat) (x : Str) (mg : Str → Option Value) (fa : Addr) (h : Heap) : Prop :=
  ∃ (fd : FuncData) (cs : List (Addr × Addr)) (sp : Sp), (∀ p ∈ cs, h.get? p.2 = some { cls := .none, data := .fields #[] }) ∧ (∀ p ∈ cs, K.lookup p.2 = none) ∧ (∀ p ∈ cs, PySem.W.CodeHd h p.1 p.2) ∧ (∀ (s : Shared) (u : Value), BindsTo s fd ⟨[u], []⟩ [(x, u)]) ∧
    (∀ (H : Hp) (a : Addr) (ns : List Int), ns.length ≤ n → (∀ p ∈ cs, H p.2 = some (.tbl #[])) → SqL K H a (ns.map V.int) → (∀ p ∈ cs, p.2 ≠ a) → sp [.ref a] H (fun v _ => v = .bl true) fun _ _ _ => False) ∧
    ∀ base : Heap, K.In base → base.Ns mainGlobals mg → SysIn base → (∀ p ∈ cs, TabB base mg p.1 p.2) → FnOkG l.prog w K mg base CX0 k fa fd [x] sp
theorem walk_G {l : PySem.W.OpenLaw} {n k : Nat} {q : Program} {loose : List Str} {XP : (Str → Option Value) → Heap → Prop} {YP : World → Heap → Prop} {d : DefRec} {x : Str}
    (hn : l.most = some n) (hn2 : n ≤ sizeLine) (hdf : d.params.defaults = []) (hr : Room k callerA) (him : importsNone q = true)
    (F : ∀ (w : World) (mg : Str → Option Value) (fa : Addr) (h : Heap), YP w h → h.Ns mainGlobals mg → mg d.name = some (.ref fa) → ∃ K : PySem.W.Frag, K.In h ∧ LawG l w K k n x mg fa h) :
    PySem.W.WalkO q loose XP YP l.row.toRowW d [] (fun f vs => PySem.call f vs) := by
  refine Att.attach_callB hn hdf fun w s₀ s₁ mg mb fa o pm cd doc a vs ns G Y ho hd hcd hmg hobj hints hlen hbits hg => ?_
  obtain ⟨K, KX, fd, cs, sp, hT, nT, C, hb, hsp, hF⟩ := F w mg fa _ Y G.T.g hmg
  have sys : ∃ (o : Obj) (es : Array DictEntry) (ep : Nat), s₁.heap.get? sysModules = some o ∧ o.data = .dict es ep := by
    obtain ⟨_, ⟨m, ⟨o, es, ep, e, d, _⟩, _⟩, _⟩ := G.T.seer him
    exact ⟨o, es, ep, e, d⟩
  have G2 : CallG l.prog w K mg mb k fa a cs fd x sp s₁ vs ns := ⟨KX, G.T.g, G.T.b, G.T.builtins, G.T.nolimit, hg, hT, nT, C, G.T.bmain, hobj, hints, Nat.le_trans hlen hn2, sys⟩
  obtain ⟨H, R⟩ := trk_ex G2
  exact call_core G2 R hr hF hb (fun H hH hS ha => hsp H a ns hlen hH hS ha)
end TM
/-! ## LwAsm -/
set_option Elab.async false
set_option linter.all false
set_option maxRecDepth 100000
set_option maxHeartbeats 4000000
set_option exponentiation.threshold 100000
/-! LwAsm: all contracts together (written by a program). -/
namespace TM
open PySem L2 PySem.Spec PyProof.Rows
/-- a def of the top -/
def TF (K : PySem.W.Frag) (mg : Str → Option Value) (x : Str) (i : Nat) : Prop := ∃ f fd, FnP K x x (top i) f fd ∧ mg x = some (.ref f)
/-- a def of the class -/
def PF (K : PySem.W.Frag) (C : Addr) (m q : Str) (j : Nat) : Prop := ∃ f fd, FnP K m q (pol j) f fd ∧ Meth K C m f
/-- what the head must tell -/
structure Asm (K : PySem.W.Frag) (mg : Str → Option Value) (C cb cr ci cu : Addr) : Prop where
  g : Gs K mg C
  dA : DunC K C .Add
  dS : DunC K C .Sub
  dM : DunC K C .Mult
  ec : EqC K C
  wg : WhyG K mg cb cr ci cu
  xn : ∀ (P : Program) (w : World) (base : Heap) (k : Nat), ExR P w K mg base (k + 1) cb "BadNumber" mkNum 2
  xr : ∀ (P : Program) (w : World) (base : Heap) (k : Nat), ExR P w K mg base (k + 1) cr "BadRow" mkRow 1
  p_init : ∃ f fd, FnP K "__init__" "Poly.__init__" (pol 0) f fd ∧ Mk K C f
  t_why : TF K mg "_law_why" 61
  t_is_whole : TF K mg "is_whole" 8
  t_is_ratio : TF K mg "is_ratio" 9
  t_divisor : TF K mg "divisor" 10
  t_lowest : TF K mg "lowest" 11
  t_parts : TF K mg "parts" 13
  t_told : TF K mg "told" 12
  t_plus : TF K mg "plus" 14
  t_minus : TF K mg "minus" 15
  t_times : TF K mg "times" 16
  t_share : TF K mg "share" 17
  t_lower : TF K mg "lower" 18
  t_floor_of : TF K mg "floor_of" 19
  t_bottom_of : TF K mg "bottom_of" 20
  t_ratio_text : TF K mg "ratio_text" 21
  t_without_zeros : TF K mg "without_zeros" 24
  t_poly_told : TF K mg "poly_told" 25
  t_added_up : TF K mg "added_up" 26
  t_summed : TF K mg "summed" 27
  t_power_number : TF K mg "power_number" 28
  t_multiplied : TF K mg "multiplied" 29
  t_plain : TF K mg "plain" 31
  t_divided : TF K mg "divided" 30
  t_common : TF K mg "common" 32
  t__law_gcd : TF K mg "_law_gcd" 38
  t__law_q : TF K mg "_law_q" 39
  t__law_plus : TF K mg "_law_plus" 40
  t__law_minus : TF K mg "_law_minus" 41
  t__law_times : TF K mg "_law_times" 42
  t__law_share : TF K mg "_law_share" 43
  t__law_less : TF K mg "_law_less" 44
  t__law_is_whole : TF K mg "_law_is_whole" 37
  t__law_is : TF K mg "_law_is" 62
  t__law_poly : TF K mg "_law_poly" 47
  t__law_p_plus : TF K mg "_law_p_plus" 48
  t__law_p_scaled : TF K mg "_law_p_scaled" 49
  t__law_p_minus : TF K mg "_law_p_minus" 50
  t__law_p_times : TF K mg "_law_p_times" 51
  t__law_p_at : TF K mg "_law_p_at" 52
  t__law_p_slope : TF K mg "_law_p_slope" 53
  t__law_p_moved : TF K mg "_law_p_moved" 54
  t__law_p_divided : TF K mg "_law_p_divided" 55
  t__law_p_plain : TF K mg "_law_p_plain" 56
  t__law_p_short : TF K mg "_law_p_short" 57
  t__law_p_common : TF K mg "_law_p_common" 58
  t__law_draw : TF K mg "_law_draw" 35
  t__law_pick : TF K mg "_law_pick" 36
  t__law_passed : TF K mg "_law_passed" 45
  t__law_ratio : TF K mg "_law_ratio" 46
  t__law_made_poly : TF K mg "_law_made_poly" 59
  t__law_drawn : TF K mg "_law_drawn" 60
  t__law_any : TF K mg "_law_any" 63
  t__law_far : TF K mg "_law_far" 64
  t__law_some_ratio : TF K mg "_law_some_ratio" 65
  t__law_pen : TF K mg "_law_pen" 34
  p_degree : PF K C "degree" "Poly.degree" 9
  p___eq__ : PF K C "__eq__" "Poly.__eq__" 1
  p___add__ : PF K C "__add__" "Poly.__add__" 2
  p___radd__ : PF K C "__radd__" "Poly.__radd__" 3
  p___sub__ : PF K C "__sub__" "Poly.__sub__" 4
  p___rsub__ : PF K C "__rsub__" "Poly.__rsub__" 5
  p___mul__ : PF K C "__mul__" "Poly.__mul__" 6
  p___rmul__ : PF K C "__rmul__" "Poly.__rmul__" 7
  p___neg__ : PF K C "__neg__" "Poly.__neg__" 8
  p_slope : PF K C "slope" "Poly.slope" 11
  p_area : PF K C "area" "Poly.area" 12
  p_at : PF K C "at" "Poly.at" 10
  p_moved : PF K C "moved" "Poly.moved" 13
section
variable {P : Program} {w : World} {K : PySem.W.Frag} {mg : Str → Option Value} {base : Heap} {C cb cr ci cu : Addr}
theorem asm_all (A : Asm K mg C cb cr ci cu) : PgV P w K mg base 11 C ∧ PgX P w K mg base 11 C cb cr ∧ LwV P w K mg base 11 C ∧ LwN P w K mg base 11 C ∧ Fn P w K mg base CX0 11 "_law_pen" (spMk C K) := by
  obtain ⟨f_t_is_whole, fd_t_is_whole, F_t_is_whole, m_t_is_whole⟩ := A.t_is_whole
  obtain ⟨f_t_is_ratio, fd_t_is_ratio, F_t_is_ratio, m_t_is_ratio⟩ := A.t_is_ratio
  obtain ⟨f_t_divisor, fd_t_divisor, F_t_divisor, m_t_divisor⟩ := A.t_divisor
  obtain ⟨f_t_lowest, fd_t_lowest, F_t_lowest, m_t_lowest⟩ := A.t_lowest
  obtain ⟨f_t_parts, fd_t_parts, F_t_parts, m_t_parts⟩ := A.t_parts
  obtain ⟨f_t_told, fd_t_told, F_t_told, m_t_told⟩ := A.t_told
  obtain ⟨f_t_plus, fd_t_plus, F_t_plus, m_t_plus⟩ := A.t_plus
  obtain ⟨f_t_minus, fd_t_minus, F_t_minus, m_t_minus⟩ := A.t_minus
  obtain ⟨f_t_times, fd_t_times, F_t_times, m_t_times⟩ := A.t_times
  obtain ⟨f_t_share, fd_t_share, F_t_share, m_t_share⟩ := A.t_share
  obtain ⟨f_t_lower, fd_t_lower, F_t_lower, m_t_lower⟩ := A.t_lower
  obtain ⟨f_t_floor_of, fd_t_floor_of, F_t_floor_of, m_t_floor_of⟩ := A.t_floor_of
  obtain ⟨f_t_bottom_of, fd_t_bottom_of, F_t_bottom_of, m_t_bottom_of⟩ := A.t_bottom_of
  obtain ⟨f_t_ratio_text, fd_t_ratio_text, F_t_ratio_text, m_t_ratio_text⟩ := A.t_ratio_text
  obtain ⟨f_t_without_zeros, fd_t_without_zeros, F_t_without_zeros, m_t_without_zeros⟩ := A.t_without_zeros
  obtain ⟨f_t_poly_told, fd_t_poly_told, F_t_poly_told, m_t_poly_told⟩ := A.t_poly_told
  obtain ⟨f_t_added_up, fd_t_added_up, F_t_added_up, m_t_added_up⟩ := A.t_added_up
  obtain ⟨f_t_summed, fd_t_summed, F_t_summed, m_t_summed⟩ := A.t_summed
  obtain ⟨f_t_power_number, fd_t_power_number, F_t_power_number, m_t_power_number⟩ := A.t_power_number
  obtain ⟨f_t_multiplied, fd_t_multiplied, F_t_multiplied, m_t_multiplied⟩ := A.t_multiplied
  obtain ⟨f_t_plain, fd_t_plain, F_t_plain, m_t_plain⟩ := A.t_plain
  obtain ⟨f_t_divided, fd_t_divided, F_t_divided, m_t_divided⟩ := A.t_divided
  obtain ⟨f_t_common, fd_t_common, F_t_common, m_t_common⟩ := A.t_common
  obtain ⟨f_t__law_gcd, fd_t__law_gcd, F_t__law_gcd, m_t__law_gcd⟩ := A.t__law_gcd
  obtain ⟨f_t__law_q, fd_t__law_q, F_t__law_q, m_t__law_q⟩ := A.t__law_q
  obtain ⟨f_t__law_plus, fd_t__law_plus, F_t__law_plus, m_t__law_plus⟩ := A.t__law_plus
  obtain ⟨f_t__law_minus, fd_t__law_minus, F_t__law_minus, m_t__law_minus⟩ := A.t__law_minus
  obtain ⟨f_t__law_times, fd_t__law_times, F_t__law_times, m_t__law_times⟩ := A.t__law_times
  obtain ⟨f_t__law_share, fd_t__law_share, F_t__law_share, m_t__law_share⟩ := A.t__law_share
  obtain ⟨f_t__law_less, fd_t__law_less, F_t__law_less, m_t__law_less⟩ := A.t__law_less
  obtain ⟨f_t__law_is_whole, fd_t__law_is_whole, F_t__law_is_whole, m_t__law_is_whole⟩ := A.t__law_is_whole
  obtain ⟨f_t__law_is, fd_t__law_is, F_t__law_is, m_t__law_is⟩ := A.t__law_is
  obtain ⟨f_t__law_poly, fd_t__law_poly, F_t__law_poly, m_t__law_poly⟩ := A.t__law_poly
  obtain ⟨f_t__law_p_plus, fd_t__law_p_plus, F_t__law_p_plus, m_t__law_p_plus⟩ := A.t__law_p_plus
  obtain ⟨f_t__law_p_scaled, fd_t__law_p_scaled, F_t__law_p_scaled, m_t__law_p_scaled⟩ := A.t__law_p_scaled
  obtain ⟨f_t__law_p_minus, fd_t__law_p_minus, F_t__law_p_minus, m_t__law_p_minus⟩ := A.t__law_p_minus
  obtain ⟨f_t__law_p_times, fd_t__law_p_times, F_t__law_p_times, m_t__law_p_times⟩ := A.t__law_p_times
  obtain ⟨f_t__law_p_at, fd_t__law_p_at, F_t__law_p_at, m_t__law_p_at⟩ := A.t__law_p_at
  obtain ⟨f_t__law_p_slope, fd_t__law_p_slope, F_t__law_p_slope, m_t__law_p_slope⟩ := A.t__law_p_slope
  obtain ⟨f_t__law_p_moved, fd_t__law_p_moved, F_t__law_p_moved, m_t__law_p_moved⟩ := A.t__law_p_moved
  obtain ⟨f_t__law_p_divided, fd_t__law_p_divided, F_t__law_p_divided, m_t__law_p_divided⟩ := A.t__law_p_divided
  obtain ⟨f_t__law_p_plain, fd_t__law_p_plain, F_t__law_p_plain, m_t__law_p_plain⟩ := A.t__law_p_plain
  obtain ⟨f_t__law_p_short, fd_t__law_p_short, F_t__law_p_short, m_t__law_p_short⟩ := A.t__law_p_short
  obtain ⟨f_t__law_p_common, fd_t__law_p_common, F_t__law_p_common, m_t__law_p_common⟩ := A.t__law_p_common
  obtain ⟨f_t__law_draw, fd_t__law_draw, F_t__law_draw, m_t__law_draw⟩ := A.t__law_draw
  obtain ⟨f_t__law_pick, fd_t__law_pick, F_t__law_pick, m_t__law_pick⟩ := A.t__law_pick
  obtain ⟨f_t__law_passed, fd_t__law_passed, F_t__law_passed, m_t__law_passed⟩ := A.t__law_passed
  obtain ⟨f_t__law_ratio, fd_t__law_ratio, F_t__law_ratio, m_t__law_ratio⟩ := A.t__law_ratio
  obtain ⟨f_t__law_made_poly, fd_t__law_made_poly, F_t__law_made_poly, m_t__law_made_poly⟩ := A.t__law_made_poly
  obtain ⟨f_t__law_drawn, fd_t__law_drawn, F_t__law_drawn, m_t__law_drawn⟩ := A.t__law_drawn
  obtain ⟨f_t__law_any, fd_t__law_any, F_t__law_any, m_t__law_any⟩ := A.t__law_any
  obtain ⟨f_t__law_far, fd_t__law_far, F_t__law_far, m_t__law_far⟩ := A.t__law_far
  obtain ⟨f_t__law_some_ratio, fd_t__law_some_ratio, F_t__law_some_ratio, m_t__law_some_ratio⟩ := A.t__law_some_ratio
  obtain ⟨f_t__law_pen, fd_t__law_pen, F_t__law_pen, m_t__law_pen⟩ := A.t__law_pen
  obtain ⟨f_p___init__, fd_p___init__, F_p___init__, m_p___init__⟩ := A.p_init
  obtain ⟨f_p_degree, fd_p_degree, F_p_degree, m_p_degree⟩ := A.p_degree
  obtain ⟨f_p___eq__, fd_p___eq__, F_p___eq__, m_p___eq__⟩ := A.p___eq__
  obtain ⟨f_p___add__, fd_p___add__, F_p___add__, m_p___add__⟩ := A.p___add__
  obtain ⟨f_p___radd__, fd_p___radd__, F_p___radd__, m_p___radd__⟩ := A.p___radd__
  obtain ⟨f_p___sub__, fd_p___sub__, F_p___sub__, m_p___sub__⟩ := A.p___sub__
  obtain ⟨f_p___rsub__, fd_p___rsub__, F_p___rsub__, m_p___rsub__⟩ := A.p___rsub__
  obtain ⟨f_p___mul__, fd_p___mul__, F_p___mul__, m_p___mul__⟩ := A.p___mul__
  obtain ⟨f_p___rmul__, fd_p___rmul__, F_p___rmul__, m_p___rmul__⟩ := A.p___rmul__
  obtain ⟨f_p___neg__, fd_p___neg__, F_p___neg__, m_p___neg__⟩ := A.p___neg__
  obtain ⟨f_p_slope, fd_p_slope, F_p_slope, m_p_slope⟩ := A.p_slope
  obtain ⟨f_p_area, fd_p_area, F_p_area, m_p_area⟩ := A.p_area
  obtain ⟨f_p_at, fd_p_at, F_p_at, m_p_at⟩ := A.p_at
  obtain ⟨f_p_moved, fd_p_moved, F_p_moved, m_p_moved⟩ := A.p_moved
  have c_fn_is_whole := fn_is_whole (P := P) (w := w) (K := K) (mg := mg) (base := base) (C := C) (k := 0) A.g F_t_is_whole m_t_is_whole
  have c_fn_is_ratio := fn_is_ratio (P := P) (w := w) (K := K) (mg := mg) (base := base) (C := C) (k := 1) A.g (c_fn_is_whole.mono (by decide)) F_t_is_ratio m_t_is_ratio
  have c_fn_divisor := fn_divisor (P := P) (w := w) (K := K) (mg := mg) (base := base) (C := C) (k := 0) A.g F_t_divisor m_t_divisor
  have c_fn_lowest := fn_lowest (P := P) (w := w) (K := K) (mg := mg) (base := base) (C := C) (k := 1) (c_fn_divisor.mono (by decide)) F_t_lowest m_t_lowest
  have c_fn_parts := fn_parts (P := P) (w := w) (K := K) (mg := mg) (base := base) (C := C) (k := 2) (c_fn_is_ratio.mono (by decide)) (c_fn_is_whole.mono (by decide)) F_t_parts m_t_parts
  have c_fn_told := fn_told (P := P) (w := w) (K := K) (mg := mg) (base := base) (C := C) (k := 2) (c_fn_is_ratio.mono (by decide)) (c_fn_is_whole.mono (by decide)) (c_fn_lowest.mono (by decide)) F_t_told m_t_told
  have c_fn_plus := fn_plus (P := P) (w := w) (K := K) (mg := mg) (base := base) (C := C) (k := 3) (c_fn_parts.mono (by decide)) (c_fn_lowest.mono (by decide)) F_t_plus m_t_plus
  have c_fn_minus := fn_minus (P := P) (w := w) (K := K) (mg := mg) (base := base) (C := C) (k := 3) (c_fn_parts.mono (by decide)) (c_fn_lowest.mono (by decide)) F_t_minus m_t_minus
  have c_fn_times := fn_times (P := P) (w := w) (K := K) (mg := mg) (base := base) (C := C) (k := 3) (c_fn_parts.mono (by decide)) (c_fn_lowest.mono (by decide)) F_t_times m_t_times
  have c_fn_share := fn_share (P := P) (w := w) (K := K) (mg := mg) (base := base) (C := C) (k := 3) (c_fn_parts.mono (by decide)) (c_fn_lowest.mono (by decide)) F_t_share m_t_share
  have c_fn_lower := fn_lower (P := P) (w := w) (K := K) (mg := mg) (base := base) (C := C) (k := 3) (c_fn_parts.mono (by decide)) (c_fn_lowest.mono (by decide)) F_t_lower m_t_lower
  have c_fn_floor := fn_floor (P := P) (w := w) (K := K) (mg := mg) (base := base) (C := C) (k := 3) (c_fn_parts.mono (by decide)) F_t_floor_of m_t_floor_of
  have c_fn_bottom := fn_bottom (P := P) (w := w) (K := K) (mg := mg) (base := base) (C := C) (k := 1) (c_fn_divisor.mono (by decide)) F_t_bottom_of m_t_bottom_of
  have c_fn_ratio_text := fn_ratio_text (P := P) (w := w) (K := K) (mg := mg) (base := base) (C := C) (k := 3) A.g (c_fn_told.mono (by decide)) F_t_ratio_text m_t_ratio_text
  have c_fn_without_zeros := fn_without_zeros (P := P) (w := w) (K := K) (mg := mg) (base := base) (C := C) (k := 0) A.g F_t_without_zeros m_t_without_zeros
  have c_fn_init := fn_init (P := P) (w := w) (K := K) (mg := mg) (base := base) (C := C) (k := 3) A.g (c_fn_is_ratio.mono (by decide)) (c_fn_told.mono (by decide)) (c_fn_without_zeros.mono (by decide)) F_p___init__ m_p___init__
  have c_fn_poly_told := fn_poly_told (P := P) (w := w) (K := K) (mg := mg) (base := base) (C := C) (k := 4) A.g (c_fn_init.mono (by decide)) F_t_poly_told m_t_poly_told
  have c_mf_degree := mf_degree (P := P) (w := w) (K := K) (mg := mg) (base := base) (C := C) (k := 0) A.g F_p_degree m_p_degree
  have c_mf_eq := mf_eq (P := P) (w := w) (K := K) (mg := mg) (base := base) (C := C) (k := 0) A.g F_p___eq__ m_p___eq__
  have c_fn_added_up := fn_added_up (P := P) (w := w) (K := K) (mg := mg) (base := base) (C := C) (k := 4) (c_fn_plus.mono (by decide)) F_t_added_up m_t_added_up
  have c_fn_summed := fn_summed (P := P) (w := w) (K := K) (mg := mg) (base := base) (C := C) (k := 4) A.g (c_fn_init.mono (by decide)) (c_fn_plus.mono (by decide)) F_t_summed m_t_summed
  have c_fn_power := fn_power (P := P) (w := w) (K := K) (mg := mg) (base := base) (C := C) (k := 5) A.g (c_fn_times.mono (by decide)) (c_fn_added_up.mono (by decide)) F_t_power_number m_t_power_number
  have c_fn_multiplied := fn_multiplied (P := P) (w := w) (K := K) (mg := mg) (base := base) (C := C) (k := 6) A.g (c_fn_init.mono (by decide)) (c_fn_power.mono (by decide)) F_t_multiplied m_t_multiplied
  have c_mf_add := mf_add (P := P) (w := w) (K := K) (mg := mg) (base := base) (C := C) (k := 6) (c_fn_summed.mono (by decide)) (c_fn_poly_told.mono (by decide)) F_p___add__ m_p___add__
  have c_mf_radd := mf_radd (P := P) (w := w) (K := K) (mg := mg) (base := base) (C := C) (k := 6) (c_fn_summed.mono (by decide)) (c_fn_poly_told.mono (by decide)) F_p___radd__ m_p___radd__
  have c_mf_sub := mf_sub (P := P) (w := w) (K := K) (mg := mg) (base := base) (C := C) (k := 6) (c_fn_summed.mono (by decide)) (c_fn_poly_told.mono (by decide)) F_p___sub__ m_p___sub__
  have c_mf_rsub := mf_rsub (P := P) (w := w) (K := K) (mg := mg) (base := base) (C := C) (k := 6) (c_fn_summed.mono (by decide)) (c_fn_poly_told.mono (by decide)) F_p___rsub__ m_p___rsub__
  have c_mf_mul := mf_mul (P := P) (w := w) (K := K) (mg := mg) (base := base) (C := C) (k := 8) (c_fn_multiplied.mono (by decide)) (c_fn_poly_told.mono (by decide)) F_p___mul__ m_p___mul__
  have c_mf_rmul := mf_rmul (P := P) (w := w) (K := K) (mg := mg) (base := base) (C := C) (k := 8) (c_fn_multiplied.mono (by decide)) (c_fn_poly_told.mono (by decide)) F_p___rmul__ m_p___rmul__
  have c_ops : Ops P w K mg base 9 C := ⟨A.dA, A.dS, A.dM, c_mf_add.mono (by decide), c_mf_radd.mono (by decide), c_mf_sub.mono (by decide), c_mf_rsub.mono (by decide), c_mf_mul.mono (by decide), c_mf_rmul.mono (by decide)⟩
  have c_mf_neg := mf_neg (P := P) (w := w) (K := K) (mg := mg) (base := base) (C := C) (k := 4) A.g (c_fn_init.mono (by decide)) F_p___neg__ m_p___neg__
  have c_mf_slope := mf_slope (P := P) (w := w) (K := K) (mg := mg) (base := base) (C := C) (k := 4) A.g (c_fn_init.mono (by decide)) (c_fn_times.mono (by decide)) F_p_slope m_p_slope
  have c_mf_area := mf_area (P := P) (w := w) (K := K) (mg := mg) (base := base) (C := C) (k := 4) A.g (c_fn_init.mono (by decide)) (c_fn_share.mono (by decide)) F_p_area m_p_area
  have c_mf_at := mf_at (P := P) (w := w) (K := K) (mg := mg) (base := base) (C := C) (k := 3) A.g (c_fn_told.mono (by decide)) (c_fn_bottom.mono (by decide)) (c_fn_lowest.mono (by decide)) F_p_at m_p_at
  have c_mf_moved := mf_moved (P := P) (w := w) (K := K) (mg := mg) (base := base) (C := C) (k := 9) A.g (c_ops.mono (by decide)) (c_fn_init.mono (by decide)) (c_fn_told.mono (by decide)) F_p_moved m_p_moved
  have c_fn_plain := fn_plain (P := P) (w := w) (K := K) (mg := mg) (base := base) (C := C) (k := 4) A.g (c_fn_init.mono (by decide)) (c_fn_share.mono (by decide)) F_t_plain m_t_plain
  have c_fn_divided := fn_divided (P := P) (w := w) (K := K) (mg := mg) (base := base) (C := C) (k := 4) A.g (c_fn_init.mono (by decide)) (c_mf_degree.mono (by decide)) (c_fn_share.mono (by decide)) (c_fn_minus.mono (by decide)) (c_fn_times.mono (by decide)) F_t_divided m_t_divided
  have c_fn_common := fn_common (P := P) (w := w) (K := K) (mg := mg) (base := base) (C := C) (k := 6) A.g (c_mf_degree.mono (by decide)) (c_fn_plain.mono (by decide)) (c_fn_divided.mono (by decide)) F_t_common m_t_common
  have c_fx_told := fx_told (P := P) (w := w) (K := K) (mg := mg) (base := base) (C := C) (k := 2) (c_fn_is_ratio.mono (by decide)) (A.xn P w base 1) F_t_told m_t_told
  have c_fx_parts := fx_parts (P := P) (w := w) (K := K) (mg := mg) (base := base) (C := C) (k := 2) (c_fn_is_ratio.mono (by decide)) (A.xn P w base 1) F_t_parts m_t_parts
  have c_fx_plus := fx_plus (P := P) (w := w) (K := K) (mg := mg) (base := base) (C := C) (k := 4) (c_fn_parts.mono (by decide)) (c_fx_parts.mono (by decide)) F_t_plus m_t_plus
  have c_fx_minus := fx_minus (P := P) (w := w) (K := K) (mg := mg) (base := base) (C := C) (k := 4) (c_fn_parts.mono (by decide)) (c_fx_parts.mono (by decide)) F_t_minus m_t_minus
  have c_fx_times := fx_times (P := P) (w := w) (K := K) (mg := mg) (base := base) (C := C) (k := 4) (c_fn_parts.mono (by decide)) (c_fx_parts.mono (by decide)) F_t_times m_t_times
  have c_fx_share := fx_share (P := P) (w := w) (K := K) (mg := mg) (base := base) (C := C) (k := 4) (c_fn_parts.mono (by decide)) (c_fx_parts.mono (by decide)) F_t_share m_t_share
  have c_fx_lower := fx_lower (P := P) (w := w) (K := K) (mg := mg) (base := base) (C := C) (k := 4) (c_fn_parts.mono (by decide)) (c_fx_parts.mono (by decide)) F_t_lower m_t_lower
  have c_fx_share0 := fx_share0 (P := P) (w := w) (K := K) (mg := mg) (base := base) (C := C) (k := 3) (c_fn_parts.mono (by decide)) (A.xn P w base 2) F_t_share m_t_share
  have c_fx_floor := fx_floor (P := P) (w := w) (K := K) (mg := mg) (base := base) (C := C) (k := 4) (c_fx_parts.mono (by decide)) F_t_floor_of m_t_floor_of
  have c_fx_ratio_text := fx_ratio_text (P := P) (w := w) (K := K) (mg := mg) (base := base) (C := C) (k := 4) (c_fx_told.mono (by decide)) F_t_ratio_text m_t_ratio_text
  have c_mx_at := mx_at (P := P) (w := w) (K := K) (mg := mg) (base := base) (C := C) (k := 4) (c_fx_told.mono (by decide)) F_p_at m_p_at
  have c_mx_moved := mx_moved (P := P) (w := w) (K := K) (mg := mg) (base := base) (C := C) (k := 4) (c_fn_told.mono (by decide)) (c_fx_told.mono (by decide)) F_p_moved m_p_moved
  have c_fx_divided := fx_divided (P := P) (w := w) (K := K) (mg := mg) (base := base) (C := C) (k := 1) A.g (c_mf_degree.mono (by decide)) (A.xn P w base 0) F_t_divided m_t_divided
  have c_fx_init := fx_init (P := P) (w := w) (K := K) (mg := mg) (base := base) (C := C) (k := 2) A.g (c_fn_is_ratio.mono (by decide)) (A.xr P w base 1) F_p___init__ m_p___init__
  have c_fn_lgcd := fn_lgcd (P := P) (w := w) (K := K) (mg := mg) (base := base) (C := C) (k := 0) A.g F_t__law_gcd m_t__law_gcd
  have c_fn_lq := fn_lq (P := P) (w := w) (K := K) (mg := mg) (base := base) (C := C) (k := 1) (c_fn_lgcd.mono (by decide)) F_t__law_q m_t__law_q
  have c_fn_lplus := fn_lplus (P := P) (w := w) (K := K) (mg := mg) (base := base) (C := C) (k := 2) (c_fn_lq.mono (by decide)) F_t__law_plus m_t__law_plus
  have c_fn_lminus := fn_lminus (P := P) (w := w) (K := K) (mg := mg) (base := base) (C := C) (k := 2) (c_fn_lq.mono (by decide)) F_t__law_minus m_t__law_minus
  have c_fn_ltimes := fn_ltimes (P := P) (w := w) (K := K) (mg := mg) (base := base) (C := C) (k := 2) (c_fn_lq.mono (by decide)) F_t__law_times m_t__law_times
  have c_fn_lshare := fn_lshare (P := P) (w := w) (K := K) (mg := mg) (base := base) (C := C) (k := 2) (c_fn_lq.mono (by decide)) F_t__law_share m_t__law_share
  have c_fn_lless := fn_lless (P := P) (w := w) (K := K) (mg := mg) (base := base) (C := C) (k := 0) F_t__law_less m_t__law_less
  have c_fn_liw := fn_liw (P := P) (w := w) (K := K) (mg := mg) (base := base) (C := C) (k := 0) A.g F_t__law_is_whole m_t__law_is_whole
  have c_fn_lis := fn_lis (P := P) (w := w) (K := K) (mg := mg) (base := base) (C := C) (k := 0) F_t__law_is m_t__law_is
  have c_fn_lpoly := fn_lpoly (P := P) (w := w) (K := K) (mg := mg) (base := base) (C := C) (k := 0) A.g F_t__law_poly m_t__law_poly
  have c_fn_lpplus := fn_lpplus (P := P) (w := w) (K := K) (mg := mg) (base := base) (C := C) (k := 3) A.g (c_fn_lplus.mono (by decide)) (c_fn_lpoly.mono (by decide)) F_t__law_p_plus m_t__law_p_plus
  have c_fn_lscaled := fn_lscaled (P := P) (w := w) (K := K) (mg := mg) (base := base) (C := C) (k := 3) A.g (c_fn_ltimes.mono (by decide)) (c_fn_lpoly.mono (by decide)) F_t__law_p_scaled m_t__law_p_scaled
  have c_fn_lpminus := fn_lpminus (P := P) (w := w) (K := K) (mg := mg) (base := base) (C := C) (k := 4) (c_fn_lpplus.mono (by decide)) (c_fn_lscaled.mono (by decide)) F_t__law_p_minus m_t__law_p_minus
  have c_fn_lptimes := fn_lptimes (P := P) (w := w) (K := K) (mg := mg) (base := base) (C := C) (k := 3) A.g (c_fn_lplus.mono (by decide)) (c_fn_ltimes.mono (by decide)) (c_fn_lpoly.mono (by decide)) F_t__law_p_times m_t__law_p_times
  have c_fn_lpat := fn_lpat (P := P) (w := w) (K := K) (mg := mg) (base := base) (C := C) (k := 3) (c_fn_lplus.mono (by decide)) (c_fn_ltimes.mono (by decide)) F_t__law_p_at m_t__law_p_at
  have c_fn_lpslope := fn_lpslope (P := P) (w := w) (K := K) (mg := mg) (base := base) (C := C) (k := 3) A.g (c_fn_ltimes.mono (by decide)) (c_fn_lpoly.mono (by decide)) F_t__law_p_slope m_t__law_p_slope
  have c_fn_lpmoved := fn_lpmoved (P := P) (w := w) (K := K) (mg := mg) (base := base) (C := C) (k := 4) (c_fn_lpoly.mono (by decide)) (c_fn_lpplus.mono (by decide)) (c_fn_lptimes.mono (by decide)) F_t__law_p_moved m_t__law_p_moved
  have c_fn_ldiv := fn_ldiv (P := P) (w := w) (K := K) (mg := mg) (base := base) (C := C) (k := 3) A.g (c_fn_lshare.mono (by decide)) (c_fn_lminus.mono (by decide)) (c_fn_ltimes.mono (by decide)) (c_fn_lpoly.mono (by decide)) F_t__law_p_divided m_t__law_p_divided
  have c_fn_lplain := fn_lplain (P := P) (w := w) (K := K) (mg := mg) (base := base) (C := C) (k := 4) (c_fn_lshare.mono (by decide)) (c_fn_lscaled.mono (by decide)) F_t__law_p_plain m_t__law_p_plain
  have c_fn_lshort := fn_lshort (P := P) (w := w) (K := K) (mg := mg) (base := base) (C := C) (k := 4) (c_fn_lgcd.mono (by decide)) (c_fn_lscaled.mono (by decide)) F_t__law_p_short m_t__law_p_short
  have c_fn_lcommon := fn_lcommon (P := P) (w := w) (K := K) (mg := mg) (base := base) (C := C) (k := 5) A.g (c_fn_lplain.mono (by decide)) (c_fn_ldiv.mono (by decide)) (c_fn_lshort.mono (by decide)) F_t__law_p_common m_t__law_p_common
  have c_fn_draw := fn_draw (P := P) (w := w) (K := K) (mg := mg) (base := base) (C := C) (k := 0) A.g F_t__law_draw m_t__law_draw
  have c_fn_pick := fn_pick (P := P) (w := w) (K := K) (mg := mg) (base := base) (C := C) (k := 1) A.g (c_fn_draw.mono (by decide)) F_t__law_pick m_t__law_pick
  have c_fn_passed := fn_passed (P := P) (w := w) (K := K) (mg := mg) (base := base) (C := C) (k := 2) (c_fn_draw.mono (by decide)) (c_fn_pick.mono (by decide)) F_t__law_passed m_t__law_passed
  have c_fn_ratio := fn_ratio (P := P) (w := w) (K := K) (mg := mg) (base := base) (C := C) (k := 2) (c_fn_draw.mono (by decide)) (c_fn_pick.mono (by decide)) (c_fn_lq.mono (by decide)) F_t__law_ratio m_t__law_ratio
  have c_fn_made := fn_made (P := P) (w := w) (K := K) (mg := mg) (base := base) (C := C) (k := 4) A.g (c_fn_draw.mono (by decide)) (c_fn_pick.mono (by decide)) (c_fn_passed.mono (by decide)) (c_fn_init.mono (by decide)) F_t__law_made_poly m_t__law_made_poly
  have c_fn_drawn := fn_drawn (P := P) (w := w) (K := K) (mg := mg) (base := base) (C := C) (k := 3) A.g (c_fn_draw.mono (by decide)) (c_fn_ratio.mono (by decide)) (c_fn_lpoly.mono (by decide)) F_t__law_drawn m_t__law_drawn
  have c_fn_any := fn_any (P := P) (w := w) (K := K) (mg := mg) (base := base) (C := C) (k := 2) (c_fn_pick.mono (by decide)) F_t__law_any m_t__law_any
  have c_fn_far := fn_far (P := P) (w := w) (K := K) (mg := mg) (base := base) (C := C) (k := 2) A.g (c_fn_draw.mono (by decide)) (c_fn_pick.mono (by decide)) F_t__law_far m_t__law_far
  have c_fn_somer := fn_somer (P := P) (w := w) (K := K) (mg := mg) (base := base) (C := C) (k := 3) A.g (c_fn_far.mono (by decide)) (c_fn_lq.mono (by decide)) F_t__law_some_ratio m_t__law_some_ratio
  have c_fn_pen0 := fn_pen0 (P := P) (w := w) (K := K) (mg := mg) (base := base) (C := C) (k := 0) A.g F_t__law_pen m_t__law_pen
  refine ⟨⟨c_fn_is_ratio.mono (by decide), c_fn_told.mono (by decide), c_fn_plus.mono (by decide), c_fn_minus.mono (by decide), c_fn_times.mono (by decide), c_fn_share.mono (by decide), c_fn_lower.mono (by decide), c_fn_floor.mono (by decide), c_fn_ratio_text.mono (by decide), c_fn_init.mono (by decide), c_mf_degree.mono (by decide), c_mf_eq.mono (by decide), c_ops.mono (by decide), c_mf_neg.mono (by decide), c_mf_slope.mono (by decide), c_mf_area.mono (by decide), c_mf_at.mono (by decide), c_mf_moved.mono (by decide), c_fn_divided.mono (by decide), c_fn_common.mono (by decide), A.ec⟩, ⟨c_fx_told.mono (by decide), c_fx_plus.mono (by decide), c_fx_minus.mono (by decide), c_fx_times.mono (by decide), c_fx_share.mono (by decide), c_fx_share0.mono (by decide), c_fx_lower.mono (by decide), c_fx_floor.mono (by decide), c_fx_ratio_text.mono (by decide), c_mx_at.mono (by decide), c_mx_moved.mono (by decide), c_fx_divided.mono (by decide), c_fx_init.mono (by decide)⟩, ⟨c_fn_lq.mono (by decide), c_fn_lplus.mono (by decide), c_fn_lminus.mono (by decide), c_fn_ltimes.mono (by decide), c_fn_lshare.mono (by decide), c_fn_lless.mono (by decide), c_fn_lis.mono (by decide), c_fn_liw.mono (by decide), c_fn_lpoly.mono (by decide), c_fn_lpplus.mono (by decide), c_fn_lpminus.mono (by decide), c_fn_lscaled.mono (by decide), c_fn_lptimes.mono (by decide), c_fn_lpat.mono (by decide), c_fn_lpslope.mono (by decide), c_fn_lpmoved.mono (by decide), c_fn_ldiv.mono (by decide), c_fn_lcommon.mono (by decide)⟩, ⟨c_fn_draw.mono (by decide), c_fn_pick.mono (by decide), c_fn_passed.mono (by decide), c_fn_ratio.mono (by decide), c_fn_made.mono (by decide), c_fn_drawn.mono (by decide), c_fn_any.mono (by decide), c_fn_far.mono (by decide), c_fn_somer.mono (by decide)⟩, c_fn_pen0.mono (by decide)⟩
end
end TM
/-! ## LwHead -/
set_option Elab.async false
set_option linter.all false
set_option maxRecDepth 100000
set_option maxHeartbeats 4000000
set_option exponentiation.threshold 100000
/-! LwHead: what the head tells of the operators. -/
namespace TM
open PySem PySem.Spec PyProof.Rows L2 He
theorem dunT_ok {K : PySem.W.Frag} {C : Addr} {nm T : String} {b : Bool} (h : dunT K C nm T b = true) : ∃ fo ro, PySem.W.OtherTy K C nm T fo ro ∧ ((fo.isSome && !isSeqSlot fo) || (ro.isSome && !isSeqSlot ro)) = b := by
  unfold dunT at h
  split at h
  · rename_i fo ro e1 e2
    obtain ⟨h1, h⟩ := ba h
    obtain ⟨h2, h3⟩ := ba h
    exact ⟨fo, ro, ⟨e1, e2, of_decide_eq_true h1, of_decide_eq_true h2⟩, of_decide_eq_true h3⟩
  · cases h
theorem dunB_ok {K : PySem.W.Frag} {C : Addr} {op : Operator} (h : dunB K C op = true) : DunC K C op := by
  obtain ⟨h1, h⟩ := ba h
  obtain ⟨h2, h3⟩ := ba h
  exact ⟨h1, dunT_ok h2, dunT_ok h3⟩
end TM
/-! ## LwFin -/
set_option Elab.async false
set_option linter.all false
set_option maxRecDepth 100000
set_option maxHeartbeats 4000000
set_option exponentiation.threshold 100000
/-! LwFin: the facts, the law's def (written by a program). -/
namespace TM
open PySem PySem.Spec PyProof.Rows L2 He ClX
section
variable {P : Program} {w : World} {K : PySem.W.Frag} {h : Heap} {mg : Str → Option Value} {base : Heap}
theorem tf_of (X : K.In h) (G : h.Ns mainGlobals mg) (c : SaysD hFa hFn K) {x : Str} {i : Nat} (n m : Nat) (e : hFn[n]? = some ⟨(x, none), x, x, defArgs (top i), defBody (top i), defScope (top i), [], []⟩) (e2 : hFa[m]? = some (.glo x)) : TF K mg x i := by
  obtain ⟨fd, F⟩ := c.def_ n e
  exact ⟨ga K x, fd, F, glo_ok X G (c.fact m e2)⟩
theorem pf_of (c : SaysD hFa hFn K) {m q : Str} {j : Nat} (n i : Nat) (e : hFn[n]? = some ⟨("Poly", some m), m, q, defArgs (pol j), defBody (pol j), defScope (pol j), [], []⟩) (e2 : hFa[i]? = some (.meth "Poly" m)) : PF K (ga K "Poly") m q j := by
  obtain ⟨fd, F⟩ := c.def_ n e
  exact ⟨ma K (ga K "Poly") m, fd, F, meth_ok (c.fact i e2)⟩
/-- the other facts -/
structure ExF (K : PySem.W.Frag) : Prop where
  nd : ((hTf.map fun p => (cT K p).2).Nodup)
  gcd : PySem.W.nsIn K mainGlobals "gcd" = some (some (.builtin "math.gcd"))
  ha : PySem.W.findIn K (.ref (ga K "Poly")) "__class__" = some (some (.builtin "object.__class__"))
  hn : PySem.W.specialIn K (.builtin "object.__class__") "__get__" = some (some (.builtin "getset_descriptor.__get__"))
  htk : PySem.W.takesIn K (.builtin "object.__class__") = some true
  hm : PySem.W.mroIn K (ga K "Poly") (.type "object") = some true
  no : ∀ T ∈ kitTys, PySem.W.kitOne K (.type T) (.ref (ga K "Poly")) = some false
  dA : DunC K (ga K "Poly") .Add
  dS : DunC K (ga K "Poly") .Sub
  dM : DunC K (ga K "Poly") .Mult
  ec : EqC K (ga K "Poly")
  rd : CRead K (ga K "MeanError") (.type "type")
  vV : PySem.W.findCls K (.ref (ga K "MeanError")) (.type "type") "__init__" = some (.val (.builtin "ValueError.__init__"))
  ob : OexC K (ga K "BadNumber")
  or : OexC K (ga K "BadRow")
  xb : XfC K (ga K "BadNumber")
  xr : XfC K (ga K "BadRow")
  tb : PySem.W.typeIn K (.ref (ma K (ga K "BadNumber") "__init__")) = some (.type "function")
  tr : PySem.W.typeIn K (.ref (ma K (ga K "BadRow") "__init__")) = some (.type "function")
theorem exF_of (h : exB K = true) : ExF K := by
  obtain ⟨a1, h⟩ := ba h
  obtain ⟨a2, h⟩ := ba h
  obtain ⟨a3, h⟩ := ba h
  obtain ⟨a4, h⟩ := ba h
  obtain ⟨a5, h⟩ := ba h
  obtain ⟨a6, h⟩ := ba h
  obtain ⟨a7, h⟩ := ba h
  obtain ⟨a8, h⟩ := ba h
  obtain ⟨a9, h⟩ := ba h
  obtain ⟨a10, h⟩ := ba h
  obtain ⟨a11, h⟩ := ba h
  obtain ⟨a12, h⟩ := ba h
  obtain ⟨a13, h⟩ := ba h
  obtain ⟨a14, h⟩ := ba h
  obtain ⟨a15, h⟩ := ba h
  obtain ⟨a16, h⟩ := ba h
  obtain ⟨a17, h⟩ := ba h
  obtain ⟨a18, h⟩ := ba h
  obtain ⟨a19, h⟩ := ba h
  obtain ⟨a20, h⟩ := ba h
  obtain ⟨a21, a22⟩ := ba h
  exact ⟨of_decide_eq_true a1, isTy_ok a2, isTy_ok a3, isTy_ok a4, of_decide_eq_true a5, of_decide_eq_true a6, fun T hT => of_decide_eq_true (List.all_eq_true.mp a7 T hT), dunB_ok a8, dunB_ok a9, dunB_ok a10, ⟨a11, a12, a13⟩, ⟨a14, isTy_ok a15⟩, fndB_ok a16, oexB_ok a17, oexB_ok a18, xfB_ok a19, xfB_ok a20, of_decide_eq_true a21, of_decide_eq_true a22⟩
theorem eg_of (X : K.In h) (G : h.Ns mainGlobals mg) (c : SaysD hFa hFn K) (x : ExF K) : ExG K mg (ga K "MeanError") (.type "type") := ⟨glo_ok X G (c.fact 59 rfl), x.rd, x.vV⟩
theorem xn_of (X : K.In h) (G : h.Ns mainGlobals mg) (c : SaysD hFa hFn K) (x : ExF K) (P : Program) (w : World) (base : Heap) (k : Nat) : ExR P w K mg base (k + 1) (ga K "BadNumber") "BadNumber" mkNum 2 := by
  obtain ⟨fd, F⟩ := c.def_ 73 (d := ⟨("BadNumber", some "__init__"), "__init__", "BadNumber.__init__", defArgs bnI, defBody bnI, defScope bnI, [], []⟩) rfl
  have ec : ExC K mg (ga K "BadNumber") (ma K (ga K "BadNumber") "__init__") "BadNumber" ["what", "number"] := ⟨x.ob, glo_ok X G (c.fact 60 rfl), (fun f hf => by
    rcases List.mem_cons.mp hf with rfl | hf
    · exact noat_ok (c.fact 100 rfl)
    rcases List.mem_cons.mp hf with rfl | hf
    · exact noat_ok (c.fact 101 rfl)
    · cases hf), (meth_ok (c.fact 98 (f := .meth "BadNumber" "__init__") rfl)).at_, x.tb⟩
  exact ⟨⟨_, fd, ["self", "what", "number"], ["what", "number"], ok_bn (eg_of X G c x) ec F, ec, F.bindsN fun _ _ _ _ _ _ us hl => match us, hl with | [_, _, _], _ => rfl⟩⟩
theorem xr_of (X : K.In h) (G : h.Ns mainGlobals mg) (c : SaysD hFa hFn K) (x : ExF K) (P : Program) (w : World) (base : Heap) (k : Nat) : ExR P w K mg base (k + 1) (ga K "BadRow") "BadRow" mkRow 1 := by
  obtain ⟨fd, F⟩ := c.def_ 74 (d := ⟨("BadRow", some "__init__"), "__init__", "BadRow.__init__", defArgs brI, defBody brI, defScope brI, [], []⟩) rfl
  have ec : ExC K mg (ga K "BadRow") (ma K (ga K "BadRow") "__init__") "BadRow" ["row"] := ⟨x.or, glo_ok X G (c.fact 61 rfl), (fun f hf => by
    rcases List.mem_cons.mp hf with rfl | hf
    · exact noat_ok (c.fact 102 rfl)
    · cases hf), (meth_ok (c.fact 99 (f := .meth "BadRow" "__init__") rfl)).at_, x.tr⟩
  exact ⟨⟨_, fd, ["self", "row"], ["row"], ok_br (eg_of X G c x) ec F, ec, F.bindsN fun _ _ _ _ _ _ us hl => match us, hl with | [_, _], _ => rfl⟩⟩
theorem wg_of (X : K.In h) (G : h.Ns mainGlobals mg) (c : SaysD hFa hFn K) (x : ExF K) : WhyG K mg (ga K "BadNumber") (ga K "BadRow") (ga K "BadInterval") (ga K "Unlike") :=
  ⟨glo_ok X G (c.fact 60 rfl), glo_ok X G (c.fact 61 rfl), glo_ok X G (c.fact 62 rfl), glo_ok X G (c.fact 63 rfl), x.xb, x.xr, noat_ok (c.fact 100 rfl), noat_ok (c.fact 101 rfl), noat_ok (c.fact 102 rfl), exm_ok (c.fact 103 rfl), exm_ok (c.fact 104 rfl), exm_ok (c.fact 105 rfl)⟩
theorem gs_of (X : K.In h) (G : h.Ns mainGlobals mg) (c : SaysD hFa hFn K) (x : ExF K) : Gs K mg (ga K "Poly") :=
  ⟨(fun y hy => by
    rcases List.mem_cons.mp hy with rfl | hy
    · exact free_ok X G (c.fact 65 rfl)
    rcases List.mem_cons.mp hy with rfl | hy
    · exact free_ok X G (c.fact 66 rfl)
    rcases List.mem_cons.mp hy with rfl | hy
    · exact free_ok X G (c.fact 67 rfl)
    rcases List.mem_cons.mp hy with rfl | hy
    · exact free_ok X G (c.fact 68 rfl)
    rcases List.mem_cons.mp hy with rfl | hy
    · exact free_ok X G (c.fact 69 rfl)
    rcases List.mem_cons.mp hy with rfl | hy
    · exact free_ok X G (c.fact 70 rfl)
    rcases List.mem_cons.mp hy with rfl | hy
    · exact free_ok X G (c.fact 71 rfl)
    rcases List.mem_cons.mp hy with rfl | hy
    · exact free_ok X G (c.fact 72 rfl)
    rcases List.mem_cons.mp hy with rfl | hy
    · exact free_ok X G (c.fact 73 rfl)
    rcases List.mem_cons.mp hy with rfl | hy
    · exact free_ok X G (c.fact 74 rfl)
    rcases List.mem_cons.mp hy with rfl | hy
    · exact free_ok X G (c.fact 75 rfl)
    rcases List.mem_cons.mp hy with rfl | hy
    · exact free_ok X G (c.fact 76 rfl)
    rcases List.mem_cons.mp hy with rfl | hy
    · exact free_ok X G (c.fact 77 rfl)
    rcases List.mem_cons.mp hy with rfl | hy
    · exact free_ok X G (c.fact 78 rfl)
    rcases List.mem_cons.mp hy with rfl | hy
    · exact free_ok X G (c.fact 79 rfl)
    rcases List.mem_cons.mp hy with rfl | hy
    · exact free_ok X G (c.fact 80 rfl)
    cases hy), PySem.W.mg_of X G x.gcd, glo_ok X G (c.fact 64 rfl), ⟨cls_ok (c.fact 81 rfl), noat_ok (c.fact 82 rfl), x.ha, x.hn, x.htk, x.hm, x.no⟩⟩
theorem a_t_why (X : K.In h) (G : h.Ns mainGlobals mg) (c : SaysD hFa hFn K) : TF K mg "_law_why" 61 := tf_of X G c 54 54 rfl rfl
theorem a_t_is_whole (X : K.In h) (G : h.Ns mainGlobals mg) (c : SaysD hFa hFn K) : TF K mg "is_whole" 8 := tf_of X G c 0 0 rfl rfl
theorem a_t_is_ratio (X : K.In h) (G : h.Ns mainGlobals mg) (c : SaysD hFa hFn K) : TF K mg "is_ratio" 9 := tf_of X G c 1 1 rfl rfl
theorem a_t_divisor (X : K.In h) (G : h.Ns mainGlobals mg) (c : SaysD hFa hFn K) : TF K mg "divisor" 10 := tf_of X G c 2 2 rfl rfl
theorem a_t_lowest (X : K.In h) (G : h.Ns mainGlobals mg) (c : SaysD hFa hFn K) : TF K mg "lowest" 11 := tf_of X G c 3 3 rfl rfl
theorem a_t_parts (X : K.In h) (G : h.Ns mainGlobals mg) (c : SaysD hFa hFn K) : TF K mg "parts" 13 := tf_of X G c 4 4 rfl rfl
theorem a_t_told (X : K.In h) (G : h.Ns mainGlobals mg) (c : SaysD hFa hFn K) : TF K mg "told" 12 := tf_of X G c 5 5 rfl rfl
theorem a_t_plus (X : K.In h) (G : h.Ns mainGlobals mg) (c : SaysD hFa hFn K) : TF K mg "plus" 14 := tf_of X G c 6 6 rfl rfl
theorem a_t_minus (X : K.In h) (G : h.Ns mainGlobals mg) (c : SaysD hFa hFn K) : TF K mg "minus" 15 := tf_of X G c 7 7 rfl rfl
theorem a_t_times (X : K.In h) (G : h.Ns mainGlobals mg) (c : SaysD hFa hFn K) : TF K mg "times" 16 := tf_of X G c 8 8 rfl rfl
theorem a_t_share (X : K.In h) (G : h.Ns mainGlobals mg) (c : SaysD hFa hFn K) : TF K mg "share" 17 := tf_of X G c 9 9 rfl rfl
theorem a_t_lower (X : K.In h) (G : h.Ns mainGlobals mg) (c : SaysD hFa hFn K) : TF K mg "lower" 18 := tf_of X G c 10 10 rfl rfl
theorem a_t_floor_of (X : K.In h) (G : h.Ns mainGlobals mg) (c : SaysD hFa hFn K) : TF K mg "floor_of" 19 := tf_of X G c 11 11 rfl rfl
theorem a_t_bottom_of (X : K.In h) (G : h.Ns mainGlobals mg) (c : SaysD hFa hFn K) : TF K mg "bottom_of" 20 := tf_of X G c 12 12 rfl rfl
theorem a_t_ratio_text (X : K.In h) (G : h.Ns mainGlobals mg) (c : SaysD hFa hFn K) : TF K mg "ratio_text" 21 := tf_of X G c 13 13 rfl rfl
theorem a_t_without_zeros (X : K.In h) (G : h.Ns mainGlobals mg) (c : SaysD hFa hFn K) : TF K mg "without_zeros" 24 := tf_of X G c 14 14 rfl rfl
theorem a_t_poly_told (X : K.In h) (G : h.Ns mainGlobals mg) (c : SaysD hFa hFn K) : TF K mg "poly_told" 25 := tf_of X G c 15 15 rfl rfl
theorem a_t_added_up (X : K.In h) (G : h.Ns mainGlobals mg) (c : SaysD hFa hFn K) : TF K mg "added_up" 26 := tf_of X G c 16 16 rfl rfl
theorem a_t_summed (X : K.In h) (G : h.Ns mainGlobals mg) (c : SaysD hFa hFn K) : TF K mg "summed" 27 := tf_of X G c 17 17 rfl rfl
theorem a_t_power_number (X : K.In h) (G : h.Ns mainGlobals mg) (c : SaysD hFa hFn K) : TF K mg "power_number" 28 := tf_of X G c 18 18 rfl rfl
theorem a_t_multiplied (X : K.In h) (G : h.Ns mainGlobals mg) (c : SaysD hFa hFn K) : TF K mg "multiplied" 29 := tf_of X G c 19 19 rfl rfl
theorem a_t_plain (X : K.In h) (G : h.Ns mainGlobals mg) (c : SaysD hFa hFn K) : TF K mg "plain" 31 := tf_of X G c 20 20 rfl rfl
theorem a_t_divided (X : K.In h) (G : h.Ns mainGlobals mg) (c : SaysD hFa hFn K) : TF K mg "divided" 30 := tf_of X G c 21 21 rfl rfl
theorem a_t_common (X : K.In h) (G : h.Ns mainGlobals mg) (c : SaysD hFa hFn K) : TF K mg "common" 32 := tf_of X G c 22 22 rfl rfl
theorem a_t__law_gcd (X : K.In h) (G : h.Ns mainGlobals mg) (c : SaysD hFa hFn K) : TF K mg "_law_gcd" 38 := tf_of X G c 23 23 rfl rfl
theorem a_t__law_q (X : K.In h) (G : h.Ns mainGlobals mg) (c : SaysD hFa hFn K) : TF K mg "_law_q" 39 := tf_of X G c 24 24 rfl rfl
theorem a_t__law_plus (X : K.In h) (G : h.Ns mainGlobals mg) (c : SaysD hFa hFn K) : TF K mg "_law_plus" 40 := tf_of X G c 25 25 rfl rfl
theorem a_t__law_minus (X : K.In h) (G : h.Ns mainGlobals mg) (c : SaysD hFa hFn K) : TF K mg "_law_minus" 41 := tf_of X G c 26 26 rfl rfl
theorem a_t__law_times (X : K.In h) (G : h.Ns mainGlobals mg) (c : SaysD hFa hFn K) : TF K mg "_law_times" 42 := tf_of X G c 27 27 rfl rfl
theorem a_t__law_share (X : K.In h) (G : h.Ns mainGlobals mg) (c : SaysD hFa hFn K) : TF K mg "_law_share" 43 := tf_of X G c 28 28 rfl rfl
theorem a_t__law_less (X : K.In h) (G : h.Ns mainGlobals mg) (c : SaysD hFa hFn K) : TF K mg "_law_less" 44 := tf_of X G c 29 29 rfl rfl
theorem a_t__law_is_whole (X : K.In h) (G : h.Ns mainGlobals mg) (c : SaysD hFa hFn K) : TF K mg "_law_is_whole" 37 := tf_of X G c 30 30 rfl rfl
theorem a_t__law_is (X : K.In h) (G : h.Ns mainGlobals mg) (c : SaysD hFa hFn K) : TF K mg "_law_is" 62 := tf_of X G c 31 31 rfl rfl
theorem a_t__law_poly (X : K.In h) (G : h.Ns mainGlobals mg) (c : SaysD hFa hFn K) : TF K mg "_law_poly" 47 := tf_of X G c 32 32 rfl rfl
theorem a_t__law_p_plus (X : K.In h) (G : h.Ns mainGlobals mg) (c : SaysD hFa hFn K) : TF K mg "_law_p_plus" 48 := tf_of X G c 33 33 rfl rfl
theorem a_t__law_p_scaled (X : K.In h) (G : h.Ns mainGlobals mg) (c : SaysD hFa hFn K) : TF K mg "_law_p_scaled" 49 := tf_of X G c 34 34 rfl rfl
theorem a_t__law_p_minus (X : K.In h) (G : h.Ns mainGlobals mg) (c : SaysD hFa hFn K) : TF K mg "_law_p_minus" 50 := tf_of X G c 35 35 rfl rfl
theorem a_t__law_p_times (X : K.In h) (G : h.Ns mainGlobals mg) (c : SaysD hFa hFn K) : TF K mg "_law_p_times" 51 := tf_of X G c 36 36 rfl rfl
theorem a_t__law_p_at (X : K.In h) (G : h.Ns mainGlobals mg) (c : SaysD hFa hFn K) : TF K mg "_law_p_at" 52 := tf_of X G c 37 37 rfl rfl
theorem a_t__law_p_slope (X : K.In h) (G : h.Ns mainGlobals mg) (c : SaysD hFa hFn K) : TF K mg "_law_p_slope" 53 := tf_of X G c 38 38 rfl rfl
theorem a_t__law_p_moved (X : K.In h) (G : h.Ns mainGlobals mg) (c : SaysD hFa hFn K) : TF K mg "_law_p_moved" 54 := tf_of X G c 39 39 rfl rfl
theorem a_t__law_p_divided (X : K.In h) (G : h.Ns mainGlobals mg) (c : SaysD hFa hFn K) : TF K mg "_law_p_divided" 55 := tf_of X G c 40 40 rfl rfl
theorem a_t__law_p_plain (X : K.In h) (G : h.Ns mainGlobals mg) (c : SaysD hFa hFn K) : TF K mg "_law_p_plain" 56 := tf_of X G c 41 41 rfl rfl
theorem a_t__law_p_short (X : K.In h) (G : h.Ns mainGlobals mg) (c : SaysD hFa hFn K) : TF K mg "_law_p_short" 57 := tf_of X G c 42 42 rfl rfl
theorem a_t__law_p_common (X : K.In h) (G : h.Ns mainGlobals mg) (c : SaysD hFa hFn K) : TF K mg "_law_p_common" 58 := tf_of X G c 43 43 rfl rfl
theorem a_t__law_draw (X : K.In h) (G : h.Ns mainGlobals mg) (c : SaysD hFa hFn K) : TF K mg "_law_draw" 35 := tf_of X G c 44 44 rfl rfl
theorem a_t__law_pick (X : K.In h) (G : h.Ns mainGlobals mg) (c : SaysD hFa hFn K) : TF K mg "_law_pick" 36 := tf_of X G c 45 45 rfl rfl
theorem a_t__law_passed (X : K.In h) (G : h.Ns mainGlobals mg) (c : SaysD hFa hFn K) : TF K mg "_law_passed" 45 := tf_of X G c 46 46 rfl rfl
theorem a_t__law_ratio (X : K.In h) (G : h.Ns mainGlobals mg) (c : SaysD hFa hFn K) : TF K mg "_law_ratio" 46 := tf_of X G c 47 47 rfl rfl
theorem a_t__law_made_poly (X : K.In h) (G : h.Ns mainGlobals mg) (c : SaysD hFa hFn K) : TF K mg "_law_made_poly" 59 := tf_of X G c 48 48 rfl rfl
theorem a_t__law_drawn (X : K.In h) (G : h.Ns mainGlobals mg) (c : SaysD hFa hFn K) : TF K mg "_law_drawn" 60 := tf_of X G c 49 49 rfl rfl
theorem a_t__law_any (X : K.In h) (G : h.Ns mainGlobals mg) (c : SaysD hFa hFn K) : TF K mg "_law_any" 63 := tf_of X G c 50 50 rfl rfl
theorem a_t__law_far (X : K.In h) (G : h.Ns mainGlobals mg) (c : SaysD hFa hFn K) : TF K mg "_law_far" 64 := tf_of X G c 51 51 rfl rfl
theorem a_t__law_some_ratio (X : K.In h) (G : h.Ns mainGlobals mg) (c : SaysD hFa hFn K) : TF K mg "_law_some_ratio" 65 := tf_of X G c 52 52 rfl rfl
theorem a_t__law_pen (X : K.In h) (G : h.Ns mainGlobals mg) (c : SaysD hFa hFn K) : TF K mg "_law_pen" 34 := tf_of X G c 53 53 rfl rfl
theorem a_p_degree (X : K.In h) (G : h.Ns mainGlobals mg) (c : SaysD hFa hFn K) : PF K (ga K "Poly") "degree" "Poly.degree" 9 := pf_of c 60 85 rfl rfl
theorem a_p___eq__ (X : K.In h) (G : h.Ns mainGlobals mg) (c : SaysD hFa hFn K) : PF K (ga K "Poly") "__eq__" "Poly.__eq__" 1 := pf_of c 61 86 rfl rfl
theorem a_p___add__ (X : K.In h) (G : h.Ns mainGlobals mg) (c : SaysD hFa hFn K) : PF K (ga K "Poly") "__add__" "Poly.__add__" 2 := pf_of c 62 87 rfl rfl
theorem a_p___radd__ (X : K.In h) (G : h.Ns mainGlobals mg) (c : SaysD hFa hFn K) : PF K (ga K "Poly") "__radd__" "Poly.__radd__" 3 := pf_of c 63 88 rfl rfl
theorem a_p___sub__ (X : K.In h) (G : h.Ns mainGlobals mg) (c : SaysD hFa hFn K) : PF K (ga K "Poly") "__sub__" "Poly.__sub__" 4 := pf_of c 64 89 rfl rfl
theorem a_p___rsub__ (X : K.In h) (G : h.Ns mainGlobals mg) (c : SaysD hFa hFn K) : PF K (ga K "Poly") "__rsub__" "Poly.__rsub__" 5 := pf_of c 65 90 rfl rfl
theorem a_p___mul__ (X : K.In h) (G : h.Ns mainGlobals mg) (c : SaysD hFa hFn K) : PF K (ga K "Poly") "__mul__" "Poly.__mul__" 6 := pf_of c 66 91 rfl rfl
theorem a_p___rmul__ (X : K.In h) (G : h.Ns mainGlobals mg) (c : SaysD hFa hFn K) : PF K (ga K "Poly") "__rmul__" "Poly.__rmul__" 7 := pf_of c 67 92 rfl rfl
theorem a_p___neg__ (X : K.In h) (G : h.Ns mainGlobals mg) (c : SaysD hFa hFn K) : PF K (ga K "Poly") "__neg__" "Poly.__neg__" 8 := pf_of c 68 93 rfl rfl
theorem a_p_slope (X : K.In h) (G : h.Ns mainGlobals mg) (c : SaysD hFa hFn K) : PF K (ga K "Poly") "slope" "Poly.slope" 11 := pf_of c 69 94 rfl rfl
theorem a_p_area (X : K.In h) (G : h.Ns mainGlobals mg) (c : SaysD hFa hFn K) : PF K (ga K "Poly") "area" "Poly.area" 12 := pf_of c 70 95 rfl rfl
theorem a_p_at (X : K.In h) (G : h.Ns mainGlobals mg) (c : SaysD hFa hFn K) : PF K (ga K "Poly") "at" "Poly.at" 10 := pf_of c 71 96 rfl rfl
theorem a_p_moved (X : K.In h) (G : h.Ns mainGlobals mg) (c : SaysD hFa hFn K) : PF K (ga K "Poly") "moved" "Poly.moved" 13 := pf_of c 72 97 rfl rfl
theorem a_p_init (c : SaysD hFa hFn K) : ∃ f fd, FnP K "__init__" "Poly.__init__" (pol 0) f fd ∧ Mk K (ga K "Poly") f := by
  obtain ⟨fd, F⟩ := c.def_ 59 (d := ⟨("Poly", some "__init__"), "__init__", "Poly.__init__", defArgs (pol 0), defBody (pol 0), defScope (pol 0), [], []⟩) rfl
  exact ⟨_, fd, F, mkr_ok (c.fact 83 rfl)⟩
theorem asm_of (X : K.In h) (G : h.Ns mainGlobals mg) (c : SaysD hFa hFn K) (x : ExF K) : Asm K mg (ga K "Poly") (ga K "BadNumber") (ga K "BadRow") (ga K "BadInterval") (ga K "Unlike") where
  g := gs_of X G c x
  dA := x.dA
  dS := x.dS
  dM := x.dM
  ec := x.ec
  wg := wg_of X G c x
  xn := xn_of X G c x
  xr := xr_of X G c x
  p_init := a_p_init c
  t_why := a_t_why X G c
  t_is_whole := a_t_is_whole X G c
  t_is_ratio := a_t_is_ratio X G c
  t_divisor := a_t_divisor X G c
  t_lowest := a_t_lowest X G c
  t_parts := a_t_parts X G c
  t_told := a_t_told X G c
  t_plus := a_t_plus X G c
  t_minus := a_t_minus X G c
  t_times := a_t_times X G c
  t_share := a_t_share X G c
  t_lower := a_t_lower X G c
  t_floor_of := a_t_floor_of X G c
  t_bottom_of := a_t_bottom_of X G c
  t_ratio_text := a_t_ratio_text X G c
  t_without_zeros := a_t_without_zeros X G c
  t_poly_told := a_t_poly_told X G c
  t_added_up := a_t_added_up X G c
  t_summed := a_t_summed X G c
  t_power_number := a_t_power_number X G c
  t_multiplied := a_t_multiplied X G c
  t_plain := a_t_plain X G c
  t_divided := a_t_divided X G c
  t_common := a_t_common X G c
  t__law_gcd := a_t__law_gcd X G c
  t__law_q := a_t__law_q X G c
  t__law_plus := a_t__law_plus X G c
  t__law_minus := a_t__law_minus X G c
  t__law_times := a_t__law_times X G c
  t__law_share := a_t__law_share X G c
  t__law_less := a_t__law_less X G c
  t__law_is_whole := a_t__law_is_whole X G c
  t__law_is := a_t__law_is X G c
  t__law_poly := a_t__law_poly X G c
  t__law_p_plus := a_t__law_p_plus X G c
  t__law_p_scaled := a_t__law_p_scaled X G c
  t__law_p_minus := a_t__law_p_minus X G c
  t__law_p_times := a_t__law_p_times X G c
  t__law_p_at := a_t__law_p_at X G c
  t__law_p_slope := a_t__law_p_slope X G c
  t__law_p_moved := a_t__law_p_moved X G c
  t__law_p_divided := a_t__law_p_divided X G c
  t__law_p_plain := a_t__law_p_plain X G c
  t__law_p_short := a_t__law_p_short X G c
  t__law_p_common := a_t__law_p_common X G c
  t__law_draw := a_t__law_draw X G c
  t__law_pick := a_t__law_pick X G c
  t__law_passed := a_t__law_passed X G c
  t__law_ratio := a_t__law_ratio X G c
  t__law_made_poly := a_t__law_made_poly X G c
  t__law_drawn := a_t__law_drawn X G c
  t__law_any := a_t__law_any X G c
  t__law_far := a_t__law_far X G c
  t__law_some_ratio := a_t__law_some_ratio X G c
  t__law_pen := a_t__law_pen X G c
  p_degree := a_p_degree X G c
  p___eq__ := a_p___eq__ X G c
  p___add__ := a_p___add__ X G c
  p___radd__ := a_p___radd__ X G c
  p___sub__ := a_p___sub__ X G c
  p___rsub__ := a_p___rsub__ X G c
  p___mul__ := a_p___mul__ X G c
  p___rmul__ := a_p___rmul__ X G c
  p___neg__ := a_p___neg__ X G c
  p_slope := a_p_slope X G c
  p_area := a_p_area X G c
  p_at := a_p_at X G c
  p_moved := a_p_moved X G c
theorem FnG.mono {CX : CXT} {k m : Nat} {x : Str} {sp : Sp} (F : FnG P w K mg base CX k x sp) (h : k ≤ m) : FnG P w K mg base CX m x sp := by
  obtain ⟨f, fd, ps, ok, r⟩ := F.ex
  exact ⟨f, fd, ps, ⟨ok.len, fun A outer s H args us vs Q E hr => ok.go A outer s H args us vs Q E (hr.mono h)⟩, r⟩
/-- the names of the lambdas -/
def lq (x : Str) : Str := (x ++ ".<locals>.") ++ "<lambda>"
def hT (K : PySem.W.Frag) : Tb := hTf.map fun p => ((cT K p).2, lq p.1)
theorem uni_of : ∀ {l : List Defn} (_ : (l.map fun p => (cT K p).2).Nodup) {p q : Defn}, p ∈ l → q ∈ l → (cT K p).2 = (cT K q).2 → p = q
  | [], _, _, _, hp, _, _ => nomatch hp
  | a :: r, nd, p, q, hp, hq, e => by
    obtain ⟨n1, n2⟩ := List.nodup_cons.mp nd
    rcases List.mem_cons.mp hp with ep | hp1
    · rcases List.mem_cons.mp hq with eq | hq1
      · rw [ep, eq]
      · rw [ep] at e
        exact absurd (List.mem_map.mpr ⟨q, hq1, e.symm⟩) n1
    · rcases List.mem_cons.mp hq with eq | hq1
      · rw [eq] at e
        exact absurd (List.mem_map.mpr ⟨p, hp1, e⟩) n1
      · exact uni_of n2 hp1 hq1 e
theorem lamG_of (x : ExF K) (ht : ∀ p ∈ hTf.map (cT K), LamX.TabB base mg p.1 p.2) {y q : Str} {st : Stmt} {fd : FuncData} (hm : ((y, none) : Defn) ∈ hTf) (F : FnP K y q st (fAd K (y, none)) fd) : LamG base mg (hT K) fd.code (lq y) (cT K (y, none)).2 := by
  obtain ⟨oc, od, dV, kV, doc, pm, an, cdv, ct, osl, rfl, lk, hcd, _, _⟩ := F.ex
  obtain ⟨cc, rfl⟩ := codeIn_ref hcd
  have e : codeOf K (y, none) = cc := codeOf_eq lk rfl
  refine ⟨⟨cc, rfl, ?_⟩, List.mem_map.mpr ⟨(y, none), hm, rfl⟩, fun p hp e2 => ?_⟩
  · have z := ht _ (List.mem_map.mpr ⟨(y, none), hm, rfl⟩)
    have e3 : (cT K (y, none)).1 = cc := e
    rw [e3] at z
    exact z
  · obtain ⟨p0, hp0, rfl⟩ := List.mem_map.mp hp
    have z := uni_of x.nd hp0 hm e2
    rw [z]
/-- the law's def keeps its promise -/
theorem law_of (MF : DivAll) (X : K.In h) (G : h.Ns mainGlobals mg) (c : SaysD hFa hFn K) (x : ExF K) (hS : SysIn base) (ht : ∀ p ∈ hTf.map (cT K), LamX.TabB base mg p.1 p.2) :
    ∀ fd, FnP K "law" "law" (top 69) (fAd K ("law", none)) fd → FnOkG P w K mg base CX0 16 (fAd K ("law", none)) fd ["_law_script"] (spLaw K (hT K)) := by
  intro fd F
  have A := asm_of X G c x
  obtain ⟨V, E, L, N, PN⟩ := asm_all (P := P) (w := w) (base := base) A
  have W : WhyE K mg base (ga K "BadNumber") (ga K "BadRow") (ga K "BadInterval") (ga K "Unlike") := ⟨A.wg, hS, A.g.f "repr", A.t_why⟩

  obtain ⟨fdr, Fr⟩ := c.def_ 55 (d := ⟨("_law_ratios_right", none), "_law_ratios_right", "_law_ratios_right", defArgs (top 66), defBody (top 66), defScope (top 66), [], []⟩) rfl
  replace Fr : FnP K "_law_ratios_right" "_law_ratios_right" (top 66) (fAd K ("_law_ratios_right", none)) fdr := Fr
  have mr : mg "_law_ratios_right" = some (.ref (ga K "_law_ratios_right")) := glo_ok X G (c.fact 55 rfl)
  obtain ⟨fdm, Fm⟩ := c.def_ 56 (d := ⟨("_law_made_right", none), "_law_made_right", "_law_made_right", defArgs (top 67), defBody (top 67), defScope (top 67), [], []⟩) rfl
  replace Fm : FnP K "_law_made_right" "_law_made_right" (top 67) (fAd K ("_law_made_right", none)) fdm := Fm
  have mm : mg "_law_made_right" = some (.ref (ga K "_law_made_right")) := glo_ok X G (c.fact 56 rfl)
  obtain ⟨fdd, Fd⟩ := c.def_ 57 (d := ⟨("_law_divided_right", none), "_law_divided_right", "_law_divided_right", defArgs (top 68), defBody (top 68), defScope (top 68), [], []⟩) rfl
  replace Fd : FnP K "_law_divided_right" "_law_divided_right" (top 68) (fAd K ("_law_divided_right", none)) fdd := Fd
  have md : mg "_law_divided_right" = some (.ref (ga K "_law_divided_right")) := glo_ok X G (c.fact 57 rfl)
  have R1 := fn_rr (P := P) (w := w) (base := base) (k := 11) A.g V E L N W Fr mr (lamG_of x ht (by decide) Fr)
  have R2 := fn_mr (P := P) (w := w) (base := base) (k := 11) A.g V E L N W Fm mm (lamG_of x ht (by decide) Fm)
  have R3 := fn_dr (P := P) (w := w) (base := base) (k := 11) MF A.g V E L N W Fd md (lamG_of x ht (by decide) Fd)
  exact ok_law A.g V E L N PN W (FnG.mono R1 (by decide)) R2 R3 F (lamG_of x ht (by decide) F)

/-- what the end asks -/
theorem fin_of (MF : DivAll) (l : PySem.W.OpenLaw) (w : World) (mg : Str → Option Value) (fa : Addr) (h : Heap) (Y : ∃ K : PySem.W.Frag, K.In h ∧ SaysX hFa hFn [] hTf exB w h K) (G : h.Ns mainGlobals mg) (hmg : mg ("law" : Str) = some (.ref fa)) : ∃ K : PySem.W.Frag, K.In h ∧ LawG l w K 16 63 "_law_script" mg fa h := by
  obtain ⟨K, X, c⟩ := Y
  have x := exF_of c.more
  have eg : mg ("law" : Str) = some (.ref (ga K "law")) := glo_ok X G (c.t.d.fact 58 rfl)
  have e := hmg.symm.trans eg
  cases e
  obtain ⟨fd, F⟩ := c.t.d.def_ 58 (d := ⟨("law", none), "law", "law", defArgs (top 69), defBody (top 69), defScope (top 69), [], []⟩) rfl
  have b := FunD.bindsA (ps := ["_law_script"]) F fun _ _ _ _ _ _ us hl => match us, hl with | [_], _ => rfl
  refine ⟨K, X, fd, hTf.map (cT K), spLaw K (hT K), fun p hp => ?_, fun p hp => ?_, fun p hp => ?_, fun s v => b s [v] rfl, fun H a ns hl hH hS ha => ?_, fun base hK hN hSy ht => law_of MF hK hN c.t.d x hSy ht fd F⟩
  · obtain ⟨q, hq, rfl⟩ := List.mem_map.mp hp
    exact c.empty q hq
  · obtain ⟨q, hq, rfl⟩ := List.mem_map.mp hp
    exact c.out q hq
  · obtain ⟨q, hq, rfl⟩ := List.mem_map.mp hp
    exact PySem.W.codeHd_of_K X (c.hd q hq)
  · refine ⟨a, ns, rfl, hS, by omega, fun t ht => ?_, fun _ => rfl⟩
    obtain ⟨q, hq, rfl⟩ := List.mem_map.mp ht
    exact ⟨ha _ (List.mem_map.mpr ⟨q, hq, rfl⟩), hH _ (List.mem_map.mpr ⟨q, hq, rfl⟩)⟩
end
end TM
/-! ## LwGo -/
set_option Elab.async false
set_option linter.all false
set_option maxRecDepth 100000
set_option maxHeartbeats 4000000
set_option exponentiation.threshold 100000
/-! LwGo: the row holds, given the laws of division. -/
open PySem PySem.W PySem.Calls PyProof.Rows
theorem TM.holds_of (MF : TM.DivAll) : PySem.Challenge.rw_toldmeans_k01_whole_ratios_and_polynomia.Holds := by
  w_on; o_law
  refine TM.hGo ?hc
  case hc =>
    refine TM.walk_G (l := PySem.Challenge.rw_toldmeans_k01_whole_ratios_and_polynomia) (n := 63) (k := 16) (x := "_law_script") rfl (by decide) (by kernel_rfl) ⟨rfl, by decide, by decide⟩ (by kernel_rfl) ?F
    intro w mg fa h Y G hmg0
    have hmg : mg ("law" : PySem.Str) = some (.ref fa) := by
      have e : (HandSHeadRun.topDef (OpenLaw.row PySem.Challenge.rw_toldmeans_k01_whole_ratios_and_polynomia).prog 69).name = ("law" : PySem.Str) := by kernel_rfl
      rw [← e]
      exact hmg0
    exact TM.fin_of MF _ w mg fa h Y G hmg
set_option maxHeartbeats 4000000
theorem PySem.Challenge.cw_toldmeans_k01_whole_ratios_and_polynomia_holds : PySem.Challenge.rw_toldmeans_k01_whole_ratios_and_polynomia.Holds := by
  exact TM.holds_of TM.div_all
