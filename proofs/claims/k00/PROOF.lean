import PyProof.Rows.All
import Wide.All
import OpenK.AllK
import Wide.FinOn
import KE.KStateDown
import Lean
import HandS.ForExc
import HandS.More
import HandS.Defaults
import HandS.ExcInit
import HandS.ExcField
import HandS.ExcIs
import HandS.IsInst
import HandS.Head0
import HandS.Head1
import HandS.Head2
import HandS.HeadEnd
import HandS.HeadHook1
import HandS.HeadHook2
import HandS.HeadHook3
import HandS.HeadHook4
import PySem.Challenge.RW_howeverled_k00_kinds_and_the_web_checker
import HandS.Comp
import HandS.Iter
import HandS.Wide
import HandS.Flow
import HandS.Evl
import HandS.Style
import HandS.Zip
import KE.GoesEnum
import KE.GoesMore
import KE.KIndexOf
import HandS.TupLe
section
set_option Elab.async false
set_option linter.all false
set_option maxRecDepth 100000
set_option maxHeartbeats 0
namespace K00
open PySem PySem.Spec PyProof.Rows L2
def top (i : Nat) : Stmt := PySem.Challenge.pw_howeverled_k00_kinds_and_the_web_checker.main.body.getD i (.Pass ⟨0, 0, 0, 0⟩)
abbrev s_InvalidPaper__init__ : Stmt := inClass (top 4) 0
abbrev s_is_integer : Stmt := top 6
abbrev s_is_number : Stmt := top 7
abbrev s_common_divisor : Stmt := top 8
abbrev s_is_quotient : Stmt := top 9
abbrev s_is_lot : Stmt := top 10
abbrev s_is_web : Stmt := top 11
abbrev s_is_split : Stmt := top 12
abbrev s_is_purses : Stmt := top 13
abbrev s_is_joining : Stmt := top 14
abbrev s_lets_web : Stmt := top 16
abbrev s__law_pool : Stmt := top 18
abbrev s__law_take : Stmt := top 19
abbrev s__law_great : Stmt := top 20
abbrev s__law_int : Stmt := top 21
abbrev s__law_same : Stmt := top 22
abbrev s__law_room : Stmt := top 23
abbrev s__law_net : Stmt := top 24
abbrev s__law_odd : Stmt := top 25
abbrev s__law_spoilt : Stmt := top 26
abbrev s__law_bent : Stmt := top 27
abbrev s__law_word : Stmt := top 28
abbrev s__law_lowest : Stmt := top 29
abbrev s__law_numbers : Stmt := top 30
abbrev s__law_due : Stmt := top 31
abbrev s__law_told : Stmt := top 32
abbrev s__law_heard : Stmt := top 33
abbrev s__law_checked : Stmt := top 34
abbrev s__law_written : Stmt := top 35
abbrev s__law_wide : Stmt := top 36
abbrev s_law : Stmt := top 37
def d_s_InvalidPaper__init__ : He.DefD := ⟨("InvalidPaper", some "__init__"), "__init__", "InvalidPaper.__init__", defArgs s_InvalidPaper__init__, defBody s_InvalidPaper__init__, defScope s_InvalidPaper__init__, [], []⟩
def d_s_is_integer : He.DefD := ⟨("is_integer", none), "is_integer", "is_integer", defArgs s_is_integer, defBody s_is_integer, defScope s_is_integer, [], []⟩
def d_s_is_number : He.DefD := ⟨("is_number", none), "is_number", "is_number", defArgs s_is_number, defBody s_is_number, defScope s_is_number, [], []⟩
def d_s_common_divisor : He.DefD := ⟨("common_divisor", none), "common_divisor", "common_divisor", defArgs s_common_divisor, defBody s_common_divisor, defScope s_common_divisor, [], []⟩
def d_s_is_quotient : He.DefD := ⟨("is_quotient", none), "is_quotient", "is_quotient", defArgs s_is_quotient, defBody s_is_quotient, defScope s_is_quotient, [], []⟩
def d_s_is_lot : He.DefD := ⟨("is_lot", none), "is_lot", "is_lot", defArgs s_is_lot, defBody s_is_lot, defScope s_is_lot, [], []⟩
def d_s_is_web : He.DefD := ⟨("is_web", none), "is_web", "is_web", defArgs s_is_web, defBody s_is_web, defScope s_is_web, [], []⟩
def d_s_is_split : He.DefD := ⟨("is_split", none), "is_split", "is_split", defArgs s_is_split, defBody s_is_split, defScope s_is_split, [], []⟩
def d_s_is_purses : He.DefD := ⟨("is_purses", none), "is_purses", "is_purses", defArgs s_is_purses, defBody s_is_purses, defScope s_is_purses, [], []⟩
def d_s_is_joining : He.DefD := ⟨("is_joining", none), "is_joining", "is_joining", defArgs s_is_joining, defBody s_is_joining, defScope s_is_joining, [], []⟩
def d_s_lets_web : He.DefD := ⟨("lets_web", none), "lets_web", "lets_web", defArgs s_lets_web, defBody s_lets_web, defScope s_lets_web, [], []⟩
def d_s__law_pool : He.DefD := ⟨("_law_pool", none), "_law_pool", "_law_pool", defArgs s__law_pool, defBody s__law_pool, defScope s__law_pool, [], []⟩
def d_s__law_take : He.DefD := ⟨("_law_take", none), "_law_take", "_law_take", defArgs s__law_take, defBody s__law_take, defScope s__law_take, [], []⟩
def d_s__law_great : He.DefD := ⟨("_law_great", none), "_law_great", "_law_great", defArgs s__law_great, defBody s__law_great, defScope s__law_great, [], []⟩
def d_s__law_int : He.DefD := ⟨("_law_int", none), "_law_int", "_law_int", defArgs s__law_int, defBody s__law_int, defScope s__law_int, [], []⟩
def d_s__law_same : He.DefD := ⟨("_law_same", none), "_law_same", "_law_same", defArgs s__law_same, defBody s__law_same, defScope s__law_same, [], []⟩
def d_s__law_room : He.DefD := ⟨("_law_room", none), "_law_room", "_law_room", defArgs s__law_room, defBody s__law_room, defScope s__law_room, [], []⟩
def d_s__law_net : He.DefD := ⟨("_law_net", none), "_law_net", "_law_net", defArgs s__law_net, defBody s__law_net, defScope s__law_net, [], []⟩
def d_s__law_odd : He.DefD := ⟨("_law_odd", none), "_law_odd", "_law_odd", defArgs s__law_odd, defBody s__law_odd, defScope s__law_odd, [], []⟩
def d_s__law_spoilt : He.DefD := ⟨("_law_spoilt", none), "_law_spoilt", "_law_spoilt", defArgs s__law_spoilt, defBody s__law_spoilt, defScope s__law_spoilt, [], []⟩
def d_s__law_bent : He.DefD := ⟨("_law_bent", none), "_law_bent", "_law_bent", defArgs s__law_bent, defBody s__law_bent, defScope s__law_bent, [], []⟩
def d_s__law_word : He.DefD := ⟨("_law_word", none), "_law_word", "_law_word", defArgs s__law_word, defBody s__law_word, defScope s__law_word, [], []⟩
def d_s__law_lowest : He.DefD := ⟨("_law_lowest", none), "_law_lowest", "_law_lowest", defArgs s__law_lowest, defBody s__law_lowest, defScope s__law_lowest, [], []⟩
def d_s__law_numbers : He.DefD := ⟨("_law_numbers", none), "_law_numbers", "_law_numbers", defArgs s__law_numbers, defBody s__law_numbers, defScope s__law_numbers, [], []⟩
def d_s__law_due : He.DefD := ⟨("_law_due", none), "_law_due", "_law_due", defArgs s__law_due, defBody s__law_due, defScope s__law_due, [], []⟩
def d_s__law_told : He.DefD := ⟨("_law_told", none), "_law_told", "_law_told", defArgs s__law_told, defBody s__law_told, defScope s__law_told, [], []⟩
def d_s__law_heard : He.DefD := ⟨("_law_heard", none), "_law_heard", "_law_heard", defArgs s__law_heard, defBody s__law_heard, defScope s__law_heard, [], []⟩
def d_s__law_checked : He.DefD := ⟨("_law_checked", none), "_law_checked", "_law_checked", defArgs s__law_checked, defBody s__law_checked, defScope s__law_checked, [], []⟩
def d_s__law_written : He.DefD := ⟨("_law_written", none), "_law_written", "_law_written", defArgs s__law_written, defBody s__law_written, defScope s__law_written, [], []⟩
def d_s__law_wide : He.DefD := ⟨("_law_wide", none), "_law_wide", "_law_wide", defArgs s__law_wide, defBody s__law_wide, defScope s__law_wide, [], []⟩
def d_s_law : He.DefD := ⟨("law", none), "law", "law", defArgs s_law, defBody s_law, defScope s_law, [], []⟩
def fn : List He.DefD := ([d_s_InvalidPaper__init__, d_s_is_integer, d_s_is_number, d_s_common_divisor, d_s_is_quotient, d_s_is_lot, d_s_is_web, d_s_is_split, d_s_is_purses, d_s_is_joining, d_s_lets_web, d_s__law_pool, d_s__law_take, d_s__law_great, d_s__law_int, d_s__law_same, d_s__law_room, d_s__law_net, d_s__law_odd, d_s__law_spoilt] : List He.DefD) ++ ([d_s__law_bent, d_s__law_word, d_s__law_lowest, d_s__law_numbers, d_s__law_due, d_s__law_told, d_s__law_heard, d_s__law_checked, d_s__law_written, d_s__law_wide, d_s_law] : List He.DefD)
def fa : List He.Fa := ([.glo "LedError", .glo "PaperError", .glo "WebError", .glo "InvalidPaper", .glo "is_integer", .glo "is_number", .glo "common_divisor", .glo "is_quotient", .glo "is_lot", .glo "is_web", .glo "is_split", .glo "is_purses", .glo "is_joining", .glo "lets_web", .glo "_law_pool", .glo "_law_take", .glo "_law_great", .glo "_law_int", .glo "_law_same", .glo "_law_room"] : List He.Fa) ++ ([.glo "_law_net", .glo "_law_odd", .glo "_law_spoilt", .glo "_law_bent", .glo "_law_word", .glo "_law_lowest", .glo "_law_numbers", .glo "_law_due", .glo "_law_told", .glo "_law_heard", .glo "_law_checked", .glo "_law_written", .glo "_law_wide", .glo "law", .free "isinstance", .free "int", .free "bool", .free "tuple", .free "str", .free "list"] : List He.Fa) ++ ([.free "len", .free "abs", .free "range", .free "zip", .free "enumerate", .free "min", .free "ValueError"] : List He.Fa)
def loose : List PySem.Str := (["LedError", "PaperError", "WebError", "InvalidPaper", "is_integer", "is_number", "common_divisor", "is_quotient", "is_lot", "is_web", "is_split", "is_purses", "is_joining", "lets_web", "_law_pool", "_law_take", "_law_great", "_law_int", "_law_same", "_law_room"] : List PySem.Str) ++ (["_law_net", "_law_odd", "_law_spoilt", "_law_bent", "_law_word", "_law_lowest", "_law_numbers", "_law_due", "_law_told", "_law_heard", "_law_checked", "_law_written", "_law_wide"] : List PySem.Str)

def oexB (K : PySem.W.Frag) (C : Addr) : Bool := (match K.lookup C with
  | some ⟨.type c, _, .cls cd, sl⟩ => (match cd.mro, sl.toList with
    | .ref C2 :: bm, [_, _, _, _, some (.builtin n), _] => decide (c = "type") && (decide (C2 = C) && (decide (n = "ValueError.__new__") && (cd.hasDict && (!cd.hasDel && PySem.HandSPX.refsVE bm))))
    | _, _ => false)
  | _ => false)
def eqB (a b : Option (Option Value)) : Bool := decide (a = b)
def exF (K : PySem.W.Frag) : Bool := oexB K (He.ga K "InvalidPaper") && (eqB (PySem.W.findIn K (.ref (He.ga K "InvalidPaper")) "__setattr__") (some (some (.builtin "object.__setattr__"))) && (decide (PySem.W.subIn K (.ref (He.ga K "InvalidPaper")) (.type "BaseException") = some true) && (decide (PySem.W.typeIn K (.ref (He.ga K "InvalidPaper")) = some (.type "type")) && (PySem.W.keepIn K (.ref (He.ga K "InvalidPaper")) && (xfB K (He.ga K "InvalidPaper") && (eqB (PySem.W.findIn K (.ref (He.ga K "InvalidPaper")) "word") (some none) && (eqB (PySem.W.findIn K (.ref (He.ga K "InvalidPaper")) "at") (some none) && (eqB (PySem.W.findIn K (.ref (He.ga K "InvalidPaper")) "__init__") (some (some (.ref (He.ma K (He.ga K "InvalidPaper") "__init__")))) && (decide (PySem.W.typeIn K (.ref (He.ma K (He.ga K "InvalidPaper") "__init__")) = some (.type "function")) && (decide (PySem.W.exmOne K (.ref (He.ga K "InvalidPaper")) (.ref (He.ga K "InvalidPaper")) = some true) && (decide (PySem.W.kitOne K (.ref (He.ga K "InvalidPaper")) (.ref (He.ga K "PaperError")) = some true) && (decide (PySem.W.kitOne K (.ref (He.ga K "InvalidPaper")) (.ref (He.ga K "LedError")) = some true) && (decide (PySem.W.kitOne K (.ref (He.ga K "InvalidPaper")) (.type "ValueError") = some true) && (decide (PySem.W.kitOne K (.ref (He.ga K "InvalidPaper")) (.ref (He.ga K "WebError")) = some false) && (eqB (PySem.W.findIn K (.ref (He.ga K "InvalidPaper")) "__class__") (some (some (.builtin "object.__class__"))) && (eqB (PySem.W.specialIn K (.builtin "object.__class__") "__get__") (some (some (.builtin "getset_descriptor.__get__"))) && (decide (PySem.W.takesIn K (.builtin "object.__class__") = some true) && (decide (PySem.W.mroIn K (He.ga K "InvalidPaper") (.type "object") = some true)))))))))))))))))))
abbrev R : PySem.W.OpenRow := PySem.W.OpenLaw.row PySem.Challenge.rw_howeverled_k00_kinds_and_the_web_checker
abbrev hk : PySem.W.Hook := He.hookX 6 fa fn [] [] exF
def ob (s : PySem.W.SharedT) : He.AlX := He.obsX 6 fa fn [] [] exF (HandSHeadRun.getT s)
theorem ob_eq (s : PySem.W.SharedT) : ob s = hk.obs s.abs := He.obsX_eq (HandSHeadRun.getT_eq s)
theorem run (w : World) : HandSHeadRun.RunEq R (PySem.W.view R.prog [37]) hk ob 6000 loose w := by
  intro os
  kernel_rfl
end K00
open PySem PySem.W PySem.Calls PyProof.Rows
theorem K00.head (call : WalkO (view K00.R.prog [37]) K00.loose (XL (view K00.R.prog [37]) []) K00.hk.says K00.R.toRowW (HandSHeadRun.topDef K00.R.prog 37) [] fun f vs => PySem.call f vs) : PySem.Challenge.rw_howeverled_k00_kinds_and_the_web_checker.Holds := by
  w_on; o_law
  refine HandSHeadRun.head_any (r := K00.R) (q := view K00.R.prog [37]) (H := K00.hk) (ob := K00.ob) (M := 6000) (loose := K00.loose) (d := HandSHeadRun.topDef K00.R.prog 37) (kwd := []) K00.ob_eq
    (by kernel_rfl) (fun s => by kernel_rfl) K00.run (by kernel_rfl) (by kernel_rfl) (by kernel_rfl) (by rfl) (by first | assumption | decide +kernel) (by decide +kernel) ⟨rfl, rfl, rfl, rfl, rfl, by decide +kernel⟩ ?hw call
  case hw => w_witness2
end
section
set_option Elab.async false
set_option linter.all false
set_option maxRecDepth 100000
set_option maxHeartbeats 4000000
namespace K00
open PySem PySem.Spec PyProof.Rows L2

structure Txt (K : PySem.W.Frag) (mg : Str → Option Value) : Prop where
  d : He.SaysD fa fn K
  ex : exF K = true
  g : ∀ (i : Nat) {x : Str}, fa[i]? = some (.glo x) → mg x = some (.ref (He.ga K x))
  n : ∀ (i : Nat) {x : Str}, fa[i]? = some (.free x) → mg x = none

/-- the def d keeps the promise sp -/
def Keeps (P : Program) (w : World) (K : PySem.W.Frag) (mg : Str → Option Value) (base : Heap) (CX : CXT) (k : Nat) (d : He.DefD) (ps : List Str) (sp : Sp) : Prop :=
  ∃ fd, FunD K d.name d.qual d.params d.body d.scope (d.dvs K) (d.kws K) (He.fAd K d.at_) fd ∧ FnOk P w K mg base CX k (He.fAd K d.at_) fd ps sp

/-- a value whose type isinstance can tell here -/
inductive Kn (H : Hp) : V → String → Prop where
  | non : Kn H .non "NoneType"
  | bl (b : Bool) : Kn H (.bl b) "bool"
  | int (i : Int) : Kn H (.int i) "int"
  | str (x : Str) : Kn H (.str x) "str"
  | lst {a : Addr} {xs : List V} (e : H a = some (.lst xs)) : Kn H (.ref a) "list"
  | tup {a : Addr} {xs : List V} (e : H a = some (.tup xs)) : Kn H (.ref a) "tuple"
  | ftup {a : Addr} {o : Obj} {xs : List V} (e : H a = some (.frz o (.tup xs))) : Kn H (.ref a) "tuple"
theorem Kn.ty {K : PySem.W.Frag} {H : Hp} {v : V} {n : String} (h : Kn H v n) : TyX K H v (.type n) := by
  cases h with
  | non => exact .base .non
  | bl b => exact .base (.bl b)
  | int i => exact .base (.int i)
  | str x => exact .base (.str x)
  | lst e => exact .base (.lst e)
  | tup e => exact .base (.tup e)
  | ftup e => exact .fTuple e
/-- isinstance's answer for these types -/
def isiB (n t : String) : Bool := decide (n = t) || (decide (n = "bool") && decide (t = "int"))
theorem Kn.kit {K : PySem.W.Frag} {H : Hp} {v : V} {n : String} (h : Kn H v n) {t : String} (ht : t = "int" ∨ t = "bool" ∨ t = "tuple" ∨ t = "str" ∨ t = "list") : PySem.W.kitOne K (.type n) (.type t) = some (isiB n t) := by
  rcases ht with rfl | rfl | rfl | rfl | rfl <;> cases h <;> exact kit_ty (by decide +kernel)
theorem Kn.isi {K : PySem.W.Frag} {H : Hp} {v : V} {n : String} (h : Kn H v n) {t : String} (ht : t = "int" ∨ t = "bool" ∨ t = "tuple" ∨ t = "str" ∨ t = "list") {Q : VK} (q : Q (.bl (isiB n t)) H) : rIsi K [v, .ty t] H Q :=
  ⟨v, .ty t, .type n, .type t, _, rfl, .ty t, h.ty, h.kit ht, q⟩
theorem isi_NoneType_int : isiB "NoneType" "int" = false := by decide
theorem isi_NoneType_bool : isiB "NoneType" "bool" = false := by decide
theorem isi_NoneType_tuple : isiB "NoneType" "tuple" = false := by decide
theorem isi_NoneType_str : isiB "NoneType" "str" = false := by decide
theorem isi_NoneType_list : isiB "NoneType" "list" = false := by decide
theorem isi_bool_int : isiB "bool" "int" = true := by decide
theorem isi_bool_bool : isiB "bool" "bool" = true := by decide
theorem isi_bool_tuple : isiB "bool" "tuple" = false := by decide
theorem isi_bool_str : isiB "bool" "str" = false := by decide
theorem isi_bool_list : isiB "bool" "list" = false := by decide
theorem isi_int_int : isiB "int" "int" = true := by decide
theorem isi_int_bool : isiB "int" "bool" = false := by decide
theorem isi_int_tuple : isiB "int" "tuple" = false := by decide
theorem isi_int_str : isiB "int" "str" = false := by decide
theorem isi_int_list : isiB "int" "list" = false := by decide
theorem isi_str_int : isiB "str" "int" = false := by decide
theorem isi_str_bool : isiB "str" "bool" = false := by decide
theorem isi_str_tuple : isiB "str" "tuple" = false := by decide
theorem isi_str_str : isiB "str" "str" = true := by decide
theorem isi_str_list : isiB "str" "list" = false := by decide
theorem isi_list_int : isiB "list" "int" = false := by decide
theorem isi_list_bool : isiB "list" "bool" = false := by decide
theorem isi_list_tuple : isiB "list" "tuple" = false := by decide
theorem isi_list_str : isiB "list" "str" = false := by decide
theorem isi_list_list : isiB "list" "list" = true := by decide
theorem isi_tuple_int : isiB "tuple" "int" = false := by decide
theorem isi_tuple_bool : isiB "tuple" "bool" = false := by decide
theorem isi_tuple_tuple : isiB "tuple" "tuple" = true := by decide
theorem isi_tuple_str : isiB "tuple" "str" = false := by decide
theorem isi_tuple_list : isiB "tuple" "list" = false := by decide
end K00
end
section
set_option Elab.async false
set_option linter.all false
set_option maxRecDepth 100000
set_option maxHeartbeats 4000000
namespace K00
open PySem PySem.Spec PyProof.Rows L2
theorem g_LedError {K : PySem.W.Frag} {mg : Str → Option Value} (T : Txt K mg) : mg "LedError" = some (.ref (He.ga K "LedError")) := T.g 0 rfl
theorem g_PaperError {K : PySem.W.Frag} {mg : Str → Option Value} (T : Txt K mg) : mg "PaperError" = some (.ref (He.ga K "PaperError")) := T.g 1 rfl
theorem g_WebError {K : PySem.W.Frag} {mg : Str → Option Value} (T : Txt K mg) : mg "WebError" = some (.ref (He.ga K "WebError")) := T.g 2 rfl
theorem g_InvalidPaper {K : PySem.W.Frag} {mg : Str → Option Value} (T : Txt K mg) : mg "InvalidPaper" = some (.ref (He.ga K "InvalidPaper")) := T.g 3 rfl
theorem g_is_integer {K : PySem.W.Frag} {mg : Str → Option Value} (T : Txt K mg) : mg "is_integer" = some (.ref (He.ga K "is_integer")) := T.g 4 rfl
theorem g_is_number {K : PySem.W.Frag} {mg : Str → Option Value} (T : Txt K mg) : mg "is_number" = some (.ref (He.ga K "is_number")) := T.g 5 rfl
theorem g_common_divisor {K : PySem.W.Frag} {mg : Str → Option Value} (T : Txt K mg) : mg "common_divisor" = some (.ref (He.ga K "common_divisor")) := T.g 6 rfl
theorem g_is_quotient {K : PySem.W.Frag} {mg : Str → Option Value} (T : Txt K mg) : mg "is_quotient" = some (.ref (He.ga K "is_quotient")) := T.g 7 rfl
theorem g_is_lot {K : PySem.W.Frag} {mg : Str → Option Value} (T : Txt K mg) : mg "is_lot" = some (.ref (He.ga K "is_lot")) := T.g 8 rfl
theorem g_is_web {K : PySem.W.Frag} {mg : Str → Option Value} (T : Txt K mg) : mg "is_web" = some (.ref (He.ga K "is_web")) := T.g 9 rfl
theorem g_is_split {K : PySem.W.Frag} {mg : Str → Option Value} (T : Txt K mg) : mg "is_split" = some (.ref (He.ga K "is_split")) := T.g 10 rfl
theorem g_is_purses {K : PySem.W.Frag} {mg : Str → Option Value} (T : Txt K mg) : mg "is_purses" = some (.ref (He.ga K "is_purses")) := T.g 11 rfl
theorem g_is_joining {K : PySem.W.Frag} {mg : Str → Option Value} (T : Txt K mg) : mg "is_joining" = some (.ref (He.ga K "is_joining")) := T.g 12 rfl
theorem g_lets_web {K : PySem.W.Frag} {mg : Str → Option Value} (T : Txt K mg) : mg "lets_web" = some (.ref (He.ga K "lets_web")) := T.g 13 rfl
theorem g__law_pool {K : PySem.W.Frag} {mg : Str → Option Value} (T : Txt K mg) : mg "_law_pool" = some (.ref (He.ga K "_law_pool")) := T.g 14 rfl
theorem g__law_take {K : PySem.W.Frag} {mg : Str → Option Value} (T : Txt K mg) : mg "_law_take" = some (.ref (He.ga K "_law_take")) := T.g 15 rfl
theorem g__law_great {K : PySem.W.Frag} {mg : Str → Option Value} (T : Txt K mg) : mg "_law_great" = some (.ref (He.ga K "_law_great")) := T.g 16 rfl
theorem g__law_int {K : PySem.W.Frag} {mg : Str → Option Value} (T : Txt K mg) : mg "_law_int" = some (.ref (He.ga K "_law_int")) := T.g 17 rfl
theorem g__law_same {K : PySem.W.Frag} {mg : Str → Option Value} (T : Txt K mg) : mg "_law_same" = some (.ref (He.ga K "_law_same")) := T.g 18 rfl
theorem g__law_room {K : PySem.W.Frag} {mg : Str → Option Value} (T : Txt K mg) : mg "_law_room" = some (.ref (He.ga K "_law_room")) := T.g 19 rfl
theorem g__law_net {K : PySem.W.Frag} {mg : Str → Option Value} (T : Txt K mg) : mg "_law_net" = some (.ref (He.ga K "_law_net")) := T.g 20 rfl
theorem g__law_odd {K : PySem.W.Frag} {mg : Str → Option Value} (T : Txt K mg) : mg "_law_odd" = some (.ref (He.ga K "_law_odd")) := T.g 21 rfl
theorem g__law_spoilt {K : PySem.W.Frag} {mg : Str → Option Value} (T : Txt K mg) : mg "_law_spoilt" = some (.ref (He.ga K "_law_spoilt")) := T.g 22 rfl
theorem g__law_bent {K : PySem.W.Frag} {mg : Str → Option Value} (T : Txt K mg) : mg "_law_bent" = some (.ref (He.ga K "_law_bent")) := T.g 23 rfl
theorem g__law_word {K : PySem.W.Frag} {mg : Str → Option Value} (T : Txt K mg) : mg "_law_word" = some (.ref (He.ga K "_law_word")) := T.g 24 rfl
theorem g__law_lowest {K : PySem.W.Frag} {mg : Str → Option Value} (T : Txt K mg) : mg "_law_lowest" = some (.ref (He.ga K "_law_lowest")) := T.g 25 rfl
theorem g__law_numbers {K : PySem.W.Frag} {mg : Str → Option Value} (T : Txt K mg) : mg "_law_numbers" = some (.ref (He.ga K "_law_numbers")) := T.g 26 rfl
theorem g__law_due {K : PySem.W.Frag} {mg : Str → Option Value} (T : Txt K mg) : mg "_law_due" = some (.ref (He.ga K "_law_due")) := T.g 27 rfl
theorem g__law_told {K : PySem.W.Frag} {mg : Str → Option Value} (T : Txt K mg) : mg "_law_told" = some (.ref (He.ga K "_law_told")) := T.g 28 rfl
theorem g__law_heard {K : PySem.W.Frag} {mg : Str → Option Value} (T : Txt K mg) : mg "_law_heard" = some (.ref (He.ga K "_law_heard")) := T.g 29 rfl
theorem g__law_checked {K : PySem.W.Frag} {mg : Str → Option Value} (T : Txt K mg) : mg "_law_checked" = some (.ref (He.ga K "_law_checked")) := T.g 30 rfl
theorem g__law_written {K : PySem.W.Frag} {mg : Str → Option Value} (T : Txt K mg) : mg "_law_written" = some (.ref (He.ga K "_law_written")) := T.g 31 rfl
theorem g__law_wide {K : PySem.W.Frag} {mg : Str → Option Value} (T : Txt K mg) : mg "_law_wide" = some (.ref (He.ga K "_law_wide")) := T.g 32 rfl
theorem g_law {K : PySem.W.Frag} {mg : Str → Option Value} (T : Txt K mg) : mg "law" = some (.ref (He.ga K "law")) := T.g 33 rfl
theorem n_isinstance {K : PySem.W.Frag} {mg : Str → Option Value} (T : Txt K mg) : mg "isinstance" = none := T.n 34 rfl
theorem n_int {K : PySem.W.Frag} {mg : Str → Option Value} (T : Txt K mg) : mg "int" = none := T.n 35 rfl
theorem n_bool {K : PySem.W.Frag} {mg : Str → Option Value} (T : Txt K mg) : mg "bool" = none := T.n 36 rfl
theorem n_tuple {K : PySem.W.Frag} {mg : Str → Option Value} (T : Txt K mg) : mg "tuple" = none := T.n 37 rfl
theorem n_str {K : PySem.W.Frag} {mg : Str → Option Value} (T : Txt K mg) : mg "str" = none := T.n 38 rfl
theorem n_list {K : PySem.W.Frag} {mg : Str → Option Value} (T : Txt K mg) : mg "list" = none := T.n 39 rfl
theorem n_len {K : PySem.W.Frag} {mg : Str → Option Value} (T : Txt K mg) : mg "len" = none := T.n 40 rfl
theorem n_abs {K : PySem.W.Frag} {mg : Str → Option Value} (T : Txt K mg) : mg "abs" = none := T.n 41 rfl
theorem n_range {K : PySem.W.Frag} {mg : Str → Option Value} (T : Txt K mg) : mg "range" = none := T.n 42 rfl
theorem n_zip {K : PySem.W.Frag} {mg : Str → Option Value} (T : Txt K mg) : mg "zip" = none := T.n 43 rfl
theorem n_enumerate {K : PySem.W.Frag} {mg : Str → Option Value} (T : Txt K mg) : mg "enumerate" = none := T.n 44 rfl
theorem n_min {K : PySem.W.Frag} {mg : Str → Option Value} (T : Txt K mg) : mg "min" = none := T.n 45 rfl
theorem n_ValueError {K : PySem.W.Frag} {mg : Str → Option Value} (T : Txt K mg) : mg "ValueError" = none := T.n 46 rfl
theorem sc_InvalidPaper__init__ : FnScope ["self", "word", "at"] ["self", "word", "at"] (defScope s_InvalidPaper__init__) := ⟨rfl, rfl, rfl, by decide +kernel, rfl, by decide +kernel, by decide +kernel⟩
theorem f_InvalidPaper__init__ {K : PySem.W.Frag} {mg : Str → Option Value} (T : Txt K mg) : ∃ fd, FunD K d_s_InvalidPaper__init__.name d_s_InvalidPaper__init__.qual d_s_InvalidPaper__init__.params d_s_InvalidPaper__init__.body d_s_InvalidPaper__init__.scope [] [] (He.fAd K d_s_InvalidPaper__init__.at_) fd := T.d.def_ 0 (d := d_s_InvalidPaper__init__) rfl
theorem b_InvalidPaper__init__ {K : PySem.W.Frag} {fd : FuncData} (F : FunD K d_s_InvalidPaper__init__.name d_s_InvalidPaper__init__.qual d_s_InvalidPaper__init__.params d_s_InvalidPaper__init__.body d_s_InvalidPaper__init__.scope [] [] (He.fAd K d_s_InvalidPaper__init__.at_) fd) : Binds K fd ["self", "word", "at"] [] := F.bindsN fun _ _ _ _ _ _ us hl => match us, hl with | [_, _, _], _ => rfl
theorem sc_is_integer : FnScope ["thing"] ["thing"] (defScope s_is_integer) := ⟨rfl, rfl, rfl, by decide +kernel, rfl, by decide +kernel, by decide +kernel⟩
theorem f_is_integer {K : PySem.W.Frag} {mg : Str → Option Value} (T : Txt K mg) : ∃ fd, FunD K d_s_is_integer.name d_s_is_integer.qual d_s_is_integer.params d_s_is_integer.body d_s_is_integer.scope [] [] (He.fAd K d_s_is_integer.at_) fd := T.d.def_ 1 (d := d_s_is_integer) rfl
theorem b_is_integer {K : PySem.W.Frag} {fd : FuncData} (F : FunD K d_s_is_integer.name d_s_is_integer.qual d_s_is_integer.params d_s_is_integer.body d_s_is_integer.scope [] [] (He.fAd K d_s_is_integer.at_) fd) : Binds K fd ["thing"] [] := F.bindsN fun _ _ _ _ _ _ us hl => match us, hl with | [_], _ => rfl
theorem sc_is_number : FnScope ["thing"] ["thing"] (defScope s_is_number) := ⟨rfl, rfl, rfl, by decide +kernel, rfl, by decide +kernel, by decide +kernel⟩
theorem f_is_number {K : PySem.W.Frag} {mg : Str → Option Value} (T : Txt K mg) : ∃ fd, FunD K d_s_is_number.name d_s_is_number.qual d_s_is_number.params d_s_is_number.body d_s_is_number.scope [] [] (He.fAd K d_s_is_number.at_) fd := T.d.def_ 2 (d := d_s_is_number) rfl
theorem b_is_number {K : PySem.W.Frag} {fd : FuncData} (F : FunD K d_s_is_number.name d_s_is_number.qual d_s_is_number.params d_s_is_number.body d_s_is_number.scope [] [] (He.fAd K d_s_is_number.at_) fd) : Binds K fd ["thing"] [] := F.bindsN fun _ _ _ _ _ _ us hl => match us, hl with | [_], _ => rfl
theorem sc_common_divisor : FnScope ["one", "other"] ["one", "other"] (defScope s_common_divisor) := ⟨rfl, rfl, rfl, by decide +kernel, rfl, by decide +kernel, by decide +kernel⟩
theorem f_common_divisor {K : PySem.W.Frag} {mg : Str → Option Value} (T : Txt K mg) : ∃ fd, FunD K d_s_common_divisor.name d_s_common_divisor.qual d_s_common_divisor.params d_s_common_divisor.body d_s_common_divisor.scope [] [] (He.fAd K d_s_common_divisor.at_) fd := T.d.def_ 3 (d := d_s_common_divisor) rfl
theorem b_common_divisor {K : PySem.W.Frag} {fd : FuncData} (F : FunD K d_s_common_divisor.name d_s_common_divisor.qual d_s_common_divisor.params d_s_common_divisor.body d_s_common_divisor.scope [] [] (He.fAd K d_s_common_divisor.at_) fd) : Binds K fd ["one", "other"] [] := F.bindsN fun _ _ _ _ _ _ us hl => match us, hl with | [_, _], _ => rfl
theorem sc_is_quotient : FnScope ["thing", "top", "bottom"] ["thing"] (defScope s_is_quotient) := ⟨rfl, rfl, rfl, by decide +kernel, rfl, by decide +kernel, by decide +kernel⟩
theorem f_is_quotient {K : PySem.W.Frag} {mg : Str → Option Value} (T : Txt K mg) : ∃ fd, FunD K d_s_is_quotient.name d_s_is_quotient.qual d_s_is_quotient.params d_s_is_quotient.body d_s_is_quotient.scope [] [] (He.fAd K d_s_is_quotient.at_) fd := T.d.def_ 4 (d := d_s_is_quotient) rfl
theorem b_is_quotient {K : PySem.W.Frag} {fd : FuncData} (F : FunD K d_s_is_quotient.name d_s_is_quotient.qual d_s_is_quotient.params d_s_is_quotient.body d_s_is_quotient.scope [] [] (He.fAd K d_s_is_quotient.at_) fd) : Binds K fd ["thing"] [] := F.bindsN fun _ _ _ _ _ _ us hl => match us, hl with | [_], _ => rfl
theorem sc_is_lot : FnScope ["size", "thing", "last", "house"] ["size", "thing"] (defScope s_is_lot) := ⟨rfl, rfl, rfl, by decide +kernel, rfl, by decide +kernel, by decide +kernel⟩
theorem f_is_lot {K : PySem.W.Frag} {mg : Str → Option Value} (T : Txt K mg) : ∃ fd, FunD K d_s_is_lot.name d_s_is_lot.qual d_s_is_lot.params d_s_is_lot.body d_s_is_lot.scope [] [] (He.fAd K d_s_is_lot.at_) fd := T.d.def_ 5 (d := d_s_is_lot) rfl
theorem b_is_lot {K : PySem.W.Frag} {fd : FuncData} (F : FunD K d_s_is_lot.name d_s_is_lot.qual d_s_is_lot.params d_s_is_lot.body d_s_is_lot.scope [] [] (He.fAd K d_s_is_lot.at_) fd) : Binds K fd ["size", "thing"] [] := F.bindsN fun _ _ _ _ _ _ us hl => match us, hl with | [_, _], _ => rfl
theorem sc_is_web : FnScope ["thing", "size", "lines", "line", "one", "other", "room"] ["thing"] (defScope s_is_web) := ⟨rfl, rfl, rfl, by decide +kernel, rfl, by decide +kernel, by decide +kernel⟩
theorem f_is_web {K : PySem.W.Frag} {mg : Str → Option Value} (T : Txt K mg) : ∃ fd, FunD K d_s_is_web.name d_s_is_web.qual d_s_is_web.params d_s_is_web.body d_s_is_web.scope [] [] (He.fAd K d_s_is_web.at_) fd := T.d.def_ 6 (d := d_s_is_web) rfl
theorem b_is_web {K : PySem.W.Frag} {fd : FuncData} (F : FunD K d_s_is_web.name d_s_is_web.qual d_s_is_web.params d_s_is_web.body d_s_is_web.scope [] [] (He.fAd K d_s_is_web.at_) fd) : Binds K fd ["thing"] [] := F.bindsN fun _ _ _ _ _ _ us hl => match us, hl with | [_], _ => rfl
theorem sc_is_split : FnScope ["web", "thing", "lines", "line", "near"] ["web", "thing"] (defScope s_is_split) := ⟨rfl, rfl, rfl, by decide +kernel, rfl, by decide +kernel, by decide +kernel⟩
theorem f_is_split {K : PySem.W.Frag} {mg : Str → Option Value} (T : Txt K mg) : ∃ fd, FunD K d_s_is_split.name d_s_is_split.qual d_s_is_split.params d_s_is_split.body d_s_is_split.scope [] [] (He.fAd K d_s_is_split.at_) fd := T.d.def_ 7 (d := d_s_is_split) rfl
theorem b_is_split {K : PySem.W.Frag} {fd : FuncData} (F : FunD K d_s_is_split.name d_s_is_split.qual d_s_is_split.params d_s_is_split.body d_s_is_split.scope [] [] (He.fAd K d_s_is_split.at_) fd) : Binds K fd ["web", "thing"] [] := F.bindsN fun _ _ _ _ _ _ us hl => match us, hl with | [_, _], _ => rfl
theorem sc_is_purses : FnScope ["size", "thing", "purse"] ["size", "thing"] (defScope s_is_purses) := ⟨rfl, rfl, rfl, by decide +kernel, rfl, by decide +kernel, by decide +kernel⟩
theorem f_is_purses {K : PySem.W.Frag} {mg : Str → Option Value} (T : Txt K mg) : ∃ fd, FunD K d_s_is_purses.name d_s_is_purses.qual d_s_is_purses.params d_s_is_purses.body d_s_is_purses.scope [] [] (He.fAd K d_s_is_purses.at_) fd := T.d.def_ 8 (d := d_s_is_purses) rfl
theorem b_is_purses {K : PySem.W.Frag} {fd : FuncData} (F : FunD K d_s_is_purses.name d_s_is_purses.qual d_s_is_purses.params d_s_is_purses.body d_s_is_purses.scope [] [] (He.fAd K d_s_is_purses.at_) fd) : Binds K fd ["size", "thing"] [] := F.bindsN fun _ _ _ _ _ _ us hl => match us, hl with | [_, _], _ => rfl
theorem sc_is_joining : FnScope ["many", "thing", "place", "least"] ["many", "thing"] (defScope s_is_joining) := ⟨rfl, rfl, rfl, by decide +kernel, rfl, by decide +kernel, by decide +kernel⟩
theorem f_is_joining {K : PySem.W.Frag} {mg : Str → Option Value} (T : Txt K mg) : ∃ fd, FunD K d_s_is_joining.name d_s_is_joining.qual d_s_is_joining.params d_s_is_joining.body d_s_is_joining.scope [] [] (He.fAd K d_s_is_joining.at_) fd := T.d.def_ 9 (d := d_s_is_joining) rfl
theorem b_is_joining {K : PySem.W.Frag} {fd : FuncData} (F : FunD K d_s_is_joining.name d_s_is_joining.qual d_s_is_joining.params d_s_is_joining.body d_s_is_joining.scope [] [] (He.fAd K d_s_is_joining.at_) fd) : Binds K fd ["many", "thing"] [] := F.bindsN fun _ _ _ _ _ _ us hl => match us, hl with | [_, _], _ => rfl
theorem sc_lets_web : FnScope ["thing", "size", "lines", "place", "line", "one", "other", "room"] ["thing"] (defScope s_lets_web) := ⟨rfl, rfl, rfl, by decide +kernel, rfl, by decide +kernel, by decide +kernel⟩
theorem f_lets_web {K : PySem.W.Frag} {mg : Str → Option Value} (T : Txt K mg) : ∃ fd, FunD K d_s_lets_web.name d_s_lets_web.qual d_s_lets_web.params d_s_lets_web.body d_s_lets_web.scope [] [] (He.fAd K d_s_lets_web.at_) fd := T.d.def_ 10 (d := d_s_lets_web) rfl
theorem b_lets_web {K : PySem.W.Frag} {fd : FuncData} (F : FunD K d_s_lets_web.name d_s_lets_web.qual d_s_lets_web.params d_s_lets_web.body d_s_lets_web.scope [] [] (He.fAd K d_s_lets_web.at_) fd) : Binds K fd ["thing"] [] := F.bindsN fun _ _ _ _ _ _ us hl => match us, hl with | [_], _ => rfl
theorem sc__law_pool : FnScope ["_law_script", "_law_pool_here", "_law_state", "_law_cell", "_law_left", "_law_k"] ["_law_script"] (defScope s__law_pool) := ⟨rfl, rfl, rfl, by decide +kernel, rfl, by decide +kernel, by decide +kernel⟩
theorem f__law_pool {K : PySem.W.Frag} {mg : Str → Option Value} (T : Txt K mg) : ∃ fd, FunD K d_s__law_pool.name d_s__law_pool.qual d_s__law_pool.params d_s__law_pool.body d_s__law_pool.scope [] [] (He.fAd K d_s__law_pool.at_) fd := T.d.def_ 11 (d := d_s__law_pool) rfl
theorem b__law_pool {K : PySem.W.Frag} {fd : FuncData} (F : FunD K d_s__law_pool.name d_s__law_pool.qual d_s__law_pool.params d_s__law_pool.body d_s__law_pool.scope [] [] (He.fAd K d_s__law_pool.at_) fd) : Binds K fd ["_law_script"] [] := F.bindsN fun _ _ _ _ _ _ us hl => match us, hl with | [_], _ => rfl
theorem sc__law_take : FnScope ["_law_pool_here", "_law_bound"] ["_law_pool_here", "_law_bound"] (defScope s__law_take) := ⟨rfl, rfl, rfl, by decide +kernel, rfl, by decide +kernel, by decide +kernel⟩
theorem f__law_take {K : PySem.W.Frag} {mg : Str → Option Value} (T : Txt K mg) : ∃ fd, FunD K d_s__law_take.name d_s__law_take.qual d_s__law_take.params d_s__law_take.body d_s__law_take.scope [] [] (He.fAd K d_s__law_take.at_) fd := T.d.def_ 12 (d := d_s__law_take) rfl
theorem b__law_take {K : PySem.W.Frag} {fd : FuncData} (F : FunD K d_s__law_take.name d_s__law_take.qual d_s__law_take.params d_s__law_take.body d_s__law_take.scope [] [] (He.fAd K d_s__law_take.at_) fd) : Binds K fd ["_law_pool_here", "_law_bound"] [] := F.bindsN fun _ _ _ _ _ _ us hl => match us, hl with | [_, _], _ => rfl
theorem sc__law_great : FnScope ["_law_pool_here", "_law_value", "_law_k"] ["_law_pool_here"] (defScope s__law_great) := ⟨rfl, rfl, rfl, by decide +kernel, rfl, by decide +kernel, by decide +kernel⟩
theorem f__law_great {K : PySem.W.Frag} {mg : Str → Option Value} (T : Txt K mg) : ∃ fd, FunD K d_s__law_great.name d_s__law_great.qual d_s__law_great.params d_s__law_great.body d_s__law_great.scope [] [] (He.fAd K d_s__law_great.at_) fd := T.d.def_ 13 (d := d_s__law_great) rfl
theorem b__law_great {K : PySem.W.Frag} {fd : FuncData} (F : FunD K d_s__law_great.name d_s__law_great.qual d_s__law_great.params d_s__law_great.body d_s__law_great.scope [] [] (He.fAd K d_s__law_great.at_) fd) : Binds K fd ["_law_pool_here"] [] := F.bindsN fun _ _ _ _ _ _ us hl => match us, hl with | [_], _ => rfl
theorem sc__law_int : FnScope ["_law_value"] ["_law_value"] (defScope s__law_int) := ⟨rfl, rfl, rfl, by decide +kernel, rfl, by decide +kernel, by decide +kernel⟩
theorem f__law_int {K : PySem.W.Frag} {mg : Str → Option Value} (T : Txt K mg) : ∃ fd, FunD K d_s__law_int.name d_s__law_int.qual d_s__law_int.params d_s__law_int.body d_s__law_int.scope [] [] (He.fAd K d_s__law_int.at_) fd := T.d.def_ 14 (d := d_s__law_int) rfl
theorem b__law_int {K : PySem.W.Frag} {fd : FuncData} (F : FunD K d_s__law_int.name d_s__law_int.qual d_s__law_int.params d_s__law_int.body d_s__law_int.scope [] [] (He.fAd K d_s__law_int.at_) fd) : Binds K fd ["_law_value"] [] := F.bindsN fun _ _ _ _ _ _ us hl => match us, hl with | [_], _ => rfl
theorem sc__law_same : FnScope ["_law_got", "_law_due_here", "_law_k"] ["_law_got", "_law_due_here"] (defScope s__law_same) := ⟨rfl, rfl, rfl, by decide +kernel, rfl, by decide +kernel, by decide +kernel⟩
theorem f__law_same {K : PySem.W.Frag} {mg : Str → Option Value} (T : Txt K mg) : ∃ fd, FunD K d_s__law_same.name d_s__law_same.qual d_s__law_same.params d_s__law_same.body d_s__law_same.scope [] [] (He.fAd K d_s__law_same.at_) fd := T.d.def_ 15 (d := d_s__law_same) rfl
theorem b__law_same {K : PySem.W.Frag} {fd : FuncData} (F : FunD K d_s__law_same.name d_s__law_same.qual d_s__law_same.params d_s__law_same.body d_s__law_same.scope [] [] (He.fAd K d_s__law_same.at_) fd) : Binds K fd ["_law_got", "_law_due_here"] [] := F.bindsN fun _ _ _ _ _ _ us hl => match us, hl with | [_, _], _ => rfl
theorem sc__law_room : FnScope ["_law_pool_here", "_law_choice"] ["_law_pool_here"] (defScope s__law_room) := ⟨rfl, rfl, rfl, by decide +kernel, rfl, by decide +kernel, by decide +kernel⟩
theorem f__law_room {K : PySem.W.Frag} {mg : Str → Option Value} (T : Txt K mg) : ∃ fd, FunD K d_s__law_room.name d_s__law_room.qual d_s__law_room.params d_s__law_room.body d_s__law_room.scope [] [] (He.fAd K d_s__law_room.at_) fd := T.d.def_ 16 (d := d_s__law_room) rfl
theorem b__law_room {K : PySem.W.Frag} {fd : FuncData} (F : FunD K d_s__law_room.name d_s__law_room.qual d_s__law_room.params d_s__law_room.body d_s__law_room.scope [] [] (He.fAd K d_s__law_room.at_) fd) : Binds K fd ["_law_pool_here"] [] := F.bindsN fun _ _ _ _ _ _ us hl => match us, hl with | [_], _ => rfl
theorem sc__law_net : FnScope ["_law_pool_here", "_law_n", "_law_rows", "_law_k", "_law_low", "_law_high"] ["_law_pool_here"] (defScope s__law_net) := ⟨rfl, rfl, rfl, by decide +kernel, rfl, by decide +kernel, by decide +kernel⟩
theorem f__law_net {K : PySem.W.Frag} {mg : Str → Option Value} (T : Txt K mg) : ∃ fd, FunD K d_s__law_net.name d_s__law_net.qual d_s__law_net.params d_s__law_net.body d_s__law_net.scope [] [] (He.fAd K d_s__law_net.at_) fd := T.d.def_ 17 (d := d_s__law_net) rfl
theorem b__law_net {K : PySem.W.Frag} {fd : FuncData} (F : FunD K d_s__law_net.name d_s__law_net.qual d_s__law_net.params d_s__law_net.body d_s__law_net.scope [] [] (He.fAd K d_s__law_net.at_) fd) : Binds K fd ["_law_pool_here"] [] := F.bindsN fun _ _ _ _ _ _ us hl => match us, hl with | [_], _ => rfl
theorem sc__law_odd : FnScope ["_law_pool_here", "_law_menu"] ["_law_pool_here"] (defScope s__law_odd) := ⟨rfl, rfl, rfl, by decide +kernel, rfl, by decide +kernel, by decide +kernel⟩
theorem f__law_odd {K : PySem.W.Frag} {mg : Str → Option Value} (T : Txt K mg) : ∃ fd, FunD K d_s__law_odd.name d_s__law_odd.qual d_s__law_odd.params d_s__law_odd.body d_s__law_odd.scope [] [] (He.fAd K d_s__law_odd.at_) fd := T.d.def_ 18 (d := d_s__law_odd) rfl
theorem b__law_odd {K : PySem.W.Frag} {fd : FuncData} (F : FunD K d_s__law_odd.name d_s__law_odd.qual d_s__law_odd.params d_s__law_odd.body d_s__law_odd.scope [] [] (He.fAd K d_s__law_odd.at_) fd) : Binds K fd ["_law_pool_here"] [] := F.bindsN fun _ _ _ _ _ _ us hl => match us, hl with | [_], _ => rfl
theorem sc__law_spoilt : FnScope ["_law_pool_here", "_law_value", "_law_way", "_law_n", "_law_rows", "_law_odd_here", "_law_place", "_law_row", "_law_end", "_law_spot"] ["_law_pool_here", "_law_value"] (defScope s__law_spoilt) := ⟨rfl, rfl, rfl, by decide +kernel, rfl, by decide +kernel, by decide +kernel⟩
theorem f__law_spoilt {K : PySem.W.Frag} {mg : Str → Option Value} (T : Txt K mg) : ∃ fd, FunD K d_s__law_spoilt.name d_s__law_spoilt.qual d_s__law_spoilt.params d_s__law_spoilt.body d_s__law_spoilt.scope [] [] (He.fAd K d_s__law_spoilt.at_) fd := T.d.def_ 19 (d := d_s__law_spoilt) rfl
theorem b__law_spoilt {K : PySem.W.Frag} {fd : FuncData} (F : FunD K d_s__law_spoilt.name d_s__law_spoilt.qual d_s__law_spoilt.params d_s__law_spoilt.body d_s__law_spoilt.scope [] [] (He.fAd K d_s__law_spoilt.at_) fd) : Binds K fd ["_law_pool_here", "_law_value"] [] := F.bindsN fun _ _ _ _ _ _ us hl => match us, hl with | [_, _], _ => rfl
theorem sc__law_bent : FnScope ["_law_pool_here", "_law_row", "_law_n", "_law_way", "_law_place"] ["_law_pool_here", "_law_row", "_law_n"] (defScope s__law_bent) := ⟨rfl, rfl, rfl, by decide +kernel, rfl, by decide +kernel, by decide +kernel⟩
theorem f__law_bent {K : PySem.W.Frag} {mg : Str → Option Value} (T : Txt K mg) : ∃ fd, FunD K d_s__law_bent.name d_s__law_bent.qual d_s__law_bent.params d_s__law_bent.body d_s__law_bent.scope [] [] (He.fAd K d_s__law_bent.at_) fd := T.d.def_ 20 (d := d_s__law_bent) rfl
theorem b__law_bent {K : PySem.W.Frag} {fd : FuncData} (F : FunD K d_s__law_bent.name d_s__law_bent.qual d_s__law_bent.params d_s__law_bent.body d_s__law_bent.scope [] [] (He.fAd K d_s__law_bent.at_) fd) : Binds K fd ["_law_pool_here", "_law_row", "_law_n"] [] := F.bindsN fun _ _ _ _ _ _ us hl => match us, hl with | [_, _, _], _ => rfl
theorem sc__law_word : FnScope ["_law_value", "_law_k", "_law_row"] ["_law_value"] (defScope s__law_word) := ⟨rfl, rfl, rfl, by decide +kernel, rfl, by decide +kernel, by decide +kernel⟩
theorem f__law_word {K : PySem.W.Frag} {mg : Str → Option Value} (T : Txt K mg) : ∃ fd, FunD K d_s__law_word.name d_s__law_word.qual d_s__law_word.params d_s__law_word.body d_s__law_word.scope [] [] (He.fAd K d_s__law_word.at_) fd := T.d.def_ 21 (d := d_s__law_word) rfl
theorem b__law_word {K : PySem.W.Frag} {fd : FuncData} (F : FunD K d_s__law_word.name d_s__law_word.qual d_s__law_word.params d_s__law_word.body d_s__law_word.scope [] [] (He.fAd K d_s__law_word.at_) fd) : Binds K fd ["_law_value"] [] := F.bindsN fun _ _ _ _ _ _ us hl => match us, hl with | [_], _ => rfl
theorem sc__law_lowest : FnScope ["_law_value", "_law_left", "_law_rest", "_law_k", "_law_kept"] ["_law_value"] (defScope s__law_lowest) := ⟨rfl, rfl, rfl, by decide +kernel, rfl, by decide +kernel, by decide +kernel⟩
theorem f__law_lowest {K : PySem.W.Frag} {mg : Str → Option Value} (T : Txt K mg) : ∃ fd, FunD K d_s__law_lowest.name d_s__law_lowest.qual d_s__law_lowest.params d_s__law_lowest.body d_s__law_lowest.scope [] [] (He.fAd K d_s__law_lowest.at_) fd := T.d.def_ 22 (d := d_s__law_lowest) rfl
theorem b__law_lowest {K : PySem.W.Frag} {fd : FuncData} (F : FunD K d_s__law_lowest.name d_s__law_lowest.qual d_s__law_lowest.params d_s__law_lowest.body d_s__law_lowest.scope [] [] (He.fAd K d_s__law_lowest.at_) fd) : Binds K fd ["_law_value"] [] := F.bindsN fun _ _ _ _ _ _ us hl => match us, hl with | [_], _ => rfl
theorem sc__law_numbers : FnScope ["_law_value", "_law_x"] ["_law_value"] (defScope s__law_numbers) := ⟨rfl, rfl, rfl, by decide +kernel, rfl, by decide +kernel, by decide +kernel⟩
theorem f__law_numbers {K : PySem.W.Frag} {mg : Str → Option Value} (T : Txt K mg) : ∃ fd, FunD K d_s__law_numbers.name d_s__law_numbers.qual d_s__law_numbers.params d_s__law_numbers.body d_s__law_numbers.scope [] [] (He.fAd K d_s__law_numbers.at_) fd := T.d.def_ 23 (d := d_s__law_numbers) rfl
theorem b__law_numbers {K : PySem.W.Frag} {fd : FuncData} (F : FunD K d_s__law_numbers.name d_s__law_numbers.qual d_s__law_numbers.params d_s__law_numbers.body d_s__law_numbers.scope [] [] (He.fAd K d_s__law_numbers.at_) fd) : Binds K fd ["_law_value"] [] := F.bindsN fun _ _ _ _ _ _ us hl => match us, hl with | [_], _ => rfl
theorem sc__law_due : FnScope ["_law_value", "_law_n", "_law_net_here", "_law_whole", "_law_lot", "_law_purses", "_law_joins", "_law_halves", "_law_fits", "_law_number", "_law_k"] ["_law_value", "_law_n", "_law_net_here"] (defScope s__law_due) := ⟨rfl, rfl, rfl, by decide +kernel, rfl, by decide +kernel, by decide +kernel⟩
theorem f__law_due {K : PySem.W.Frag} {mg : Str → Option Value} (T : Txt K mg) : ∃ fd, FunD K d_s__law_due.name d_s__law_due.qual d_s__law_due.params d_s__law_due.body d_s__law_due.scope [] [] (He.fAd K d_s__law_due.at_) fd := T.d.def_ 24 (d := d_s__law_due) rfl
theorem b__law_due {K : PySem.W.Frag} {fd : FuncData} (F : FunD K d_s__law_due.name d_s__law_due.qual d_s__law_due.params d_s__law_due.body d_s__law_due.scope [] [] (He.fAd K d_s__law_due.at_) fd) : Binds K fd ["_law_value", "_law_n", "_law_net_here"] [] := F.bindsN fun _ _ _ _ _ _ us hl => match us, hl with | [_, _, _], _ => rfl
theorem sc__law_told : FnScope ["_law_value", "_law_n", "_law_net_here", "_law_named", "_law_first", "_law_more"] ["_law_value", "_law_n", "_law_net_here", "_law_named"] (defScope s__law_told) := ⟨rfl, rfl, rfl, by decide +kernel, rfl, by decide +kernel, by decide +kernel⟩
theorem f__law_told {K : PySem.W.Frag} {mg : Str → Option Value} (T : Txt K mg) : ∃ fd, FunD K d_s__law_told.name d_s__law_told.qual d_s__law_told.params d_s__law_told.body d_s__law_told.scope [] [] (He.fAd K d_s__law_told.at_) fd := T.d.def_ 25 (d := d_s__law_told) rfl
theorem b__law_told {K : PySem.W.Frag} {fd : FuncData} (F : FunD K d_s__law_told.name d_s__law_told.qual d_s__law_told.params d_s__law_told.body d_s__law_told.scope [] [] (He.fAd K d_s__law_told.at_) fd) : Binds K fd ["_law_value", "_law_n", "_law_net_here", "_law_named"] [] := F.bindsN fun _ _ _ _ _ _ us hl => match us, hl with | [_, _, _, _], _ => rfl
theorem sc__law_heard : FnScope ["_law_value", "_law_named", "e", "_law_kin"] ["_law_value", "_law_named"] (defScope s__law_heard) := ⟨rfl, rfl, rfl, by decide +kernel, rfl, by decide +kernel, by decide +kernel⟩
theorem f__law_heard {K : PySem.W.Frag} {mg : Str → Option Value} (T : Txt K mg) : ∃ fd, FunD K d_s__law_heard.name d_s__law_heard.qual d_s__law_heard.params d_s__law_heard.body d_s__law_heard.scope [] [] (He.fAd K d_s__law_heard.at_) fd := T.d.def_ 26 (d := d_s__law_heard) rfl
theorem b__law_heard {K : PySem.W.Frag} {fd : FuncData} (F : FunD K d_s__law_heard.name d_s__law_heard.qual d_s__law_heard.params d_s__law_heard.body d_s__law_heard.scope [] [] (He.fAd K d_s__law_heard.at_) fd) : Binds K fd ["_law_value", "_law_named"] [] := F.bindsN fun _ _ _ _ _ _ us hl => match us, hl with | [_, _], _ => rfl
theorem sc__law_checked : FnScope ["_law_value", "_law_named", "_law_due_here"] ["_law_value", "_law_named"] (defScope s__law_checked) := ⟨rfl, rfl, rfl, by decide +kernel, rfl, by decide +kernel, by decide +kernel⟩
theorem f__law_checked {K : PySem.W.Frag} {mg : Str → Option Value} (T : Txt K mg) : ∃ fd, FunD K d_s__law_checked.name d_s__law_checked.qual d_s__law_checked.params d_s__law_checked.body d_s__law_checked.scope [] [] (He.fAd K d_s__law_checked.at_) fd := T.d.def_ 27 (d := d_s__law_checked) rfl
theorem b__law_checked {K : PySem.W.Frag} {fd : FuncData} (F : FunD K d_s__law_checked.name d_s__law_checked.qual d_s__law_checked.params d_s__law_checked.body d_s__law_checked.scope [] [] (He.fAd K d_s__law_checked.at_) fd) : Binds K fd ["_law_value", "_law_named"] [] := F.bindsN fun _ _ _ _ _ _ us hl => match us, hl with | [_, _], _ => rfl
theorem sc__law_written : FnScope ["_law_menu", "_law_deep", "_law_k"] [] (defScope s__law_written) := ⟨rfl, rfl, rfl, by decide +kernel, rfl, by decide +kernel, by decide +kernel⟩
theorem f__law_written {K : PySem.W.Frag} {mg : Str → Option Value} (T : Txt K mg) : ∃ fd, FunD K d_s__law_written.name d_s__law_written.qual d_s__law_written.params d_s__law_written.body d_s__law_written.scope [] [] (He.fAd K d_s__law_written.at_) fd := T.d.def_ 28 (d := d_s__law_written) rfl
theorem b__law_written {K : PySem.W.Frag} {fd : FuncData} (F : FunD K d_s__law_written.name d_s__law_written.qual d_s__law_written.params d_s__law_written.body d_s__law_written.scope [] [] (He.fAd K d_s__law_written.at_) fd) : Binds K fd [] [] := F.bindsN fun _ _ _ _ _ _ us hl => match us, hl with | [], _ => rfl
theorem sc__law_wide : FnScope ["_law_pool_here", "_law_end", "_law_rows", "_law_place", "_law_spot", "_law_row", "_law_k"] ["_law_pool_here"] (defScope s__law_wide) := ⟨rfl, rfl, rfl, by decide +kernel, rfl, by decide +kernel, by decide +kernel⟩
theorem f__law_wide {K : PySem.W.Frag} {mg : Str → Option Value} (T : Txt K mg) : ∃ fd, FunD K d_s__law_wide.name d_s__law_wide.qual d_s__law_wide.params d_s__law_wide.body d_s__law_wide.scope [] [] (He.fAd K d_s__law_wide.at_) fd := T.d.def_ 29 (d := d_s__law_wide) rfl
theorem b__law_wide {K : PySem.W.Frag} {fd : FuncData} (F : FunD K d_s__law_wide.name d_s__law_wide.qual d_s__law_wide.params d_s__law_wide.body d_s__law_wide.scope [] [] (He.fAd K d_s__law_wide.at_) fd) : Binds K fd ["_law_pool_here"] [] := F.bindsN fun _ _ _ _ _ _ us hl => match us, hl with | [_], _ => rfl
theorem sc_law : FnScope ["_law_script", "_law_pool_here", "_law_net_here", "_law_n", "_law_named", "_law_k", "_law_lot", "_law_purses", "_law_joins", "_law_halves", "_law_times", "_law_share", "_law_near", "_law_values", "_law_once", "_law_scene", "_law_value", "_law_due_here", "_law_row"] ["_law_script"] (defScope s_law) := ⟨rfl, rfl, rfl, by decide +kernel, rfl, by decide +kernel, by decide +kernel⟩
theorem f_law {K : PySem.W.Frag} {mg : Str → Option Value} (T : Txt K mg) : ∃ fd, FunD K d_s_law.name d_s_law.qual d_s_law.params d_s_law.body d_s_law.scope [] [] (He.fAd K d_s_law.at_) fd := T.d.def_ 30 (d := d_s_law) rfl
theorem b_law {K : PySem.W.Frag} {fd : FuncData} (F : FunD K d_s_law.name d_s_law.qual d_s_law.params d_s_law.body d_s_law.scope [] [] (He.fAd K d_s_law.at_) fd) : Binds K fd ["_law_script"] [] := F.bindsN fun _ _ _ _ _ _ us hl => match us, hl with | [_], _ => rfl
end K00
end
section
set_option Elab.async false
set_option linter.all false
set_option maxRecDepth 100000
set_option maxHeartbeats 4000000
/-! ### f(k = v, ..); isinstance of a caught error that has a dict -/
namespace PySem.W
open PySem PySem.Spec PySem.Calls PyProof.Rows
section
variable {P0 : Program} {w0 : World} {Ar : Around} {Er : Value → Shared → Prop} {st : Shared} {Kf : Frag} {xa Dc : Addr} {xo : Obj} {dob : Option Obj}
/-- what the class of a caught error says -/
structure ErC (Kf : Frag) (Dc : Addr) : Prop where
  f1 : findIn Kf (.ref Dc) "__getattribute__" = some (some (.builtin "BaseException.__getattribute__"))
  f2 : findIn Kf (.ref Dc) "__getattr__" = some none
  f3 : subIn Kf (.ref Dc) (.type "BaseException") = some true
  f4 : hasDictIn Kf Dc = true
  f5 : findIn Kf (.ref Dc) "__class__" = some (some (.builtin "object.__class__"))
  f6 : specialIn Kf (.builtin "object.__class__") "__get__" = some (some (.builtin "getset_descriptor.__get__"))
  f7 : takesIn Kf (.builtin "object.__class__") = some true
  f8 : mroIn Kf Dc (.type "object") = some true
theorem er_cls (c : ErC Kf Dc) : (clsIn Kf Dc).isSome = true := by
  obtain ⟨z, hz, _⟩ := any_some c.f4
  rw [hz]
  rfl
theorem er_find (c : ErC Kf Dc) : findObj Kf Dc dob "__class__" = some (.bind (.builtin "getset_descriptor.__get__") (.builtin "object.__class__")) := by
  obtain ⟨z, hz⟩ := Option.isSome_iff_exists.mp (er_cls c)
  unfold findObj
  rw [hz, Option.bind_some, c.f5, Option.bind_some]
  simp [c.f6, c.f7]
theorem er_class {Q : Option Value → Shared → Prop} (c : ErC Kf Dc) (Kh : Kf.In st.heap) (J : InstAt st.heap xa xo Dc dob) (q : Q (some (.ref Dc)) { st with toks := st.toks + 1 }) :
    wpAny (model P0 w0) Ar (getAttr? (.ref xa) "__class__") Q Er st := by
  obtain ⟨hp, g, d, t, os⟩ := st
  have t0 := J.type (M := model P0 w0)
  have t1 := looks_findIn (M := model P0 w0) Kh c.f1
  have t2 := looks_findIn (M := model P0 w0) Kh c.f2
  have t3 := looks_find (M := model P0 w0) Kh J (er_find c)
  have ex : Looks (model P0 w0) hp (isInstance (.ref xa) (.type "BaseException")) true := t0.andThen (looks_subIn Kh c.f3)
  have n0 : (false && onTheHeap (Value.builtin "BaseException.__getattribute__")) = false := rfl
  have n2 : (Value.builtin "BaseException.__getattribute__" == Value.builtin "object.__getattribute__") = false := by decide +kernel
  have n1 : (onTheHeap (Value.ref Dc) && Value.builtin "BaseException.__getattribute__" == Value.builtin "object.__getattribute__") = false := by rw [n2]; rfl
  unfold getAttr? getAttrBy? getAttrBy
  refine wpAny_bind (wpAny_mkText (wpAny_bind (wpAny_attempt (wpAny_holding (wpAny_bind (t0.at (wpAny_bind (t1.at ?_))))))))
  show wpAny _ _ (if (onTheHeap (Value.ref Dc) && Value.builtin "BaseException.__getattribute__" == Value.builtin "object.__getattribute__") = true then _ else _) _ _ _
  rw [n1, if_neg Bool.false_ne_true]
  unfold getAttrByItsOwn hookBefore; refine wpAny_bind ?_
  rw [if_pos (show onTheHeap (Value.ref Dc) = true from rfl)]
  refine t2.at (wpAny_bind (wpAny_attempt (wpAny_holding ?_)))
  unfold callGetattribute; rw [n0, if_neg Bool.false_ne_true]
  unfold boundAndCalled; rw [PySem.F.excAttr_ValueError.ga.bind (.ref xa)]
  refine wpAny_bind (wpAny_pure ?_)
  show wpAny _ _ (call (.builtin "BaseException.__getattribute__") [.ref xa, .str "__class__" t]) _ _ _
  refine wpAny_call (codeAny_call_builtin PySem.F.excAttr_ValueError.ga.plain PySem.F.entry_bexc_ga ?_)
  refine @check_slot (model P0 w0) _ _ ⟨hp, g, d, t + 1, os⟩ "BaseException.__getattribute__" "BaseException" "__getattribute__" (.ref xa) [.str "__class__" t] [] _ (by decide +kernel) (by decide +kernel) ex (PySem.F.args_bexc_ga (.ref xa) (.str "__class__" t)) ?_
  unfold Builtin.«object.__getattribute__»
  refine wpAny_bind (wpAny_of_eq (a := ((Value.ref xa : Value), [Value.str "__class__" t])) (by first | rfl | (simp only [slotArgs]; rfl)) ?_)
  refine wpAny_bind (wpAny_pure (wpAny_bind (t0.at (wpAny_bind (t3.at ?_)))))
  show wpAny _ _ (holding [Value.builtin "object.__class__"] (call (.builtin "getset_descriptor.__get__") [.builtin "object.__class__", .ref xa, .ref Dc]) >>= ret) _ _ _
  refine wpAny_bind (wpAny_holding (wpAny_call (class_get (s := ⟨hp, g, d, t + 1, os⟩) (ox := xo) (od := dob) Kh J c.f8 (wpAny_pure ?_))))
  show wpAny _ _ (handedOut (.ref Dc)) _ _ _
  rw [handedOut_of (v := .ref Dc) rfl]
  first
    | exact wpAny_pure (wpAny_pure q)
    | exact wpAny_pure q
    | exact wpAny_pure (wpAny_bind (wpAny_pure (wpAny_pure q)))
theorem er_kit (c : ErC Kf Dc) : KitX Kf (.ref xa) (.ref Dc) (fun h => InstAt h xa xo Dc dob) where
  ty := fun _ _ _ J => J.type
  it := fun _ _ Kh _ => by
    obtain ⟨z, hz⟩ := Option.isSome_iff_exists.mp (er_cls c)
    unfold clsIn at hz
    split at hz
    · rename_i c1 d1 e1 s1 lk
      intro A' Q' E' s' k q
      unfold isType loadHead
      exact wpAny_bind (wpAny_loadPart (k _ _ (Kh _ _ lk)) (wpAny_pure q))
    · cases hz
  ne := fun h tp dd its n sl Kh htp => by
    obtain ⟨z, hz⟩ := Option.isSome_iff_exists.mp (er_cls c)
    refine Bool.eq_false_iff.mpr fun q => ?_
    obtain rfl : Dc = tp := Value.ref.inj (beq_iff_eq.mp q)
    unfold clsIn at hz
    split at hz
    · rename_i c1 d1 e1 s1 lk
      cases (Kh _ _ lk).symm.trans htp
    · cases hz
  ca := fun Kh J q => er_class c Kh J q
end
end PySem.W
namespace L2
open PySem PySem.Spec PyProof.Rows
/-- isinstance(e, c), e the exception that the suite holds, its own dict at d -/
def rIsED (K : PySem.W.Frag) (D a : Addr) (cls : Value) (d : Option Addr) : List V → Hp → VK → Prop := fun xs H Q => ∃ (c : V) (cv : Value) (b : Bool) (dd : Addr) (fs : List (Str × V)), xs = [.ref a, c] ∧ cls = .ref D ∧ d = some dd ∧ H dd = some (.xd fs) ∧ (∀ u, RelV c u → u = cv) ∧ PySem.W.kitOne K (.ref D) cv = some b ∧ Q (.bl b) H
theorem call_isED {X : Cx} {a D : Addr} {oe : Obj} {cls : Value} {d : Option Addr} {pn : List (Addr × Obj)} (C : PySem.W.ErC X.K D) (hz : Zc cls d oe) (hf : ∃ vs, oe.data = .fields vs) : CallR (X.suite a ((a, oe) :: pn)) (.builtin "isinstance") (rIsED X.K D a cls d) := by
  intro pins s σ H xs us Q I r h
  obtain ⟨c, cv, b, dd, fs, rfl, rfl, rfl, hdd, hcv, e, q⟩ := h
  cases r with
  | cons rx rr =>
    cases rr with
    | cons rt rn =>
      cases rn
      cases rx
      obtain rfl := hcv _ rt
      obtain ⟨ha, _⟩ := I.pin (a, oe) (List.mem_append_left _ List.mem_cons_self)
      obtain ⟨vs, hv⟩ := hf
      have ho : ObjOk X.prog X.w H s.heap dd (.xd fs) := I.hok dd _ hdd
      obtain ⟨mA, hns, _⟩ := ho
      obtain ⟨od, lk, _⟩ := lookIn_ns hns
      have J : PySem.W.InstAt s.heap a oe D (some od) := ⟨ha, hz.1, by unfold PySem.W.notCls; rw [hv] <;> rfl, by rw [hz.2]; exact lk⟩
      exact PySem.W.kia_one (PySem.W.er_kit C) I.kIn J e (fun z => nomatch z) fun tk => ⟨.bl b, H, I.kept (t' := tk) fun _ _ z => z, rfl, q⟩
section
variable {K : PySem.W.Frag} {nm qual : Str} {params : Arguments} {body : List Stmt} {scope : Scope} {kws : List (Str × V)} {f : Addr} {fd : FuncData} {ps ks : List Str}
/-- a call by names alone, the def without defaults -/
theorem kw_binds (F : FunD K nm qual params body scope [] kws f fd) {g : List Value → List Value → List Value} {gV : List V → List V → List V}
    (rel : ∀ {vs : List V} {us : List Value} {zs : List V} {ws : List Value}, Vals vs us → Vals zs ws → Vals (gV vs zs) (g us ws))
    (h : ∀ (kV doc pm : Value) (an : Option Addr) (cdv ct : Value) (us ws : List Value), (g us ws).length = ps.length → bindArgs (PySem.W.fnOf nm qual params body scope .none kV doc pm an cdv ct) ⟨us, ks.zip ws⟩ = pure (ps.zip (g us ws))) : KBinds K fd ps ks g gV := by
  obtain ⟨_, _, dV, kV, doc, pm, an, cdv, ct, _, rfl, _, _, hD, _⟩ := F.ex
  rcases hD with ⟨_, rfl⟩ | ⟨e, _⟩
  · exact ⟨fun s us ws _ hl => BindsTo.of_eq (h kV doc pm an cdv ct us ws hl), rel⟩
  · exact absurd rfl e
/-- of two names the second parameter's first -/
def swap2 {α : Type} : List α → List α → List α
  | [], [x, y] => [y, x]
  | _, _ => []
theorem swap2_rel {vs zs : List V} {us ws : List Value} (a : Vals vs us) (b : Vals zs ws) : Vals (swap2 vs zs) (swap2 us ws) := by
  cases a with
  | nil =>
    cases b with
    | nil => exact .nil
    | cons r1 b =>
      cases b with
      | nil => exact .nil
      | cons r2 b =>
        cases b with
        | nil => exact .cons r2 (.cons r1 .nil)
        | cons _ _ => exact .nil
  | cons _ _ => exact .nil
def one1 {α : Type} : List α → List α → List α
  | [], [x] => [x]
  | _, _ => []
theorem one1_rel {vs zs : List V} {us ws : List Value} (a : Vals vs us) (b : Vals zs ws) : Vals (one1 vs zs) (one1 us ws) := by
  cases a with
  | nil =>
    cases b with
    | nil => exact .nil
    | cons r1 b =>
      cases b with
      | nil => exact .cons r1 .nil
      | cons _ _ => exact .nil
  | cons _ _ => exact .nil
end
section
variable {X : Cx} {CX : CXT} {k : Nat} {f : Addr} {fd : FuncData} {ps ks : List Str} {sp : Sp} {E : XK} {E1 : L2.St → XK} {x : Str} {p pos : Pos} {kws : List Keyword} {tk : TA} {g : List Value → List Value → List Value} {gV : List V → List V → List V}
/-- f(k = v, ..) -/
theorem pe_callK0 (F : FnOk X.prog X.w X.K X.mg X.base CX k f fd ps sp) (hr : Room k X.A) (hg : Gl X x) (hm : X.mg x = some (.ref f)) (hk : PySem.W.keepIn X.K (.ref f) = true) (hb : KBinds X.K fd ps ks g gV) (hx : Passes CX X E) (hkw : PK X kws tk)
    (ha : (backToKw pos (keywordEach kws X.env)).all (·.1.isSome) = true := by rfl) (hs : (backToKw pos (keywordEach kws X.env)).filterMap (·.1) = ks := by rfl) (hd : (x == ("__debug__" : Str)) = false := by decide)
    (hp : ((backTo pos (starEach [] X.env)).any (·.1) || (backToKw pos (keywordEach kws X.env)).any (·.1.isNone)) = false := by rfl) : PE X (.Call (.Name x p) [] kws pos) (tCallK sp gV E tNil tk) := by
  constructor
  intro pins s σ H Q I h
  refine wpAny_Call_Name_kw (ld_glob I hg hm (PySem.W.callWith_KW0 (h₀ := X.base) I.ok.mod.kin hk ha (thn (hkw.run pos pins s σ H _ I h) fun ws s2 ⟨zs, H2, I2, rz, q⟩ => ⟨I2.kIn, ?_⟩) hp) hd)
  rw [hs]
  exact run_fnk (us := []) (vs := []) F hr hb hx I2 .nil rz q
/-- the same where the slots are asked at the raising -/
def tCallKS (sp : Sp) (gV : List V → List V → List V) (E : L2.St → XK) (tk : TA) : TE := fun σ H Q => tk σ H fun zs H2 => sp (gV [] zs) H2 Q (E σ)
theorem pe_callKS (F : FnOk X.prog X.w X.K X.mg X.base CX k f fd ps sp) (hr : Room k X.A) (hg : Gl X x) (hm : X.mg x = some (.ref f)) (hk : PySem.W.keepIn X.K (.ref f) = true) (hb : KBinds X.K fd ps ks g gV) (hx : ∀ σ, PassesAt CX X σ (E1 σ)) (hkw : PK X kws tk)
    (ha : (backToKw pos (keywordEach kws X.env)).all (·.1.isSome) = true := by rfl) (hs : (backToKw pos (keywordEach kws X.env)).filterMap (·.1) = ks := by rfl) (hd : (x == ("__debug__" : Str)) = false := by decide)
    (hp : ((backTo pos (starEach [] X.env)).any (·.1) || (backToKw pos (keywordEach kws X.env)).any (·.1.isNone)) = false := by rfl) : PE X (.Call (.Name x p) [] kws pos) (tCallKS sp gV E1 tk) := by
  constructor
  intro pins s σ H Q I h
  refine wpAny_Call_Name_kw (ld_glob I hg hm (PySem.W.callWith_KW0 (h₀ := X.base) I.ok.mod.kin hk ha (thn (hkw.run pos pins s σ H _ I h) fun ws s2 ⟨zs, H2, I2, rz, q⟩ => ⟨I2.kIn, ?_⟩) hp) hd)
  rw [hs]
  have r2 := hb.rel (us := []) (vs := []) .nil rz
  have hl : (g [] ws).length = ps.length := by
    rw [← r2.length]
    exact F.len _ _ _ _ q
  refine wpAny_call (codeAny_mono (F.run X.A X.stack s2 H2 ⟨[], ks.zip ws⟩ (g [] ws) (gV [] zs) Q (E1 σ) hr I2.env0 (hb.to s2 [] ws I2.kIn hl) r2 q) fun r s' hq => ?_)
  cases r with
  | error e => exact hx σ pins H2 s2 e s' I2 hq
  | ok fl =>
    cases fl with
    | ret u => exact I2.after hq
    | next => cases hq
    | brk => cases hq
    | cont => cases hq
end
end L2
end
section
set_option Elab.async false
set_option linter.all false
set_option maxRecDepth 100000
set_option maxHeartbeats 4000000
/-! ### enumerate of a tuple; t.index of ints; is True, is False of any plain thing -/
namespace PySem
open Sem (wp)
open AutoSeq1 (wpAny_loadPart')
theorem enumNewT (tp : Addr) (its : Array Value) (n : Nat) (dc : Option Addr) (slo : Array (Option Value)) :
    Meets (Builtin.«enumerate.__new__» ⟨[.type "enumerate", .ref tp], []⟩) (fun _ R s => s.heap.get? tp = some { cls := .type "tuple", dict := dc, data := .seq its n, slots := slo } ∧
      R (.ok (.ret (.ref (s.heap.push { cls := .type "tuple_iterator", data := .fields #[.ref tp, .int 0 0] }).objs.size)))
        { s with heap := (s.heap.push { cls := .type "tuple_iterator", data := .fields #[.ref tp, .int 0 0] }).push { cls := .type "enumerate", data := .fields #[.none, .bool false, .ref s.heap.objs.size, rawInt 0, .none, .none] } }) :=
  .of_wp fun prog w A R s hh => by
    obtain ⟨hp, g, d, tk, os⟩ := s
    obtain ⟨ht, hr⟩ := hh
    have sub := sub_enumerate
    have isT : Heap.IsTuple (Shared.heap ⟨hp, g, d, tk, os⟩) tp its := ⟨_, ht, rfl, n, rfl⟩
    wp_walk using wpAny_loadPart' ht
    refine wpAny_stack_any fun st => wpAny_pure ?_
    split
    · rename_i c _ _ _ _ _
      cases (c == Value.type "enumerate")
      all_goals
        wp_walk using wpAny_loadPart' ht, wpAny_pyIter_tuple isT
        exact ⟨_, rfl, hr⟩
    · wp_walk using wpAny_loadPart' ht, wpAny_pyIter_tuple isT
      exact ⟨_, rfl, hr⟩
section
variable {prog : Program} {w : World} {A : Around} {E : Value → Shared → Prop} {s : Shared}
theorem callEnumT {tp : Addr} {its : Array Value} {Q : Value → Shared → Prop} (isT : s.heap.IsTuple tp its)
    (q : ∀ h', IsEnum h' (s.heap.objs.size + 1) s.heap.objs.size 0 .none → h'.IsTupleIter s.heap.objs.size tp 0 → h'.objs.size = s.heap.objs.size + 2 →
      (∀ b o, s.heap.get? b = some o → h'.get? b = some o) → Q (.ref (s.heap.objs.size + 1)) { s with heap := h' }) : wpAny (model prog w) A (call (.type "enumerate") [.ref tp]) Q E s := by
  obtain ⟨⟨c, dc, dt, slo⟩, ht, hc, n, hd⟩ := isT
  obtain rfl : c = .type "tuple" := hc
  obtain rfl : dt = .seq its n := hd
  refine callType_new F.called_enumerate (by decide) (F.typeCall_enumerate_1 _) (F.newCall_enumerate_1 _) (fun obj => F.args_object_init_2 obj _) F.entry_enumerate_new (enumNewT tp its n dc slo) ⟨ht, ?_⟩
  have sz : (s.heap.push { cls := .type "tuple_iterator", data := .fields #[.ref tp, .int 0 0] }).objs.size = s.heap.objs.size + 1 := Heap.size_push ..
  show _ ∧ _
  rw [sz]
  have en : IsEnum ((s.heap.push { cls := .type "tuple_iterator", data := .fields #[.ref tp, .int 0 0] }).push { cls := .type "enumerate", data := .fields #[.none, .bool false, .ref s.heap.objs.size, rawInt 0, .none, .none] })
      (s.heap.objs.size + 1) s.heap.objs.size 0 .none := by
    have g := Heap.get?_push_size (s.heap.push { cls := .type "tuple_iterator", data := .fields #[.ref tp, .int 0 0] }) (o := { cls := .type "enumerate", data := .fields #[.none, .bool false, .ref s.heap.objs.size, rawInt 0, .none, .none] }) rfl
    rw [sz] at g
    exact g
  exact ⟨⟨_, en, rfl⟩, q _ en ⟨_, Heap.get?_push_of_some _ (Heap.get?_push_size _ rfl), rfl, rfl⟩ (by rw [Heap.size_push, sz]) fun b o y => Heap.get?_push_of_some _ (Heap.get?_push_of_some _ y)⟩
end
end PySem
namespace L2
open PySem PySem.Spec PyProof.Rows
/-- the tuple at a as it stands at each turn, each item in a new pair -/
def IteT (K : PySem.W.Frag) (a : Addr) : It :=
  ⟨fun i H => ∃ (xs : List V) (x : V), SqT K H a xs ∧ xs[i]? = some x, fun i H v H' => ∃ T x, v = .ref T ∧ H T = none ∧ H' = upd H T (.tup [.int (i : Nat), x]) ∧ ∀ xs, SqT K H a xs → xs[i]? = some x, fun i H => ∃ xs : List V, SqT K H a xs ∧ xs.length = i⟩
theorem turnEnumT {P : Program} {w : World} {K : PySem.W.Frag} {elts : List Expr} {kk : Nat} {tpos : Pos} (a e it : Addr) (hai : a ≠ it) (hea : e ≠ a) :
    Turn P w K (.Tuple elts kk tpos) (IteT K a) [e, it] e (fun i h => (∃ old, IsEnum h e it ((i : Nat) : Int) old) ∧ h.IsTupleIter it a i ∧ e ≠ it) where
  mem := by simp
  obj := fun i h st b hb => by
    obtain ⟨⟨old, he⟩, ⟨o, ho, hc, hd⟩, _⟩ := st
    obtain z | z : b = e ∨ b = it := by simpa using hb
    · exact z ▸ ⟨_, he, fun v q => nomatch q⟩
    · exact z ▸ ⟨o, ho, fun v q => by rw [hd] at q; cases q⟩
  keep := fun i h h' st k => let ⟨⟨old, he⟩, hi, ne⟩ := st; ⟨⟨old, k e (by simp) _ he⟩, hi.at fun o q => k it (by simp) o q, ne⟩
  item := by
    intro X hP hw hK hc i pins s σ H E I hf st hg
    subst hP hw hK
    obtain ⟨⟨old, he⟩, hit, ne⟩ := st
    obtain ⟨xs, x, hq, hx⟩ := hg
    obtain ⟨its, rv, p, hz⟩ := I.tuple hq
    obtain ⟨u, hu, ru⟩ := rv.get hx
    have isT : s.heap.IsTuple a its.toArray := p
    have el : e < s.heap.objs.size := Heap.lt_size he
    have il : it < s.heap.objs.size := by obtain ⟨_, q, _⟩ := hit; exact Heap.lt_size q
    have ilt : i < its.toArray.size := by
      have := (List.getElem?_eq_some_iff.mp hu).1
      simpa using this
    refine wpAny_pyNext_enum_itemC (Draws.tuple (A := X.A.in1) (I.ok.hd hc) it a hai its.toArray) he ⟨hit, isT⟩ ilt ne (by simp [ne, hea]) fun v h' tk hv ho hit' hT hsz hk => ?_
    have ev : v = u := by
      have e1 : its[i]? = some v := by simpa using hv
      rw [hu] at e1
      exact (Option.some.inj e1).symm
    subst ev
    refine ⟨_, rfl, wpAny_letOwnedTupleGo_enum (s := { s with heap := h', toks := tk + 1 }) ho fun h'' he' sb => ?_⟩
    have hT2 : h''.get? s.heap.objs.size = some { cls := .type "tuple", data := .seq #[.int i tk, v] } := (sb.2 _ (Nat.ne_of_gt el)).trans hT
    have nw : ObjOk X.prog X.w (upd H s.heap.objs.size (.tup [.int (i : Nat), x])) h'' s.heap.objs.size (.tup [.int (i : Nat), x]) :=
      ⟨by show 2 ≤ sizeLine; decide, [.int i tk, v], .cons ⟨_, rfl⟩ (.cons ru .nil), ⟨_, hT2, rfl, _, rfl⟩⟩
    have I1 : Inv X pins σ (upd H s.heap.objs.size (.tup [.int (i : Nat), x])) { s with heap := h'', toks := tk + 1 } :=
      I.turnedNew (ch := [e, it]) (fun b ob hb q => (sb.2 b (fun z => hb (by simp [z]))).trans (hk b ob (fun z => hb (by simp [z])) (fun z => hb (by simp [z])) q)) hf (Nat.le_refl _) nw
    refine ⟨.ref s.heap.objs.size, _, I1, rfl, ⟨_, x, rfl, I.hok.fresh (Nat.le_refl _), rfl, fun ys hy => by rw [I.tuple_inj hy hq]; exact hx⟩, ⟨⟨v, ?_⟩, hit'.1.at fun o q => (sb.2 it (Ne.symm ne)).trans q, ne⟩, fun b hb => ?_⟩
    · rw [show ((i + 1 : Nat) : Int) = (i : Int) + 1 by omega]
      exact he'
    · have hb' : b < s.heap.objs.size := by
        obtain z | z : b = e ∨ b = it := by simpa using hb
        · exact z ▸ el
        · exact z ▸ il
      rw [upd_ne (Nat.ne_of_lt hb')]
      exact (hf b hb).1
  done := by
    intro X hP hw hK hc i pins s σ H E I hf st hg
    subst hP hw hK
    obtain ⟨⟨old, he⟩, hit, ne⟩ := st
    obtain ⟨xs, hq, hx⟩ := hg
    obtain ⟨its, rv, p, hz⟩ := I.tuple hq
    have isT : s.heap.IsTuple a its.toArray := p
    have hl : i = its.toArray.size := by
      rw [← hx, rv.length]
      simp
    obtain ⟨f0, f1, f2, f3, f4, f5⟩ := hf it (by simp)
    subst hl
    exact wpAny_pyNext_enum_endD (Draws.tuple (A := X.A.in1) (I.ok.hd hc) it a hai its.toArray) he ⟨hit, isT⟩ fun h' eb => ⟨rfl, I.turned (t' := s.toks) (fun b o hb q => eb b o hb q) f0 f1 f3 f4 f5⟩
  self := fun A i s Q E st h => let ⟨⟨_, he⟩, _⟩ := st; wpAny_pyIter_enum he h
def iEnumT (K : PySem.W.Frag) (ta : TA) : TI := fun σ H R => ta σ H fun vs H1 => ∃ a xs, vs = [.ref a] ∧ SqT K H1 a xs ∧ R (IteT K a) H1
theorem pi_enumT {X : Cx} {e : Expr} {ta : TA} {p pos tpos : Pos} {elts : List Expr} {kk : Nat} (hg : Gl X "enumerate") (hm : X.mg "enumerate" = none) (ha : PA X [e] ta) (hs : starEach [e] X.env = [(false, eval e X.env)] := by rfl) :
    PI X (.Tuple elts kk tpos) (.Call (.Name "enumerate" p) [e] [] pos) (iEnumT X.K ta) := by
  constructor
  intro pins s σ H R I h
  refine Call_ (ld_blt I hg hm boot_enumerate (PyProof.Rows.callWith_type1 (thn (ha.run pos pins s σ H _ I h) fun us s1 ⟨vs, H1, I1, r1, q1⟩ => ?_) hs rfl))
  obtain ⟨a, xs, rfl, hq, q⟩ := q1
  cases r1 with
  | cons r rr =>
    cases rr
    cases r
    obtain ⟨its, rv, tp, hz⟩ := I1.tuple hq
    have isT : s1.heap.IsTuple a its.toArray := tp
    have al : a < s1.heap.objs.size := by obtain ⟨_, z, _⟩ := isT; exact Heap.lt_size z
    refine callEnumT isT fun h' he hit hsz hk => wpAny_pyIter_enum he ?_
    have I2 : Inv X pins σ H1 { s1 with heap := h' } := I1.kept (t' := s1.toks) hk
    refine ⟨s1.heap.objs.size + 1, [s1.heap.objs.size + 1, s1.heap.objs.size], _, _, H1, rfl, I2, turnEnumT a (s1.heap.objs.size + 1) s1.heap.objs.size (Nat.ne_of_lt al) (Nat.ne_of_gt (Nat.lt_succ_of_lt al)), ⟨⟨.none, he⟩, hit, Nat.succ_ne_self _⟩, fun b hb => ?_, q⟩
    have le : s1.heap.objs.size ≤ b := by
      obtain z | z : b = s1.heap.objs.size + 1 ∨ b = s1.heap.objs.size := by simpa using hb
      · exact z ▸ Nat.le_succ _
      · exact z ▸ Nat.le_refl _
    exact I1.fpOk le (I1.hok.fresh le)
/-- a loop over enumerate(t) -/
theorem for_enumT {K : PySem.W.Frag} {a : Addr} {xs : List V} {ta : TA} {g : TG} {tb : TS} {D : Ends} {σ : L2.St} {H : Hp} (hta : ∀ Q', Q' [.ref a] H → ta σ H Q') (Pv : Nat → L2.St → Hp → Prop) (h0 : Pv 0 σ H) (hq : ∀ i σ H, Pv i σ H → SqT K H a xs)
    (hs : ∀ (i : Nat) (x : V) (T : Addr) (σ : L2.St) (H : Hp), xs[i]? = some x → Pv i σ H → H T = none → g (.ref T) σ (upd H T (.tup [.int (i : Nat), x])) fun σ2 H2 => tb { D with nx := Pv (i + 1), ct := Pv (i + 1), bk := D.nx } σ2 H2) (hd : ∀ σ H, Pv xs.length σ H → D.nx σ H) :
    tFor (iEnumT K ta) g tb D σ H := by
  refine hta _ ⟨a, xs, rfl, hq 0 σ H h0, fun i m σ H => m = xs.length - i ∧ i ≤ xs.length ∧ Pv i σ H, ⟨xs.length, rfl, Nat.zero_le _, h0⟩, ?_⟩
  rintro i m σ H ⟨rfl, hi, p⟩
  have q := hq i σ H p
  by_cases lt : i < xs.length
  · refine .inr ⟨⟨xs, _, q, List.getElem?_eq_getElem lt⟩, Pv (i + 1), fun σ' H' p' => ⟨xs.length - (i + 1), by omega, rfl, lt, p'⟩, fun v H' y => ?_⟩
    obtain ⟨T, x, rfl, hT, rfl, f⟩ := y
    exact hs i x T σ H (f xs q) p hT
  · have e : i = xs.length := by omega
    subst e
    exact .inl ⟨⟨xs, q, rfl⟩, hd σ H p⟩
/-! ### tuples that are known to hold no dict -/
def TupN (H : Hp) (a : Addr) (xs : List V) : Prop := ∃ o : Obj, (o.cls = .type "tuple" ∧ o.dict = none) ∧ H a = some (.frz o (.tup xs))
theorem TupN.sq {K : PySem.W.Frag} {H : Hp} {a : Addr} {xs : List V} (h : TupN H a xs) : SqT K H a xs := by
  obtain ⟨o, _, e⟩ := h
  exact .inl (.inr ⟨o, e⟩)
theorem TupN.by {H H' : Hp} {a : Addr} {xs : List V} (h : TupN H a xs) (k : ∀ o, H a = some o → H' a = some o) : TupN H' a xs := by
  obtain ⟨o, c, e⟩ := h
  exact ⟨o, c, k _ e⟩
theorem TupN.ex {H H' : Hp} {a : Addr} {xs : List V} (h : TupN H a xs) (e : Evl.Ex H H') : TupN H' a xs := h.by fun o q => e a o q
/-- (e1, ..): a new tuple, its object told -/
def tTupF (ta : TA) : TE := fun σ H Q => ta σ H fun vs H1 => vs.length ≤ sizeLine ∧ ∀ p H', H1 p = none → Evl.Ex H1 H' → TupN H' p vs → Q (.ref p) H'
section
variable {X : Cx} {es : List Expr} {t : TA} {pos : Pos} {x1 : Nat}
theorem pe_tupF (h : PA X es t) : PE X (.Tuple es x1 pos) (tTupF t) := by
  constructor
  intro pins s σ H Q I hq
  refine wpAny_Tuple_spliced (thn (h.run pos pins s σ H _ I hq) fun us s1 ⟨xs, H1, I1, r, z, q⟩ => ⟨by rw [← r.length]; exact z, ?_⟩)
  have new : H1 s1.heap.objs.size = none := I1.hok.fresh (Nat.le_refl _)
  refine ⟨.ref s1.heap.objs.size, upd H1 s1.heap.objs.size (.frz { cls := .type "tuple", data := .seq us.toArray } (.tup xs)), I1.laid (t' := s1.toks) (fun b u e => Heap.get?_push_of_some _ e) (Nat.le_refl _) ?_, rfl, q _ _ new (Evl.Ex.new new) ⟨_, ⟨rfl, rfl⟩, upd_same⟩⟩
  exact ⟨Heap.get?_push_size _ rfl, z, us, r, ⟨_, Heap.get?_push_size _ rfl, rfl, _, rfl⟩⟩
def rTupOfF (K : PySem.W.Frag) : List V → Hp → VK → Prop := fun xs H Q => ∃ p ys, xs = [.ref p] ∧ SqL K H p ys ∧ ∀ l H', H l = none → Evl.Ex H H' → TupN H' l ys → Q (.ref l) H'
theorem call_tupF : CallR X (.type "tuple") (rTupOfF X.K) := by
  intro pins s σ H xs us Q I r h
  obtain ⟨p, ys, rfl, hq, q⟩ := h
  obtain ⟨u, rfl, rx⟩ := vals1 r
  cases rx
  obtain ⟨its, r', pl, hz⟩ := I.list hq
  have hl := r'.length
  refine call_tuple_list pl.isList (fun h' kp => ?_) (by simp only [List.size_toArray] <;> omega)
  have I1 : Inv X pins σ H { s with heap := h' } := I.kept (t' := s.toks) kp
  have new : H h'.objs.size = none := I1.hok.fresh (Nat.le_refl _)
  have I2 : Inv X pins σ (upd H h'.objs.size (.frz { cls := .type "tuple", data := .seq its.toArray } (.tup ys))) { s with heap := h'.push { cls := .type "tuple", data := .seq its.toArray } } :=
    I1.laid (t' := s.toks) (fun b o e => Heap.get?_push_of_some _ e) (Nat.le_refl _) ⟨Heap.get?_push_size _ rfl, hz, its, r', IsTup.new _ _⟩
  exact ⟨.ref h'.objs.size, _, I2, rfl, q _ _ new (Evl.Ex.new new) ⟨_, ⟨rfl, rfl⟩, upd_same⟩⟩
end
section
variable {X : Cx}
/-- x is True, x is False: x no object of the heap -/
def rIsT : R2 := fun x y H Q => ∃ b : Bool, y = .bl b ∧ ((∃ a : Bool, x = .bl a ∧ Q (.bl (decide (a = b))) H) ∨ (((∃ i, x = .int i) ∨ (∃ z, x = .str z) ∨ x = .non) ∧ Q (.bl false) H))
theorem op_isT : OpR X (compareOp .Is) rIsT := by
  intro pins s σ H x y v u Q I rx ry h
  obtain ⟨b, rfl, h⟩ := h
  cases (show u = Value.bool b from ry)
  rcases h with ⟨a, rfl, q⟩ | ⟨⟨i, rfl⟩ | ⟨z, rfl⟩ | rfl, q⟩
  · exact op_isBl pins s σ H (V.bl a) (V.bl b) v _ Q I rx ry ⟨a, b, rfl, rfl, q⟩
  · obtain ⟨t, rfl⟩ := rx
    exact wpAny_is_other rfl (fun z => by cases z) ⟨.bl false, H, I, rfl, q⟩
  · obtain ⟨t, rfl⟩ := rx
    exact wpAny_is_other rfl (fun z => by cases z) ⟨.bl false, H, I, rfl, q⟩
  · cases (show v = Value.none from rx)
    exact wpAny_is_other rfl (fun z => by cases z) ⟨.bl false, H, I, rfl, q⟩
/-- t.index(n), t of ints, n in it -/
def rIdxT (K : PySem.W.Frag) : V → List V → Hp → VK → Prop := fun x vs H Q => ∃ (a : Addr) (ns : List Int) (k : Int), x = .ref a ∧ vs = [.int k] ∧ SqT K H a (ns.map V.int) ∧ k ∈ ns ∧ Q (.int (ns.idxOf k : Nat)) H
theorem mt_idxT : MtR X "tuple.index" (rIdxT X.K) := by
  intro pins s σ H x vs v us Q I rx rv h
  obtain ⟨a, ns, k, rfl, rfl, hs, hk, q⟩ := h
  cases rx
  cases rv with
  | cons r rr =>
    cases rr
    obtain ⟨t, rfl⟩ := r
    obtain ⟨its, rw', hl, _⟩ := I.tuple hs
    have isT : s.heap.IsTuple a its.toArray := hl
    exact SeqAt.tuple_index_ints isT rw'.ints hk ⟨.int _, H, I.tok _, ⟨_, rfl⟩, q⟩
variable {o e : Expr} {es : List Expr} {to : TE} {t : TA} {name : Str} {apos cpos : Pos} {id : String} {r : V → List V → Hp → VK → Prop}
/-- t.m(e, ..), t such a tuple -/
def tBMT (r : V → List V → Hp → VK → Prop) (to : TE) (t : TA) : TE := fun σ H Q => to σ H fun x H1 => (∃ a xs, x = .ref a ∧ TupN H1 a xs) ∧ t σ H1 fun xs H2 => r x xs H2 Q
theorem pe_bmT {K : PySem.W.Frag} (hK : X.K = K) (slot : Slot "tuple" name id) (hty : typeOf (.builtin id) = pure (.type "method_descriptor")) (hm : MtR X id r) (ho : PE X o to) (ha : PA X (e :: es) t)
    (hb : attributeBase o name X.env (eval o X.env) = eval o X.env := by rfl)
    (hf : ((backTo cpos (starEach (e :: es) X.env)).all (fun x => !x.1) && (backToKw cpos (keywordEach [] X.env)).all (fun x => x.1.isSome) && decide ((e :: es).length + ([] : List Keyword).length + (if ([] : List Keyword).isEmpty then 0 else 1) < 30)) = true := by rfl)
    (hl : (apos.endLine == cpos.line) = true := by rfl) (hs : starEach (e :: es) X.env = (false, eval e X.env) :: starEach es X.env := by rfl) (hp : (backTo cpos (starEach es X.env)).any (·.1) = false := by rfl) :
    PE X (.Call (.Attribute o name apos) (e :: es) [] cpos) (tBMT r to t) := by
  constructor
  intro pins s σ H Q I h
  refine wpAny_Call_method_late hb hf hl rfl (thn (ho.run pins s σ H _ I h) fun v s1 ⟨x, H1, I1, r1, ⟨a, xs, ex, ob, ⟨oc, od⟩, hob⟩, q1⟩ => ?_)
  subst ex
  cases r1
  have at_ : s1.heap.get? a = some ob := (I1.hok a _ hob).1
  refine ⟨"tuple", id, PySem.F.plainAttrs_tuple, slot, hty, ⟨ob, at_, oc⟩, fun b eb => ?_, ?_⟩
  · cases eb
    exact ⟨ob, at_, od⟩
  have hA := ha.run cpos pins s1 σ H1 _ I1 q1
  rw [hs] at hA ⊢
  refine Calls.callWith_builtin (by show (false || (backTo cpos (starEach es X.env)).any (·.1)) = false; rw [hp] <;> rfl) (Calls.evalArgs_plain ?_)
  exact thn hA fun us s2 ⟨vs, H2, I2, r2, q2⟩ => hm pins s2 σ H2 (V.ref a) vs (Value.ref a) us Q I2 rfl r2 q2
end
end L2
end
section
set_option Elab.async false
set_option linter.all false
set_option maxRecDepth 100000
set_option maxHeartbeats 4000000
namespace L2
open PySem PySem.Spec PyProof.Rows
section
variable {X : Cx} {a b c d : Expr} {ta tb tc td : TE} {pos : Pos}
/-- a op1 b op2 c op3 d, as a test -/
def tChain3 (r r' r'' : R2) (ta tb tc td : TE) : TT := fun σ H Q => ta σ H fun x H1 => tb σ H1 fun y H2 => r x y H2 fun z H3 => ∃ k, z = .bl k ∧
  (if k = true then tc σ H3 fun u H4 => r' y u H4 fun z' H5 => ∃ k', z' = .bl k' ∧ (if k' = true then td σ H5 fun v H6 => r'' u v H6 fun z'' H7 => ∃ k'', z'' = .bl k'' ∧ Q k'' H7 else Q false H5) else Q false H3)
theorem pt_chain3 {op op' op'' : CmpOp} {r r' r'' : R2} (ho : OpR X (compareOp op) r) (ho' : OpR X (compareOp op') r') (ho'' : OpR X (compareOp op'') r'') (ha : PE X a ta) (hb : PE X b tb) (hc : PE X c tc) (hd : PE X d td)
    (hm : lastMarks [op, op', op''] [b, c, d] = false := by with_unfolding_all rfl) : PT X (.Compare a [op, op', op''] [b, c, d] pos) (tChain3 r r' r'' ta tb tc td) := by
  constructor
  intro pins s σ H Q I h
  refine isTrue_chain (thn (ha.run pins s σ H _ I h) fun v s1 ⟨x, H1, I1, r1, q1⟩ => test_link (thn (hb.run pins s1 σ H1 _ I1 q1) fun u s2 ⟨y, H2, I2, r2, q2⟩ =>
    thn (ho pins s2 σ H2 x y v u _ I2 r1 r2 q2) fun e s3 ⟨z, H3, I3, r3, k, ez, q3⟩ => ?_)) hm
  subst ez
  cases r3
  refine wpAny_truthy_bool ?_
  cases k with
  | false => exact ite_ff ⟨H3, I3, q3⟩
  | true =>
    refine ite_tt (test_link (thn (hc.run pins s3 σ H3 _ I3 q3) fun w' s4 ⟨z', H4, I4, r4, q4⟩ => thn (ho' pins s4 σ H4 y z' u w' _ I4 r2 r4 q4) fun e' s5 ⟨z2, H5, I5, r5, k2, e2, q5⟩ => ?_))
    subst e2
    cases r5
    refine wpAny_truthy_bool ?_
    cases k2 with
    | false => exact ite_ff ⟨H5, I5, q5⟩
    | true =>
      refine ite_tt (test_last (thn (hd.run pins s5 σ H5 _ I5 q5) fun w2 s6 ⟨z3, H6, I6, r6, q6⟩ => thn (ho'' pins s6 σ H6 z' z3 w' w2 _ I6 r4 r6 q6) fun e3 s7 ⟨z4, H7, I7, r7, k3, e4, q7⟩ => ?_))
      subst e4
      cases r7
      exact wpAny_truthy_bool ⟨H7, I7, q7⟩
end
end L2
end
section
set_option Elab.async false
set_option linter.all false
set_option maxRecDepth 100000
set_option maxHeartbeats 4000000
namespace Pour
theorem take_snoc {α : Type} {xs : List α} {i : Nat} {y : α} (h : xs[i]? = some y) : xs.take (i + 1) = xs.take i ++ [y] := by
  rw [List.take_add_one, h]
  rfl
end Pour
namespace K00
open PySem PySem.Spec PyProof.Rows L2 Pour
theorem scal_int {a b : Int} : (scal (.int a) (.int b) = true) = True := eq_self _
theorem scal_bl {a b : Bool} : (scal (.bl a) (.bl b) = true) = True := eq_self _
theorem scal_str {a b : Str} : (scal (.str a) (.str b) = true) = True := eq_self _
theorem absE {p : Int} : (if p < 0 then -p else p) = (p.natAbs : Int) := by split <;> omega
/-! ### the class NotUsable -/
theorem oexB_ok {K : PySem.W.Frag} {C : Addr} (h : oexB K C = true) : ∃ nm q N bs bm sn sub ab col dd k0 k1 k2 k3 k5, K.lookup C = some (excClassObj nm q C N bs bm true sn sub ab col dd k0 k1 k2 k3 k5 "ValueError.__new__") ∧ PySem.HandSPX.refsVE bm = true := by
  unfold oexB at h
  split at h
  · rename_i c dd cd sl hl
    split at h
    · rename_i C2 bm k0 k1 k2 k3 n k5 hm hs
      simp only [Bool.and_eq_true, decide_eq_true_eq, Bool.not_eq_true'] at h
      obtain ⟨rfl, rfl, rfl, h1, h2, h3⟩ := h
      obtain ⟨nm, bs, mro, N, q, hd, sn, sub, ab, col, hdel⟩ := cd
      dsimp only at hm h1 h2
      subst hm h1 h2
      have e : sl = #[k0, k1, k2, k3, some (.builtin "ValueError.__new__"), k5] := by rw [← hs]
      subst e
      exact ⟨nm, q, N, bs, bm, sn, sub, ab, col, dd, k0, k1, k2, k3, k5, hl, h3⟩
    · cases h
  · cases h
abbrev nu (K : PySem.W.Frag) : Addr := He.ga K "InvalidPaper"
abbrev nuI (K : PySem.W.Frag) : Addr := He.ma K (He.ga K "InvalidPaper") "__init__"
structure NU (K : PySem.W.Frag) : Prop where
  ox : OexC K (nu K)
  xf : XfC K (nu K)
  noW : PySem.W.findIn K (.ref (nu K)) "word" = some none
  noA : PySem.W.findIn K (.ref (nu K)) "at" = some none
  iC : PySem.W.findIn K (.ref (nu K)) "__init__" = some (some (.ref (nuI K)))
  tI : PySem.W.typeIn K (.ref (nuI K)) = some (.type "function")
  exm : PySem.W.exmOne K (.ref (nu K)) (.ref (nu K)) = some true
  kit1 : PySem.W.kitOne K (.ref (nu K)) (.ref (He.ga K "PaperError")) = some true
  kit2 : PySem.W.kitOne K (.ref (nu K)) (.ref (He.ga K "LedError")) = some true
  kit3 : PySem.W.kitOne K (.ref (nu K)) (.type "ValueError") = some true
  kit4 : PySem.W.kitOne K (.ref (nu K)) (.ref (He.ga K "WebError")) = some false
  ca : PySem.W.findIn K (.ref (nu K)) "__class__" = some (some (.builtin "object.__class__"))
  cg : PySem.W.specialIn K (.builtin "object.__class__") "__get__" = some (some (.builtin "getset_descriptor.__get__"))
  ct : PySem.W.takesIn K (.builtin "object.__class__") = some true
  cm : PySem.W.mroIn K (nu K) (.type "object") = some true
theorem Txt.nu {K : PySem.W.Frag} {mg : Str → Option Value} (T : Txt K mg) : NU K := by
  have h := T.ex
  unfold exF eqB at h
  simp only [Bool.and_eq_true, decide_eq_true_eq] at h
  obtain ⟨h1, h2, h3, h4, h5, h6, h7, h8, h9, h10, h11, h12, h13, h14, h15, h16, h17, h18, h19⟩ := h
  exact ⟨⟨oexB_ok h1, h2, h3, h4, h5⟩, xfB_ok h6, h7, h8, h9, h10, h11, h12, h13, h14, h15, h16, h17, h18, h19⟩
/-- an error InvalidPaper(word, -1) is on its way, its own dict at d -/
abbrev nuD (x y : V) : HO := .xd [(("at" : Str), y), ("word", x)]
section
variable {P : Program} {w : World} {K : PySem.W.Frag} {mg : Str → Option Value} {base : Heap}
def spInit (K : PySem.W.Frag) : Sp := fun vs H Q _ => ∃ a x y, vs = [.ref a, x, y] ∧ H a = some (exo a (nu K) none) ∧
  ∀ d, H d = none → d ≠ a → Q .non (upd (upd (upd H d (exd d [(("word" : Str), x)])) a (exo a (nu K) (some d))) d (exd d [(("at" : Str), y), ("word", x)]))
theorem ok_init (T : Txt K mg) : Keeps P w K mg base CX0 1 d_s_InvalidPaper__init__ ["self", "word", "at"] (spInit K) := by
  obtain ⟨fd, F⟩ := f_InvalidPaper__init__ T
  refine ⟨fd, F, F.ok sc_InvalidPaper__init__ (fun vs H Q E h => ?_) (fun cdv A outer s H vs Q E hr h => ⟨_, PSs.nox
    (pss_cons (ps_ost (pv 0) (pv 1)) (pss_one (ps_ost (pv 0) (pv 2)))), ?_⟩)⟩
  · obtain ⟨a, x, y, rfl, _⟩ := h
    rfl
  · obtain ⟨a, x, y, rfl, ha, q⟩ := h
    refine ⟨_, rfl, _, rfl, a, nu K, rfl, T.nu.ox, T.nu.noW, .inl ⟨ha, fun d hd hne => ?_⟩⟩
    refine ⟨_, rfl, _, rfl, a, nu K, rfl, T.nu.ox, T.nu.noA, .inr ⟨d, _, upd_same, ?_, (by show 1 ≤ 900; decide), q d hd hne⟩⟩
    rw [upd_ne hne]
    exact upd_same
theorem raise_heap {H : Hp} {a d : Addr} {C : Addr} {x y : V} (ha : H a = none) (hda : d ≠ a) :
    upd (del (upd (upd (upd (upd H a (exo a C none)) d (exd d [(("word" : Str), x)])) a (exo a C (some d))) d (exd d [(("at" : Str), y), ("word", x)])) a) d (nuD x y) = upd H d (nuD x y) := by
  funext b
  by_cases hb : b = d
  · subst hb
    rw [upd_same, upd_same]
  · rw [upd_ne hb, upd_ne hb]
    by_cases hba : b = a
    · subst hba
      rw [del_same, ha]
    · rw [del_ne hba, upd_ne hb, upd_ne hba, upd_ne hb, upd_ne hba]
/-- InvalidPaper(x, y), made -/
theorem mk_nu {H : Hp} {Q : XK} {x y : V} (q : ∀ d, H d = none → Q (.ref (nu K)) (some d) (upd H d (nuD x y))) : [x, y].length ≤ 1000 ∧ ∀ a, H a = none → spInit K (.ref a :: ([x, y] ++ [])) (upd H a (exo a (nu K) none))
    (fun v H2 => v = .non ∧ ∃ (d : Addr) (fs : List (Str × V)), H2 a = some (exo a (nu K) (some d)) ∧ H2 d = some (exd d fs) ∧ H d = none ∧ Q (.ref (nu K)) (some d) (upd (del H2 a) d (.xd fs))) (fun _ _ _ => False) := by
  refine ⟨(by show 2 ≤ 1000; decide), fun a ha => ⟨a, x, y, rfl, upd_same, fun d hd hda => ⟨rfl, d, [(("at" : Str), y), ("word", x)], ?_, upd_same, ?_, ?_⟩⟩⟩
  · rw [upd_ne (Ne.symm hda)]
    exact upd_same
  · rw [upd_ne hda] at hd
    exact hd
  · have hd1 : H d = none := by rw [upd_ne hda] at hd; exact hd
    have e := raise_heap (H := H) (a := a) (d := d) (C := nu K) (x := x) (y := y) ha hda
    rw [show (.xd [(("at" : Str), y), ("word", x)] : HO) = nuD x y from rfl, e]
    exact q d hd1
end
theorem int_at {ns : List Int} {i : Nat} {x : V} (h : (ns.map V.int)[i]? = some x) : ∃ z, ns[i]? = some z ∧ x = V.int z := by
  rw [List.getElem?_map] at h
  cases e : ns[i]? with
  | none =>
    rw [e] at h
    cases h
  | some z =>
    rw [e] at h
    exact ⟨z, rfl, (Option.some.inj h).symm⟩
theorem ixK_tup {X : Cx} {K : PySem.W.Frag} (h : X.K = K) : IxR X (rIxT K) := by
  subst h
  exact ix_tup
theorem ixK_list {X : Cx} {K : PySem.W.Frag} (h : X.K = K) : IxR X (rIxL K) := by
  subst h
  exact ix_list
theorem K_call_isi {X : Cx} {K : PySem.W.Frag} (h : X.K = K) : CallR X (.builtin "isinstance") (rIsi K) := by
  subst h
  exact call_isi
/-- a comprehension over what a turn leaves as it is: acc i is the list behind i turns -/
theorem lc_rngE {n : Nat} {ta : TA} {tt : TT} {te : TE} {j : Nat} {vs : List Nat} {σ : L2.St} {H : Hp} {Q : VK} (acc : Nat → List V) (h0 : acc 0 = []) (hl : ∀ i, (acc i).length ≤ i) (hn : n ≤ 40000) (hta : ∀ Q', Q' [V.int n] H → ta σ H Q')
    (hw : ∀ x, wipe ((wipe σ vs).set j (some x)) vs = wipe σ vs)
    (he : ∀ (i : Nat) (H1 : Hp) (Q1 : VK) (Q0 : Hp → Prop), i < n → Evl.Ex H H1 → (∀ y H2, Evl.Ex H1 H2 → acc (i + 1) = acc i ++ [y] → Q1 y H2) → (∀ H2, Evl.Ex H1 H2 → acc (i + 1) = acc i → Q0 H2) →
      tt ((wipe σ vs).set j (some (.int (0 + i)))) H1 fun b H3 => if b = true then te ((wipe σ vs).set j (some (.int (0 + i)))) H3 Q1 else Q0 H3)
    (hq : ∀ (p : Addr) (H' : Hp), Evl.Ex H H' → H p = none → H' p = some (.lst (acc n)) → Q (.ref p) H') :
    tLc (iRng1 ta) (gName j) tt te vs σ H Q := by
  refine hta _ ⟨n, rfl, by omega, by omega, fun D hD => ?_⟩
  rw [Int.toNat_natCast]
  refine lc_range (lo := 0) (n := n) (fun i H' => Evl.Ex H H' ∧ H' D = some (.lst (acc i))) ⟨Evl.Ex.new hD, by rw [h0]; exact upd_same⟩ ?_ ?_
  · rintro i H' hi ⟨c, e⟩
    refine ⟨hw _, he i H' _ _ hi c (fun y H2 e2 ey => ⟨_, e2 _ _ e, by rw [sizeLine_eq]; have := hl i; omega, Evl.Ex.mut (c.trans e2) hD, ?_⟩) (fun H2 e2 ey => ⟨c.trans e2, by rw [ey]; exact e2 _ _ e⟩)⟩
    rw [upd_same, ey]
  · rintro H' ⟨c, e⟩
    exact hq D H' c hD e
theorem lc_tupE {a : Addr} {xs : List V} {tl : TE} {tt : TT} {te : TE} {j : Nat} {vs : List Nat} {σ : L2.St} {H : Hp} {Q : VK} {K : PySem.W.Frag} (acc : Nat → List V) (h0 : acc 0 = []) (hl : ∀ i, (acc i).length ≤ i) (hn : xs.length ≤ 40000) (hta : ∀ Q', Q' (.ref a) H → tl σ H Q') (ha : SqT K H a xs)
    (hw : ∀ x, wipe ((wipe σ vs).set j (some x)) vs = wipe σ vs)
    (he : ∀ (i : Nat) (x : V) (H1 : Hp) (Q1 : VK) (Q0 : Hp → Prop), xs[i]? = some x → Evl.Ex H H1 → (∀ y H2, Evl.Ex H1 H2 → acc (i + 1) = acc i ++ [y] → Q1 y H2) → (∀ H2, Evl.Ex H1 H2 → acc (i + 1) = acc i → Q0 H2) →
      tt ((wipe σ vs).set j (some x)) H1 fun b H3 => if b = true then te ((wipe σ vs).set j (some x)) H3 Q1 else Q0 H3)
    (hq : ∀ (p : Addr) (H' : Hp), Evl.Ex H H' → H p = none → H' p = some (.lst (acc xs.length)) → Q (.ref p) H') :
    tLc (iTup K tl) (gName j) tt te vs σ H Q := by
  refine hta _ ⟨a, rfl, ⟨xs, ha⟩, fun D hD => ?_⟩
  refine lc_tup (xs := xs) (fun i H' => Evl.Ex H H' ∧ H' D = some (.lst (acc i))) ⟨Evl.Ex.new hD, by rw [h0]; exact upd_same⟩ (fun i H' _ h => Evl.ex_t h.1 ha) ?_ ?_
  · rintro i x H' hi ⟨c, e⟩
    have := (List.getElem?_eq_some_iff.mp hi).1
    refine ⟨hw _, he i x H' _ _ hi c (fun y H2 e2 ey => ⟨_, e2 _ _ e, by rw [sizeLine_eq]; have := hl i; omega, Evl.Ex.mut (c.trans e2) hD, ?_⟩) (fun H2 e2 ey => ⟨c.trans e2, by rw [ey]; exact e2 _ _ e⟩)⟩
    rw [upd_same, ey]
  · rintro H' ⟨c, e⟩
    exact hq D H' c hD e
theorem lc_lstE {a : Addr} {xs : List V} {tl : TE} {tt : TT} {te : TE} {j : Nat} {vs : List Nat} {σ : L2.St} {H : Hp} {Q : VK} {K : PySem.W.Frag} (acc : Nat → List V) (h0 : acc 0 = []) (hl : ∀ i, (acc i).length ≤ i) (hn : xs.length ≤ 40000) (hta : ∀ Q', Q' (.ref a) H → tl σ H Q') (ha : H a = some (.lst xs))
    (hw : ∀ x, wipe ((wipe σ vs).set j (some x)) vs = wipe σ vs)
    (he : ∀ (i : Nat) (x : V) (H1 : Hp) (Q1 : VK) (Q0 : Hp → Prop), xs[i]? = some x → Evl.Ex H H1 → (∀ y H2, Evl.Ex H1 H2 → acc (i + 1) = acc i ++ [y] → Q1 y H2) → (∀ H2, Evl.Ex H1 H2 → acc (i + 1) = acc i → Q0 H2) →
      tt ((wipe σ vs).set j (some x)) H1 fun b H3 => if b = true then te ((wipe σ vs).set j (some x)) H3 Q1 else Q0 H3)
    (hq : ∀ (p : Addr) (H' : Hp), Evl.Ex H H' → H p = none → H' p = some (.lst (acc xs.length)) → Q (.ref p) H') :
    tLc (iList K tl) (gName j) tt te vs σ H Q := by
  refine hta _ ⟨a, rfl, ⟨xs, SqL.of ha⟩, fun D hD => ?_⟩
  refine lc_list (xs := xs) (fun i H' => Evl.Ex H H' ∧ H' D = some (.lst (acc i))) ⟨Evl.Ex.new hD, by rw [h0]; exact upd_same⟩ (fun i H' _ h => SqL.of (h.1 _ _ ha)) ?_ ?_
  · rintro i x H' hi ⟨c, e⟩
    have := (List.getElem?_eq_some_iff.mp hi).1
    refine ⟨hw _, he i x H' _ _ hi c (fun y H2 e2 ey => ⟨_, e2 _ _ e, by rw [sizeLine_eq]; have := hl i; omega, Evl.Ex.mut (c.trans e2) hD, ?_⟩) (fun H2 e2 ey => ⟨c.trans e2, by rw [ey]; exact e2 _ _ e⟩)⟩
    rw [upd_same, ey]
  · rintro H' ⟨c, e⟩
    exact hq D H' c hD e
theorem for_rangeE {n : Nat} {ta : TA} {g : TG} {tb : TS} {D : Ends} {σ : L2.St} {H : Hp} (hn : n ≤ 100000) (hta : ∀ Q', Q' [V.int n] H → ta σ H Q') (Pv : Nat → L2.St → Hp → Prop) (h0 : Pv 0 σ H)
    (hs : ∀ i σ H, i < n → Pv i σ H → g (.int (0 + i)) σ H fun σ2 H2 => tb { D with nx := Pv (i + 1), ct := Pv (i + 1), bk := D.nx } σ2 H2) (hd : ∀ σ H, Pv n σ H → D.nx σ H) : tFor (iRng1 ta) g tb D σ H := by
  refine hta _ ⟨n, rfl, by omega, by omega, ?_⟩
  rw [Int.toNat_natCast]
  exact for_range Pv h0 hs hd
theorem for_tupE {K : PySem.W.Frag} {a : Addr} {xs : List V} {tl : TE} {g : TG} {tb : TS} {D : Ends} {σ : L2.St} {H : Hp} (hta : ∀ Q', Q' (.ref a) H → tl σ H Q') (Pv : Nat → L2.St → Hp → Prop) (h0 : Pv 0 σ H) (hl : ∀ i σ H, i ≤ xs.length → Pv i σ H → SqT K H a xs)
    (hs : ∀ i x σ H, xs[i]? = some x → Pv i σ H → g x σ H fun σ2 H2 => tb { D with nx := Pv (i + 1), ct := Pv (i + 1), bk := D.nx } σ2 H2) (hd : ∀ σ H, Pv xs.length σ H → D.nx σ H) : tFor (iTup K tl) g tb D σ H :=
  hta _ ⟨a, rfl, ⟨xs, hl 0 σ H (Nat.zero_le _) h0⟩, for_tup Pv h0 hl hs hd⟩
theorem for_lstE {K : PySem.W.Frag} {a : Addr} {xs : List V} {tl : TE} {g : TG} {tb : TS} {D : Ends} {σ : L2.St} {H : Hp} (hta : ∀ Q', Q' (.ref a) H → tl σ H Q') (Pv : Nat → L2.St → Hp → Prop) (h0 : Pv 0 σ H) (hl : ∀ i σ H, i ≤ xs.length → Pv i σ H → H a = some (.lst xs))
    (hs : ∀ i x σ H, xs[i]? = some x → Pv i σ H → g x σ H fun σ2 H2 => tb { D with nx := Pv (i + 1), ct := Pv (i + 1), bk := D.nx } σ2 H2) (hd : ∀ σ H, Pv xs.length σ H → D.nx σ H) : tFor (iList K tl) g tb D σ H :=
  hta _ ⟨a, rfl, ⟨xs, SqL.of (hl 0 σ H (Nat.zero_le _) h0)⟩, for_list Pv h0 (fun i σ H h p => SqL.of (hl i σ H h p)) hs hd⟩
theorem for_lstG {K : PySem.W.Frag} {tl : TE} {g : TG} {tb : TS} {D : Ends} {σ : L2.St} {H : Hp}
    (h : ∀ R : VK, (∀ (a : Addr) (xs : List V) (H1 : Hp) (Pv : Nat → L2.St → Hp → Prop), Pv 0 σ H1 → (∀ i σ H, i ≤ xs.length → Pv i σ H → H a = some (.lst xs)) →
      (∀ i x σ H, xs[i]? = some x → Pv i σ H → g x σ H fun σ2 H2 => tb { D with nx := Pv (i + 1), ct := Pv (i + 1), bk := D.nx } σ2 H2) → (∀ σ H, Pv xs.length σ H → D.nx σ H) → R (.ref a) H1) → tl σ H R) : tFor (iList K tl) g tb D σ H :=
  h _ fun a xs H1 Pv h0 hl hs hd => ⟨a, rfl, ⟨xs, SqL.of (hl 0 σ H1 (Nat.zero_le _) h0)⟩, for_list Pv h0 (fun i σ H h p => SqL.of (hl i σ H h p)) hs hd⟩
theorem dp_ints {K : PySem.W.Frag} {H : Hp} : ∀ ns : List Int, DpAll K H (ns.map V.int) (ns.map PyData.int)
  | [] => .nil
  | _ :: ns => .cons (.int _) (dp_ints ns)
theorem dp_tup {K : PySem.W.Frag} {H : Hp} {a : Addr} {ns : List Int} (h : SqT K H a (ns.map V.int)) : Dp K H (.ref a) (.tuple (ns.map PyData.int)) := .tup h (dp_ints ns)
theorem canT (ns : List Int) : (PyData.tuple (ns.map PyData.int)).canLay0 = true := by
  simp [PyData.canLay0, PySem.W.ke_canLayAll0]
theorem shT (ns : List Int) : SeqAt.shaped (.tuple (ns.map PyData.int)) = true := by
  simp [SeqAt.shaped, PyData.canLay0, PyData.depth, PySem.W.ke_canLayAll0, PySem.W.ke_depthAll]
theorem eqT (ns : List Int) : PyData.eqv (.tuple (ns.map PyData.int)) (.tuple (ns.map PyData.int)) = true := SeqAt.eqv_refl _ (canT ns)
end K00
end
section
set_option Elab.async false
set_option linter.all false
set_option maxRecDepth 100000
set_option maxHeartbeats 4000000
namespace K00
open PySem PySem.Spec PyProof.Rows L2
section
variable {P : Program} {w : World} {K : PySem.W.Frag} {mg : Str → Option Value} {base : Heap}
def isIntV : V → Bool
  | .int _ => true
  | _ => false
def isNumV : V → Bool
  | .int i => decide (0 ≤ i)
  | _ => false
def spIsInt : Sp := fun vs H Q _ => ∃ v n, vs = [v] ∧ Kn H v n ∧ Q (.bl (isIntV v)) H
theorem ok_is_integer (T : Txt K mg) : Keeps P w K mg base CX0 1 d_s_is_integer ["thing"] spIsInt := by
  obtain ⟨fd, F⟩ := f_is_integer T
  refine ⟨fd, F, F.ok sc_is_integer (fun vs H Q E h => ?_) (fun cdv A outer s H vs Q E hr h => ⟨_, PSs.nox
    (pss_one (ps_ret (pe_and (pe_callB call_isi rfl (n_isinstance T) (by decide +kernel) (pa_cons (pv 0) (pa_cons (pe_bltn (v := .ty "int") rfl (n_int T) (by decide +kernel) rfl) pa_nil))) (pe_one (pe_not (pe_callB call_isi rfl (n_isinstance T) (by decide +kernel) (pa_cons (pv 0) (pa_cons (pe_bltn (v := .ty "bool") rfl (n_bool T) (by decide +kernel) rfl) pa_nil)))))))), ?_⟩)⟩
  · obtain ⟨v, n, rfl, _⟩ := h
    rfl
  · obtain ⟨v, n, rfl, kn, q⟩ := h
    simp only [tSeq, tAsg, gName, tRet, tRetN, tDrop, tIfS, tNext, tBreak, tCont, tTest, tB, tVar, tC, tCons, tNil, tCB, tCall, tCallK, tOp, tUn, rI0, rI, rU, rEq, rNe, tAnd, tOr, tNot, tAndV, tOrV, tNotV, tTup, tLst, tIf, gTup, gCons, gNil, tPar, tAug, ipI, gSub, L2.start, cxOf, Cx.nox, List.map_cons, List.map_nil, List.length_cons, List.length_nil, List.replicate, Nat.reduceAdd, Nat.reduceSub, List.cons_append, List.nil_append, List.append_nil, List.getElem?_cons_zero, List.getElem?_cons_succ, Option.some.injEq, V.int.injEq, V.bl.injEq, V.str.injEq, V.ref.injEq, V.ty.injEq, List.cons.injEq, and_true, true_and, exists_eq_left, exists_eq_left', exists_and_left, exists_and_right, decide_eq_true_eq, List.set_cons_zero, List.set_cons_succ, Bool.not_eq_true', decide_eq_false_iff_not, isi_NoneType_int, isi_NoneType_bool, isi_NoneType_tuple, isi_NoneType_str, isi_NoneType_list, isi_bool_int, isi_bool_bool, isi_bool_tuple, isi_bool_str, isi_bool_list, isi_int_int, isi_int_bool, isi_int_tuple, isi_int_str, isi_int_list, isi_str_int, isi_str_bool, isi_str_tuple, isi_str_str, isi_str_list, isi_list_int, isi_list_bool, isi_list_tuple, isi_list_str, isi_list_list, isi_tuple_int, isi_tuple_bool, isi_tuple_tuple, isi_tuple_str, isi_tuple_list, Bool.false_eq_true, if_true, if_false, reduceIte, Bool.not_true, Bool.not_false, reduceCtorEq, false_and, and_false, exists_false, exists_const, scal_int, scal_bl, scal_str, absE, ne_eq, not_true_eq_false, not_false_eq_true, Int.natCast_add, Int.cast_ofNat_Int, and_assoc, tChain3, tTupF, rTupOfF]
    refine kn.isi (.inl rfl) ?_
    simp only [tSeq, tAsg, gName, tRet, tRetN, tDrop, tIfS, tNext, tBreak, tCont, tTest, tB, tVar, tC, tCons, tNil, tCB, tCall, tCallK, tOp, tUn, rI0, rI, rU, rEq, rNe, tAnd, tOr, tNot, tAndV, tOrV, tNotV, tTup, tLst, tIf, gTup, gCons, gNil, tPar, tAug, ipI, gSub, L2.start, cxOf, Cx.nox, List.map_cons, List.map_nil, List.length_cons, List.length_nil, List.replicate, Nat.reduceAdd, Nat.reduceSub, List.cons_append, List.nil_append, List.append_nil, List.getElem?_cons_zero, List.getElem?_cons_succ, Option.some.injEq, V.int.injEq, V.bl.injEq, V.str.injEq, V.ref.injEq, V.ty.injEq, List.cons.injEq, and_true, true_and, exists_eq_left, exists_eq_left', exists_and_left, exists_and_right, decide_eq_true_eq, List.set_cons_zero, List.set_cons_succ, Bool.not_eq_true', decide_eq_false_iff_not, isi_NoneType_int, isi_NoneType_bool, isi_NoneType_tuple, isi_NoneType_str, isi_NoneType_list, isi_bool_int, isi_bool_bool, isi_bool_tuple, isi_bool_str, isi_bool_list, isi_int_int, isi_int_bool, isi_int_tuple, isi_int_str, isi_int_list, isi_str_int, isi_str_bool, isi_str_tuple, isi_str_str, isi_str_list, isi_list_int, isi_list_bool, isi_list_tuple, isi_list_str, isi_list_list, isi_tuple_int, isi_tuple_bool, isi_tuple_tuple, isi_tuple_str, isi_tuple_list, Bool.false_eq_true, if_true, if_false, reduceIte, Bool.not_true, Bool.not_false, reduceCtorEq, false_and, and_false, exists_false, exists_const, scal_int, scal_bl, scal_str, absE, ne_eq, not_true_eq_false, not_false_eq_true, Int.natCast_add, Int.cast_ofNat_Int, and_assoc, tChain3, tTupF, rTupOfF]
    cases kn <;> simp only [tSeq, tAsg, gName, tRet, tRetN, tDrop, tIfS, tNext, tBreak, tCont, tTest, tB, tVar, tC, tCons, tNil, tCB, tCall, tCallK, tOp, tUn, rI0, rI, rU, rEq, rNe, tAnd, tOr, tNot, tAndV, tOrV, tNotV, tTup, tLst, tIf, gTup, gCons, gNil, tPar, tAug, ipI, gSub, L2.start, cxOf, Cx.nox, List.map_cons, List.map_nil, List.length_cons, List.length_nil, List.replicate, Nat.reduceAdd, Nat.reduceSub, List.cons_append, List.nil_append, List.append_nil, List.getElem?_cons_zero, List.getElem?_cons_succ, Option.some.injEq, V.int.injEq, V.bl.injEq, V.str.injEq, V.ref.injEq, V.ty.injEq, List.cons.injEq, and_true, true_and, exists_eq_left, exists_eq_left', exists_and_left, exists_and_right, decide_eq_true_eq, List.set_cons_zero, List.set_cons_succ, Bool.not_eq_true', decide_eq_false_iff_not, isi_NoneType_int, isi_NoneType_bool, isi_NoneType_tuple, isi_NoneType_str, isi_NoneType_list, isi_bool_int, isi_bool_bool, isi_bool_tuple, isi_bool_str, isi_bool_list, isi_int_int, isi_int_bool, isi_int_tuple, isi_int_str, isi_int_list, isi_str_int, isi_str_bool, isi_str_tuple, isi_str_str, isi_str_list, isi_list_int, isi_list_bool, isi_list_tuple, isi_list_str, isi_list_list, isi_tuple_int, isi_tuple_bool, isi_tuple_tuple, isi_tuple_str, isi_tuple_list, Bool.false_eq_true, if_true, if_false, reduceIte, Bool.not_true, Bool.not_false, reduceCtorEq, false_and, and_false, exists_false, exists_const, scal_int, scal_bl, scal_str, absE, ne_eq, not_true_eq_false, not_false_eq_true, Int.natCast_add, Int.cast_ofNat_Int, and_assoc, tChain3, tTupF, rTupOfF] <;> first | exact q | exact Kn.isi (by first | exact .int _ | exact .bl _) (.inr (.inl rfl)) (by simp only [tSeq, tAsg, gName, tRet, tRetN, tDrop, tIfS, tNext, tBreak, tCont, tTest, tB, tVar, tC, tCons, tNil, tCB, tCall, tCallK, tOp, tUn, rI0, rI, rU, rEq, rNe, tAnd, tOr, tNot, tAndV, tOrV, tNotV, tTup, tLst, tIf, gTup, gCons, gNil, tPar, tAug, ipI, gSub, L2.start, cxOf, Cx.nox, List.map_cons, List.map_nil, List.length_cons, List.length_nil, List.replicate, Nat.reduceAdd, Nat.reduceSub, List.cons_append, List.nil_append, List.append_nil, List.getElem?_cons_zero, List.getElem?_cons_succ, Option.some.injEq, V.int.injEq, V.bl.injEq, V.str.injEq, V.ref.injEq, V.ty.injEq, List.cons.injEq, and_true, true_and, exists_eq_left, exists_eq_left', exists_and_left, exists_and_right, decide_eq_true_eq, List.set_cons_zero, List.set_cons_succ, Bool.not_eq_true', decide_eq_false_iff_not, isi_NoneType_int, isi_NoneType_bool, isi_NoneType_tuple, isi_NoneType_str, isi_NoneType_list, isi_bool_int, isi_bool_bool, isi_bool_tuple, isi_bool_str, isi_bool_list, isi_int_int, isi_int_bool, isi_int_tuple, isi_int_str, isi_int_list, isi_str_int, isi_str_bool, isi_str_tuple, isi_str_str, isi_str_list, isi_list_int, isi_list_bool, isi_list_tuple, isi_list_str, isi_list_list, isi_tuple_int, isi_tuple_bool, isi_tuple_tuple, isi_tuple_str, isi_tuple_list, Bool.false_eq_true, if_true, if_false, reduceIte, Bool.not_true, Bool.not_false, reduceCtorEq, false_and, and_false, exists_false, exists_const, scal_int, scal_bl, scal_str, absE, ne_eq, not_true_eq_false, not_false_eq_true, Int.natCast_add, Int.cast_ofNat_Int, and_assoc, tChain3, tTupF, rTupOfF]; exact q)
def spIsNum : Sp := fun vs H Q _ => ∃ v n, vs = [v] ∧ Kn H v n ∧ Q (.bl (isNumV v)) H
theorem ok_is_number (T : Txt K mg) : Keeps P w K mg base CX0 2 d_s_is_number ["thing"] spIsNum := by
  obtain ⟨fd, F⟩ := f_is_number T
  obtain ⟨fd_is_integer, D_is_integer⟩ := ok_is_integer (P := P) (w := w) (base := base) T
  refine ⟨fd, F, F.ok sc_is_number (fun vs H Q E h => ?_) (fun cdv A outer s H vs Q E hr h => ⟨_, PSs.nox
    (pss_one (ps_ret (pe_and (pe_call D_is_integer.2 (hr.mono (by decide)) rfl (g_is_integer T) D_is_integer.1.kp (b_is_integer D_is_integer.1) .nil pass0 (pa_cons (pv 0) pa_nil)) (pe_one (pe_cmpR op_ge (pv 0) pe_int (nomark _)))))), ?_⟩)⟩
  · obtain ⟨v, n, rfl, _⟩ := h
    rfl
  · obtain ⟨v, n, rfl, kn, q⟩ := h
    simp only [tSeq, tAsg, gName, tRet, tRetN, tDrop, tIfS, tNext, tBreak, tCont, tTest, tB, tVar, tC, tCons, tNil, tCB, tCall, tCallK, tOp, tUn, rI0, rI, rU, rEq, rNe, tAnd, tOr, tNot, tAndV, tOrV, tNotV, tTup, tLst, tIf, gTup, gCons, gNil, tPar, tAug, ipI, gSub, L2.start, cxOf, Cx.nox, List.map_cons, List.map_nil, List.length_cons, List.length_nil, List.replicate, Nat.reduceAdd, Nat.reduceSub, List.cons_append, List.nil_append, List.append_nil, List.getElem?_cons_zero, List.getElem?_cons_succ, Option.some.injEq, V.int.injEq, V.bl.injEq, V.str.injEq, V.ref.injEq, V.ty.injEq, List.cons.injEq, and_true, true_and, exists_eq_left, exists_eq_left', exists_and_left, exists_and_right, decide_eq_true_eq, List.set_cons_zero, List.set_cons_succ, Bool.not_eq_true', decide_eq_false_iff_not, isi_NoneType_int, isi_NoneType_bool, isi_NoneType_tuple, isi_NoneType_str, isi_NoneType_list, isi_bool_int, isi_bool_bool, isi_bool_tuple, isi_bool_str, isi_bool_list, isi_int_int, isi_int_bool, isi_int_tuple, isi_int_str, isi_int_list, isi_str_int, isi_str_bool, isi_str_tuple, isi_str_str, isi_str_list, isi_list_int, isi_list_bool, isi_list_tuple, isi_list_str, isi_list_list, isi_tuple_int, isi_tuple_bool, isi_tuple_tuple, isi_tuple_str, isi_tuple_list, Bool.false_eq_true, if_true, if_false, reduceIte, Bool.not_true, Bool.not_false, reduceCtorEq, false_and, and_false, exists_false, exists_const, scal_int, scal_bl, scal_str, absE, ne_eq, not_true_eq_false, not_false_eq_true, Int.natCast_add, Int.cast_ofNat_Int, and_assoc, tChain3, tTupF, rTupOfF]
    refine ⟨_, _, rfl, kn, ?_⟩
    cases kn <;> simp only [tSeq, tAsg, gName, tRet, tRetN, tDrop, tIfS, tNext, tBreak, tCont, tTest, tB, tVar, tC, tCons, tNil, tCB, tCall, tCallK, tOp, tUn, rI0, rI, rU, rEq, rNe, tAnd, tOr, tNot, tAndV, tOrV, tNotV, tTup, tLst, tIf, gTup, gCons, gNil, tPar, tAug, ipI, gSub, L2.start, cxOf, Cx.nox, List.map_cons, List.map_nil, List.length_cons, List.length_nil, List.replicate, Nat.reduceAdd, Nat.reduceSub, List.cons_append, List.nil_append, List.append_nil, List.getElem?_cons_zero, List.getElem?_cons_succ, Option.some.injEq, V.int.injEq, V.bl.injEq, V.str.injEq, V.ref.injEq, V.ty.injEq, List.cons.injEq, and_true, true_and, exists_eq_left, exists_eq_left', exists_and_left, exists_and_right, decide_eq_true_eq, List.set_cons_zero, List.set_cons_succ, Bool.not_eq_true', decide_eq_false_iff_not, isi_NoneType_int, isi_NoneType_bool, isi_NoneType_tuple, isi_NoneType_str, isi_NoneType_list, isi_bool_int, isi_bool_bool, isi_bool_tuple, isi_bool_str, isi_bool_list, isi_int_int, isi_int_bool, isi_int_tuple, isi_int_str, isi_int_list, isi_str_int, isi_str_bool, isi_str_tuple, isi_str_str, isi_str_list, isi_list_int, isi_list_bool, isi_list_tuple, isi_list_str, isi_list_list, isi_tuple_int, isi_tuple_bool, isi_tuple_tuple, isi_tuple_str, isi_tuple_list, Bool.false_eq_true, if_true, if_false, reduceIte, Bool.not_true, Bool.not_false, reduceCtorEq, false_and, and_false, exists_false, exists_const, scal_int, scal_bl, scal_str, absE, ne_eq, not_true_eq_false, not_false_eq_true, Int.natCast_add, Int.cast_ofNat_Int, and_assoc, tChain3, tTupF, rTupOfF, isIntV] <;> exact q
/-- the greatest common divisor of two numbers -/
def spCd : Sp := fun vs H Q _ => ∃ a b : Nat, vs = [.int a, .int b] ∧ Q (.int (Nat.gcd a b : Nat)) H
theorem ok_common_divisor (T : Txt K mg) : Keeps P w K mg base CX0 1 d_s_common_divisor ["one", "other"] spCd := by
  obtain ⟨fd, F⟩ := f_common_divisor T
  refine ⟨fd, F, F.ok sc_common_divisor (fun vs H Q E h => ?_) (fun cdv A outer s H vs Q E hr h => ⟨_, PSs.nox
    (pss_cons (ps_while PassesOwn.never (pt_cmpR op_gt (pv 1) pe_int (nomark _)) (pss_one (ps_par (i := 0) (j := 1) rfl sc_common_divisor.nd rfl rfl (by decide) rfl rfl (pa_cons (pv 1) (pa_cons (pe_op op_mod (pv 0) (pv 1)) pa_nil)) rfl)))
      (pss_one (ps_ret (pv 0)))), ?_⟩)⟩
  · obtain ⟨a, b, rfl, _⟩ := h
    rfl
  · obtain ⟨a, b, rfl, q⟩ := h
    simp only [tSeq, tAsg, gName, tRet, tRetN, tDrop, tIfS, tNext, tBreak, tCont, tTest, tB, tVar, tC, tCons, tNil, tCB, tCall, tCallK, tOp, tUn, rI0, rI, rU, rEq, rNe, tAnd, tOr, tNot, tAndV, tOrV, tNotV, tTup, tLst, tIf, gTup, gCons, gNil, tPar, tAug, ipI, gSub, L2.start, cxOf, Cx.nox, List.map_cons, List.map_nil, List.length_cons, List.length_nil, List.replicate, Nat.reduceAdd, Nat.reduceSub, List.cons_append, List.nil_append, List.append_nil, List.getElem?_cons_zero, List.getElem?_cons_succ, Option.some.injEq, V.int.injEq, V.bl.injEq, V.str.injEq, V.ref.injEq, V.ty.injEq, List.cons.injEq, and_true, true_and, exists_eq_left, exists_eq_left', exists_and_left, exists_and_right, decide_eq_true_eq, List.set_cons_zero, List.set_cons_succ, Bool.not_eq_true', decide_eq_false_iff_not, isi_NoneType_int, isi_NoneType_bool, isi_NoneType_tuple, isi_NoneType_str, isi_NoneType_list, isi_bool_int, isi_bool_bool, isi_bool_tuple, isi_bool_str, isi_bool_list, isi_int_int, isi_int_bool, isi_int_tuple, isi_int_str, isi_int_list, isi_str_int, isi_str_bool, isi_str_tuple, isi_str_str, isi_str_list, isi_list_int, isi_list_bool, isi_list_tuple, isi_list_str, isi_list_list, isi_tuple_int, isi_tuple_bool, isi_tuple_tuple, isi_tuple_str, isi_tuple_list, Bool.false_eq_true, if_true, if_false, reduceIte, Bool.not_true, Bool.not_false, reduceCtorEq, false_and, and_false, exists_false, exists_const, scal_int, scal_bl, scal_str, absE, ne_eq, not_true_eq_false, not_false_eq_true, Int.natCast_add, Int.cast_ofNat_Int, and_assoc, tChain3, tTupF, rTupOfF]
    refine ⟨fun m σ H' => H' = H ∧ ∃ c : Nat, σ = [some (.int c), some (.int m)] ∧ Nat.gcd c m = Nat.gcd a b, ⟨_, rfl, a, rfl, rfl⟩, ?_⟩
    rintro m σ H' ⟨rfl, c, rfl, hg⟩
    simp only [tSeq, tAsg, gName, tRet, tRetN, tDrop, tIfS, tNext, tBreak, tCont, tTest, tB, tVar, tC, tCons, tNil, tCB, tCall, tCallK, tOp, tUn, rI0, rI, rU, rEq, rNe, tAnd, tOr, tNot, tAndV, tOrV, tNotV, tTup, tLst, tIf, gTup, gCons, gNil, tPar, tAug, ipI, gSub, L2.start, cxOf, Cx.nox, List.map_cons, List.map_nil, List.length_cons, List.length_nil, List.replicate, Nat.reduceAdd, Nat.reduceSub, List.cons_append, List.nil_append, List.append_nil, List.getElem?_cons_zero, List.getElem?_cons_succ, Option.some.injEq, V.int.injEq, V.bl.injEq, V.str.injEq, V.ref.injEq, V.ty.injEq, List.cons.injEq, and_true, true_and, exists_eq_left, exists_eq_left', exists_and_left, exists_and_right, decide_eq_true_eq, List.set_cons_zero, List.set_cons_succ, Bool.not_eq_true', decide_eq_false_iff_not, isi_NoneType_int, isi_NoneType_bool, isi_NoneType_tuple, isi_NoneType_str, isi_NoneType_list, isi_bool_int, isi_bool_bool, isi_bool_tuple, isi_bool_str, isi_bool_list, isi_int_int, isi_int_bool, isi_int_tuple, isi_int_str, isi_int_list, isi_str_int, isi_str_bool, isi_str_tuple, isi_str_str, isi_str_list, isi_list_int, isi_list_bool, isi_list_tuple, isi_list_str, isi_list_list, isi_tuple_int, isi_tuple_bool, isi_tuple_tuple, isi_tuple_str, isi_tuple_list, Bool.false_eq_true, if_true, if_false, reduceIte, Bool.not_true, Bool.not_false, reduceCtorEq, false_and, and_false, exists_false, exists_const, scal_int, scal_bl, scal_str, absE, ne_eq, not_true_eq_false, not_false_eq_true, Int.natCast_add, Int.cast_ofNat_Int, and_assoc, tChain3, tTupF, rTupOfF]
    refine ite2 (fun hd => ⟨_, fun _ _ n => n, hd, ?_⟩) (fun hd => ?_)
    · simp only [tSeq, tAsg, gName, tRet, tRetN, tDrop, tIfS, tNext, tBreak, tCont, tTest, tB, tVar, tC, tCons, tNil, tCB, tCall, tCallK, tOp, tUn, rI0, rI, rU, rEq, rNe, tAnd, tOr, tNot, tAndV, tOrV, tNotV, tTup, tLst, tIf, gTup, gCons, gNil, tPar, tAug, ipI, gSub, L2.start, cxOf, Cx.nox, List.map_cons, List.map_nil, List.length_cons, List.length_nil, List.replicate, Nat.reduceAdd, Nat.reduceSub, List.cons_append, List.nil_append, List.append_nil, List.getElem?_cons_zero, List.getElem?_cons_succ, Option.some.injEq, V.int.injEq, V.bl.injEq, V.str.injEq, V.ref.injEq, V.ty.injEq, List.cons.injEq, and_true, true_and, exists_eq_left, exists_eq_left', exists_and_left, exists_and_right, decide_eq_true_eq, List.set_cons_zero, List.set_cons_succ, Bool.not_eq_true', decide_eq_false_iff_not, isi_NoneType_int, isi_NoneType_bool, isi_NoneType_tuple, isi_NoneType_str, isi_NoneType_list, isi_bool_int, isi_bool_bool, isi_bool_tuple, isi_bool_str, isi_bool_list, isi_int_int, isi_int_bool, isi_int_tuple, isi_int_str, isi_int_list, isi_str_int, isi_str_bool, isi_str_tuple, isi_str_str, isi_str_list, isi_list_int, isi_list_bool, isi_list_tuple, isi_list_str, isi_list_list, isi_tuple_int, isi_tuple_bool, isi_tuple_tuple, isi_tuple_str, isi_tuple_list, Bool.false_eq_true, if_true, if_false, reduceIte, Bool.not_true, Bool.not_false, reduceCtorEq, false_and, and_false, exists_false, exists_const, scal_int, scal_bl, scal_str, absE, ne_eq, not_true_eq_false, not_false_eq_true, Int.natCast_add, Int.cast_ofNat_Int, and_assoc, tChain3, tTupF, rTupOfF]
      refine ⟨c % m, Nat.mod_lt _ (by omega), m, rfl, ?_⟩
      refine ⟨(Int.natCast_emod c m).symm, ?_⟩
      rw [← hg, Nat.gcd_comm c m, Nat.gcd_rec m c, Nat.gcd_comm]
    · have : m = 0 := by omega
      subst this
      rw [Nat.gcd_zero_right] at hg
      rw [hg]
      exact q
end
end K00
end
section
set_option Elab.async false
set_option linter.all false
set_option maxRecDepth 100000
set_option maxHeartbeats 4000000
namespace K00
open PySem PySem.Spec PyProof.Rows L2 Pour
/-! ### plain data; p the list that draws change; the ints within B -/
mutual
def Dt (p : Addr → Prop) (B : Int) (H : Hp) : PyData → V → Prop
  | .none, v => v = .non
  | .bool b, v => v = .bl b
  | .int i, v => v = .int i ∧ -B ≤ i ∧ i ≤ B
  | .str s, v => v = .str s
  | .list ds, v => ∃ a xs, v = .ref a ∧ ¬ p a ∧ H a = some (.lst xs) ∧ xs.length ≤ 2000 ∧ DtAll p B H ds xs
  | .tuple ds, v => ∃ a xs, v = .ref a ∧ ¬ p a ∧ TupN H a xs ∧ xs.length ≤ 2000 ∧ DtAll p B H ds xs
  | .dict _, _ => False
def DtAll (p : Addr → Prop) (B : Int) (H : Hp) : List PyData → List V → Prop
  | [], [] => True
  | d :: ds, x :: xs => Dt p B H d x ∧ DtAll p B H ds xs
  | _, _ => False
end
def Keep (p : Addr → Prop) (H H' : Hp) : Prop := ∀ b o, ¬ p b → H b = some o → H' b = some o
mutual
theorem Dt.mono {p : Addr → Prop} {B B' : Int} {H H' : Hp} (hB : B ≤ B') (k : Keep p H H') : ∀ (d : PyData) (v : V), Dt p B H d v → Dt p B' H' d v
  | .none, _, h => h
  | .bool _, _, h => h
  | .int _, _, ⟨h, l, u⟩ => ⟨h, by omega, by omega⟩
  | .str _, _, h => h
  | .list ds, _, ⟨a, xs, e, ne, ha, hl, hs⟩ => ⟨a, xs, e, ne, k _ _ ne ha, hl, DtAll.mono hB k ds xs hs⟩
  | .tuple ds, _, ⟨a, xs, e, ne, ha, hl, hs⟩ => ⟨a, xs, e, ne, ha.by fun o q => k _ _ ne q, hl, DtAll.mono hB k ds xs hs⟩
theorem DtAll.mono {p : Addr → Prop} {B B' : Int} {H H' : Hp} (hB : B ≤ B') (k : Keep p H H') : ∀ (ds : List PyData) (xs : List V), DtAll p B H ds xs → DtAll p B' H' ds xs
  | [], [], _ => True.intro
  | d :: ds, x :: xs, ⟨h, r⟩ => ⟨Dt.mono hB k d x h, DtAll.mono hB k ds xs r⟩
end
mutual
theorem Dt.weak {p p' : Addr → Prop} {B : Int} {H : Hp} (hp : ∀ a, p' a → p a) : ∀ (d : PyData) (v : V), Dt p B H d v → Dt p' B H d v
  | .none, _, h => h
  | .bool _, _, h => h
  | .int _, _, h => h
  | .str _, _, h => h
  | .list ds, _, ⟨a, xs, e, ne, ha, hl, hs⟩ => ⟨a, xs, e, fun z => ne (hp a z), ha, hl, DtAll.weak hp ds xs hs⟩
  | .tuple ds, _, ⟨a, xs, e, ne, ha, hl, hs⟩ => ⟨a, xs, e, fun z => ne (hp a z), ha, hl, DtAll.weak hp ds xs hs⟩
theorem DtAll.weak {p p' : Addr → Prop} {B : Int} {H : Hp} (hp : ∀ a, p' a → p a) : ∀ (ds : List PyData) (xs : List V), DtAll p B H ds xs → DtAll p' B H ds xs
  | [], [], _ => True.intro
  | d :: ds, x :: xs, ⟨h, r⟩ => ⟨Dt.weak hp d x h, DtAll.weak hp ds xs r⟩
end
theorem DtAll.len {p : Addr → Prop} {B : Int} {H : Hp} : ∀ {ds : List PyData} {xs : List V}, DtAll p B H ds xs → ds.length = xs.length
  | [], [], _ => rfl
  | _ :: ds, _ :: xs, ⟨_, r⟩ => congrArg (· + 1) (DtAll.len (ds := ds) (xs := xs) r)
theorem DtAll.get {p : Addr → Prop} {B : Int} {H : Hp} : ∀ {ds : List PyData} {xs : List V} {i : Nat} {x : V}, DtAll p B H ds xs → xs[i]? = some x → ∃ d, ds[i]? = some d ∧ Dt p B H d x
  | [], [], i, x, _, h => by simp at h
  | d :: ds, y :: xs, 0, x, ⟨a, _⟩, h => ⟨d, rfl, by simp at h; rw [← h]; exact a⟩
  | d :: ds, y :: xs, i + 1, x, ⟨_, r⟩, h => DtAll.get (ds := ds) (xs := xs) (i := i) r (by simpa using h)
theorem DtAll.app {p : Addr → Prop} {B : Int} {H : Hp} : ∀ {ds es : List PyData} {xs ys : List V}, DtAll p B H ds xs → DtAll p B H es ys → DtAll p B H (ds ++ es) (xs ++ ys)
  | [], _, [], _, _, b => b
  | _ :: ds, es, _ :: xs, ys, ⟨a, r⟩, b => ⟨a, DtAll.app (ds := ds) (xs := xs) r b⟩
theorem DtAll.take {p : Addr → Prop} {B : Int} {H : Hp} : ∀ {ds : List PyData} {xs : List V} (n : Nat), DtAll p B H ds xs → DtAll p B H (ds.take n) (xs.take n)
  | [], [], n, _ => by simp [DtAll]
  | d :: ds, x :: xs, 0, _ => by simp [DtAll]
  | d :: ds, x :: xs, n + 1, ⟨a, r⟩ => ⟨a, DtAll.take (ds := ds) (xs := xs) n r⟩
theorem DtAll.drop {p : Addr → Prop} {B : Int} {H : Hp} : ∀ {ds : List PyData} {xs : List V} (n : Nat), DtAll p B H ds xs → DtAll p B H (ds.drop n) (xs.drop n)
  | [], [], n, _ => by simp [DtAll]
  | d :: ds, x :: xs, 0, h => h
  | d :: ds, x :: xs, n + 1, ⟨a, r⟩ => DtAll.drop (ds := ds) (xs := xs) n r
theorem DtAll.set {p : Addr → Prop} {B : Int} {H : Hp} : ∀ {ds : List PyData} {xs : List V} (i : Nat) {d : PyData} {x : V}, DtAll p B H ds xs → Dt p B H d x → DtAll p B H (ds.set i d) (xs.set i x)
  | [], [], i, d, x, _, _ => by simp [DtAll]
  | d :: ds, x :: xs, 0, e, y, ⟨_, r⟩, h => ⟨h, r⟩
  | d :: ds, x :: xs, i + 1, e, y, ⟨a, r⟩, h => ⟨a, DtAll.set (ds := ds) (xs := xs) i r h⟩
theorem DtAll.ints {p : Addr → Prop} {B : Int} {H : Hp} : ∀ {ns : List Int}, (∀ y ∈ ns, -B ≤ y ∧ y ≤ B) → DtAll p B H (ns.map PyData.int) (ns.map V.int)
  | [], _ => True.intro
  | n :: ns, h => ⟨⟨rfl, h n List.mem_cons_self⟩, DtAll.ints fun y hy => h y (List.mem_cons_of_mem _ hy)⟩
def kindOf : PyData → String
  | .none => "NoneType"
  | .bool _ => "bool"
  | .int _ => "int"
  | .str _ => "str"
  | .list _ => "list"
  | .tuple _ => "tuple"
  | .dict _ => "dict"
theorem Dt.kn {p : Addr → Prop} {B : Int} {H : Hp} : ∀ {d : PyData} {v : V}, Dt p B H d v → Kn H v (kindOf d)
  | .none, _, h => by cases h; exact .non
  | .bool _, _, h => by cases h; exact .bl _
  | .int _, _, ⟨h, _⟩ => by cases h; exact .int _
  | .str _, _, h => by cases h; exact .str _
  | .list _, _, ⟨_, _, h, _, e, _⟩ => by cases h; exact .lst e
  | .tuple _, _, ⟨_, _, h, _, ⟨_, _, e⟩, _⟩ => by cases h; exact .ftup e
def isInt : PyData → Bool
  | .int _ => true
  | _ => false
def isNum : PyData → Bool
  | .int i => decide (0 ≤ i)
  | _ => false
theorem Dt.isInt {p : Addr → Prop} {B : Int} {H : Hp} : ∀ {d : PyData} {v : V}, Dt p B H d v → isIntV v = K00.isInt d
  | .none, _, h => by cases h; rfl
  | .bool _, _, h => by cases h; rfl
  | .int _, _, ⟨h, _⟩ => by cases h; rfl
  | .str _, _, h => by cases h; rfl
  | .list _, _, ⟨_, _, h, _⟩ => by cases h; rfl
  | .tuple _, _, ⟨_, _, h, _⟩ => by cases h; rfl
theorem Dt.isNum {p : Addr → Prop} {B : Int} {H : Hp} : ∀ {d : PyData} {v : V}, Dt p B H d v → isNumV v = K00.isNum d
  | .none, _, h => by cases h; rfl
  | .bool _, _, h => by cases h; rfl
  | .int _, _, ⟨h, _⟩ => by cases h; rfl
  | .str _, _, h => by cases h; rfl
  | .list _, _, ⟨_, _, h, _⟩ => by cases h; rfl
  | .tuple _, _, ⟨_, _, h, _⟩ => by cases h; rfl
theorem isInt_int {d : PyData} (h : isInt d = true) : ∃ i, d = .int i := by
  cases d <;> simp [isInt] at h
  exact ⟨_, rfl⟩
theorem isNum_int {d : PyData} (h : isNum d = true) : ∃ i, d = .int i ∧ 0 ≤ i := by
  cases d <;> simp [isNum] at h
  exact ⟨_, rfl, h⟩
/-! ### what the kinds tell of data -/
def isQuot : PyData → Bool
  | .tuple [.int a, .int b] => decide (1 ≤ b) && decide (Nat.gcd a.natAbs b.natAbs = 1)
  | _ => false
def lotFrom (n : Int) : Int → List PyData → Bool
  | _, [] => true
  | l, .int h :: ds => decide (l < h) && (decide (h < n) && lotFrom n h ds)
  | _, _ :: _ => false
def isLot (n : Int) : PyData → Bool
  | .tuple ds => lotFrom n (-1) ds
  | _ => false
def isPurses (n : Int) : PyData → Bool
  | .tuple ds => decide ((ds.length : Int) = n) && ds.all isNum
  | _ => false
def lineOk (n : Int) : PyData → Bool
  | .tuple [.int a, .int b, .int r] => decide (0 ≤ a) && (decide (a < b) && (decide (b < n) && decide (1 ≤ r)))
  | _ => false
def isWeb : PyData → Bool
  | .tuple [.int n, .tuple ls] => decide (1 ≤ n) && ls.all (lineOk n)
  | _ => false
def splitFrom : List Int → List PyData → Bool
  | r :: rs, .int x :: ds => decide (0 ≤ x) && (decide (x ≤ r) && splitFrom rs ds)
  | [], [] => true
  | _, _ => false
def isSplit (rs : List Int) : PyData → Bool
  | .tuple ds => splitFrom rs ds
  | _ => false
def joinAt (ds : List PyData) (i : Nat) : Bool := match ds[i]? with
  | some (.int x) => decide (0 ≤ x) && (decide (x ≤ i) && (match ds[x.toNat]? with | some (.int y) => decide (y = x) | _ => false))
  | _ => false
def isJoin (n : Int) : PyData → Bool
  | .tuple ds => decide ((ds.length : Int) = n) && (List.range ds.length).all (joinAt ds)
  | _ => false
theorem drop_cons {α : Type} {ds : List α} {i : Nat} {d : α} (h : ds[i]? = some d) : ds.drop i = d :: ds.drop (i + 1) := by
  obtain ⟨lt, e⟩ := List.getElem?_eq_some_iff.mp h
  rw [List.drop_eq_getElem_cons lt, e]
section
variable {P : Program} {w : World} {K : PySem.W.Frag} {mg : Str → Option Value} {base : Heap}
def spLot : Sp := fun vs H Q _ => ∃ (p : Addr → Prop) (B : Int) (d : PyData) (v : V) (n : Int), vs = [.int n, v] ∧ Dt p B H d v ∧ Q (.bl (isLot n d)) H
theorem ok_is_lot (T : Txt K mg) : Keeps P w K mg base CX0 2 d_s_is_lot ["size", "thing"] spLot := by
  obtain ⟨fd, F⟩ := f_is_lot T
  obtain ⟨fd_is_integer, D_is_integer⟩ := ok_is_integer (P := P) (w := w) (base := base) T
  refine ⟨fd, F, F.ok sc_is_lot (fun vs H Q E h => ?_) (fun cdv A outer s H vs Q E hr h => ⟨_, PSs.nox
    (pss_cons (ps_if (pt_not (pt_val (pe_callB call_isi rfl (n_isinstance T) (by decide +kernel) (pa_cons (pv 1) (pa_cons (pe_bltn (v := .ty "tuple") rfl (n_tuple T) (by decide +kernel) rfl) pa_nil))))) (pss_one (ps_ret pe_bl)) pss_nil)
      (pss_cons (ps_set (i := 2) sc_is_lot.nd rfl (Or.inl rfl) (pe_un un_neg pe_int))
      (pss_cons (ps_for PassesOwn.never rfl (pi_tup (pv 1)) (pg_name (i := 3) sc_is_lot.nd rfl (Or.inl rfl)) (pss_cons (ps_if (PW.pt (pw_or (pt_not (pt_val (pe_call D_is_integer.2 (hr.mono (by decide)) rfl (g_is_integer T) D_is_integer.1.kp (b_is_integer D_is_integer.1) .nil pass0 (pa_cons (pv 3) pa_nil)))) (pw_or (pt_cmpR op_le (pv 3) (pv 2) (nomark _)) (pw_or1 (pt_cmpR op_ge (pv 3) (pv 0) (nomark _)))))) (pss_one (ps_ret pe_bl)) pss_nil)
      (pss_one (ps_set (i := 2) sc_is_lot.nd rfl (Or.inl rfl) (pv 3)))))
      (pss_one (ps_ret pe_bl))))), ?_⟩)⟩
  · obtain ⟨p, B, d, v, n, rfl, _⟩ := h
    rfl
  · obtain ⟨p, B, d, v, n, rfl, hd, q⟩ := h
    simp only [tSeq, tAsg, gName, tRet, tRetN, tDrop, tIfS, tNext, tBreak, tCont, tTest, tB, tVar, tC, tCons, tNil, tCB, tCall, tCallK, tOp, tUn, rI0, rI, rU, rEq, rNe, tAnd, tOr, tNot, tAndV, tOrV, tNotV, tTup, tLst, tIf, gTup, gCons, gNil, tPar, tAug, ipI, gSub, L2.start, cxOf, Cx.nox, List.map_cons, List.map_nil, List.length_cons, List.length_nil, List.replicate, Nat.reduceAdd, Nat.reduceSub, List.cons_append, List.nil_append, List.append_nil, List.getElem?_cons_zero, List.getElem?_cons_succ, Option.some.injEq, V.int.injEq, V.bl.injEq, V.str.injEq, V.ref.injEq, V.ty.injEq, List.cons.injEq, and_true, true_and, exists_eq_left, exists_eq_left', exists_and_left, exists_and_right, decide_eq_true_eq, List.set_cons_zero, List.set_cons_succ, Bool.not_eq_true', decide_eq_false_iff_not, isi_NoneType_int, isi_NoneType_bool, isi_NoneType_tuple, isi_NoneType_str, isi_NoneType_list, isi_bool_int, isi_bool_bool, isi_bool_tuple, isi_bool_str, isi_bool_list, isi_int_int, isi_int_bool, isi_int_tuple, isi_int_str, isi_int_list, isi_str_int, isi_str_bool, isi_str_tuple, isi_str_str, isi_str_list, isi_list_int, isi_list_bool, isi_list_tuple, isi_list_str, isi_list_list, isi_tuple_int, isi_tuple_bool, isi_tuple_tuple, isi_tuple_str, isi_tuple_list, Bool.false_eq_true, if_true, if_false, reduceIte, Bool.not_true, Bool.not_false, reduceCtorEq, false_and, and_false, exists_false, exists_const, scal_int, scal_bl, scal_str, absE, ne_eq, not_true_eq_false, not_false_eq_true, Int.natCast_add, Int.cast_ofNat_Int, and_assoc, tChain3, tTupF, rTupOfF]
    refine hd.kn.isi (by decide) ?_
    cases d with
    | tuple ds =>
      obtain ⟨a, xs, rfl, ne, ha, hl, hs⟩ := hd
      simp only [tSeq, tAsg, gName, tRet, tRetN, tDrop, tIfS, tNext, tBreak, tCont, tTest, tB, tVar, tC, tCons, tNil, tCB, tCall, tCallK, tOp, tUn, rI0, rI, rU, rEq, rNe, tAnd, tOr, tNot, tAndV, tOrV, tNotV, tTup, tLst, tIf, gTup, gCons, gNil, tPar, tAug, ipI, gSub, L2.start, cxOf, Cx.nox, List.map_cons, List.map_nil, List.length_cons, List.length_nil, List.replicate, Nat.reduceAdd, Nat.reduceSub, List.cons_append, List.nil_append, List.append_nil, List.getElem?_cons_zero, List.getElem?_cons_succ, Option.some.injEq, V.int.injEq, V.bl.injEq, V.str.injEq, V.ref.injEq, V.ty.injEq, List.cons.injEq, and_true, true_and, exists_eq_left, exists_eq_left', exists_and_left, exists_and_right, decide_eq_true_eq, List.set_cons_zero, List.set_cons_succ, Bool.not_eq_true', decide_eq_false_iff_not, isi_NoneType_int, isi_NoneType_bool, isi_NoneType_tuple, isi_NoneType_str, isi_NoneType_list, isi_bool_int, isi_bool_bool, isi_bool_tuple, isi_bool_str, isi_bool_list, isi_int_int, isi_int_bool, isi_int_tuple, isi_int_str, isi_int_list, isi_str_int, isi_str_bool, isi_str_tuple, isi_str_str, isi_str_list, isi_list_int, isi_list_bool, isi_list_tuple, isi_list_str, isi_list_list, isi_tuple_int, isi_tuple_bool, isi_tuple_tuple, isi_tuple_str, isi_tuple_list, Bool.false_eq_true, if_true, if_false, reduceIte, Bool.not_true, Bool.not_false, reduceCtorEq, false_and, and_false, exists_false, exists_const, scal_int, scal_bl, scal_str, absE, ne_eq, not_true_eq_false, not_false_eq_true, Int.natCast_add, Int.cast_ofNat_Int, and_assoc, tChain3, tTupF, rTupOfF, kindOf]
      refine for_tupE (a := a) (xs := xs) (fun Q' h => ⟨_, rfl, h⟩) (fun i σ' H' => H' = H ∧ ∃ (l : Int) (x3 : Option V), σ' = [some (.int n), some (.ref a), some (.int l), x3] ∧ lotFrom n l (ds.drop i) = lotFrom n (-1) ds) ?_ ?_ ?_ ?_
      · exact ⟨rfl, -1, none, rfl, rfl⟩
      · rintro i σ' H' _ ⟨rfl, _⟩
        exact ha.sq
      · rintro i x σ' H' hx ⟨rfl, l, x3, rfl, hl2⟩
        obtain ⟨e, he, hde⟩ := hs.get hx
        rw [drop_cons he] at hl2
        simp only [tSeq, tAsg, gName, tRet, tRetN, tDrop, tIfS, tNext, tBreak, tCont, tTest, tB, tVar, tC, tCons, tNil, tCB, tCall, tCallK, tOp, tUn, rI0, rI, rU, rEq, rNe, tAnd, tOr, tNot, tAndV, tOrV, tNotV, tTup, tLst, tIf, gTup, gCons, gNil, tPar, tAug, ipI, gSub, L2.start, cxOf, Cx.nox, List.map_cons, List.map_nil, List.length_cons, List.length_nil, List.replicate, Nat.reduceAdd, Nat.reduceSub, List.cons_append, List.nil_append, List.append_nil, List.getElem?_cons_zero, List.getElem?_cons_succ, Option.some.injEq, V.int.injEq, V.bl.injEq, V.str.injEq, V.ref.injEq, V.ty.injEq, List.cons.injEq, and_true, true_and, exists_eq_left, exists_eq_left', exists_and_left, exists_and_right, decide_eq_true_eq, List.set_cons_zero, List.set_cons_succ, Bool.not_eq_true', decide_eq_false_iff_not, isi_NoneType_int, isi_NoneType_bool, isi_NoneType_tuple, isi_NoneType_str, isi_NoneType_list, isi_bool_int, isi_bool_bool, isi_bool_tuple, isi_bool_str, isi_bool_list, isi_int_int, isi_int_bool, isi_int_tuple, isi_int_str, isi_int_list, isi_str_int, isi_str_bool, isi_str_tuple, isi_str_str, isi_str_list, isi_list_int, isi_list_bool, isi_list_tuple, isi_list_str, isi_list_list, isi_tuple_int, isi_tuple_bool, isi_tuple_tuple, isi_tuple_str, isi_tuple_list, Bool.false_eq_true, if_true, if_false, reduceIte, Bool.not_true, Bool.not_false, reduceCtorEq, false_and, and_false, exists_false, exists_const, scal_int, scal_bl, scal_str, absE, ne_eq, not_true_eq_false, not_false_eq_true, Int.natCast_add, Int.cast_ofNat_Int, and_assoc, tChain3, tTupF, rTupOfF]
        refine ⟨_, _, rfl, hde.kn, ?_⟩
        rw [hde.isInt]
        have no : isInt e = false → Q (.bl false) H' := fun h => by
          have : lotFrom n (-1) ds = false := by
            rw [← hl2]
            cases e <;> first | rfl | (simp [isInt] at h)
          have q2 : Q (.bl (lotFrom n (-1) ds)) H' := q
          rw [this] at q2
          exact q2
        cases hi : isInt e with
        | false =>
          simp only [tSeq, tAsg, gName, tRet, tRetN, tDrop, tIfS, tNext, tBreak, tCont, tTest, tB, tVar, tC, tCons, tNil, tCB, tCall, tCallK, tOp, tUn, rI0, rI, rU, rEq, rNe, tAnd, tOr, tNot, tAndV, tOrV, tNotV, tTup, tLst, tIf, gTup, gCons, gNil, tPar, tAug, ipI, gSub, L2.start, cxOf, Cx.nox, List.map_cons, List.map_nil, List.length_cons, List.length_nil, List.replicate, Nat.reduceAdd, Nat.reduceSub, List.cons_append, List.nil_append, List.append_nil, List.getElem?_cons_zero, List.getElem?_cons_succ, Option.some.injEq, V.int.injEq, V.bl.injEq, V.str.injEq, V.ref.injEq, V.ty.injEq, List.cons.injEq, and_true, true_and, exists_eq_left, exists_eq_left', exists_and_left, exists_and_right, decide_eq_true_eq, List.set_cons_zero, List.set_cons_succ, Bool.not_eq_true', decide_eq_false_iff_not, isi_NoneType_int, isi_NoneType_bool, isi_NoneType_tuple, isi_NoneType_str, isi_NoneType_list, isi_bool_int, isi_bool_bool, isi_bool_tuple, isi_bool_str, isi_bool_list, isi_int_int, isi_int_bool, isi_int_tuple, isi_int_str, isi_int_list, isi_str_int, isi_str_bool, isi_str_tuple, isi_str_str, isi_str_list, isi_list_int, isi_list_bool, isi_list_tuple, isi_list_str, isi_list_list, isi_tuple_int, isi_tuple_bool, isi_tuple_tuple, isi_tuple_str, isi_tuple_list, Bool.false_eq_true, if_true, if_false, reduceIte, Bool.not_true, Bool.not_false, reduceCtorEq, false_and, and_false, exists_false, exists_const, scal_int, scal_bl, scal_str, absE, ne_eq, not_true_eq_false, not_false_eq_true, Int.natCast_add, Int.cast_ofNat_Int, and_assoc, tChain3, tTupF, rTupOfF]
          exact no hi
        | true =>
          obtain ⟨z, rfl⟩ := isInt_int hi
          obtain ⟨rfl, _⟩ := hde
          simp only [tSeq, tAsg, gName, tRet, tRetN, tDrop, tIfS, tNext, tBreak, tCont, tTest, tB, tVar, tC, tCons, tNil, tCB, tCall, tCallK, tOp, tUn, rI0, rI, rU, rEq, rNe, tAnd, tOr, tNot, tAndV, tOrV, tNotV, tTup, tLst, tIf, gTup, gCons, gNil, tPar, tAug, ipI, gSub, L2.start, cxOf, Cx.nox, List.map_cons, List.map_nil, List.length_cons, List.length_nil, List.replicate, Nat.reduceAdd, Nat.reduceSub, List.cons_append, List.nil_append, List.append_nil, List.getElem?_cons_zero, List.getElem?_cons_succ, Option.some.injEq, V.int.injEq, V.bl.injEq, V.str.injEq, V.ref.injEq, V.ty.injEq, List.cons.injEq, and_true, true_and, exists_eq_left, exists_eq_left', exists_and_left, exists_and_right, decide_eq_true_eq, List.set_cons_zero, List.set_cons_succ, Bool.not_eq_true', decide_eq_false_iff_not, isi_NoneType_int, isi_NoneType_bool, isi_NoneType_tuple, isi_NoneType_str, isi_NoneType_list, isi_bool_int, isi_bool_bool, isi_bool_tuple, isi_bool_str, isi_bool_list, isi_int_int, isi_int_bool, isi_int_tuple, isi_int_str, isi_int_list, isi_str_int, isi_str_bool, isi_str_tuple, isi_str_str, isi_str_list, isi_list_int, isi_list_bool, isi_list_tuple, isi_list_str, isi_list_list, isi_tuple_int, isi_tuple_bool, isi_tuple_tuple, isi_tuple_str, isi_tuple_list, Bool.false_eq_true, if_true, if_false, reduceIte, Bool.not_true, Bool.not_false, reduceCtorEq, false_and, and_false, exists_false, exists_const, scal_int, scal_bl, scal_str, absE, ne_eq, not_true_eq_false, not_false_eq_true, Int.natCast_add, Int.cast_ofNat_Int, and_assoc, tChain3, tTupF, rTupOfF]
          have q2 : Q (.bl (lotFrom n (-1) ds)) H' := q
          rw [← hl2] at q2
          simp only [lotFrom] at q2 hl2
          refine ite2 (fun h => ?_) (fun h => ?_)
          · rw [decide_eq_false (by omega)] at q2
            exact q2
          refine ite2 (fun h' => ?_) (fun h' => ?_)
          · rw [decide_eq_true (by omega), decide_eq_false (by omega)] at q2
            exact q2
          · rw [decide_eq_true (by omega), decide_eq_true (by omega)] at hl2
            simpa using hl2
      · rintro σ' H' ⟨rfl, l, x3, rfl, hl2⟩
        rw [← hs.len, List.drop_length] at hl2
        simp only [tSeq, tAsg, gName, tRet, tRetN, tDrop, tIfS, tNext, tBreak, tCont, tTest, tB, tVar, tC, tCons, tNil, tCB, tCall, tCallK, tOp, tUn, rI0, rI, rU, rEq, rNe, tAnd, tOr, tNot, tAndV, tOrV, tNotV, tTup, tLst, tIf, gTup, gCons, gNil, tPar, tAug, ipI, gSub, L2.start, cxOf, Cx.nox, List.map_cons, List.map_nil, List.length_cons, List.length_nil, List.replicate, Nat.reduceAdd, Nat.reduceSub, List.cons_append, List.nil_append, List.append_nil, List.getElem?_cons_zero, List.getElem?_cons_succ, Option.some.injEq, V.int.injEq, V.bl.injEq, V.str.injEq, V.ref.injEq, V.ty.injEq, List.cons.injEq, and_true, true_and, exists_eq_left, exists_eq_left', exists_and_left, exists_and_right, decide_eq_true_eq, List.set_cons_zero, List.set_cons_succ, Bool.not_eq_true', decide_eq_false_iff_not, isi_NoneType_int, isi_NoneType_bool, isi_NoneType_tuple, isi_NoneType_str, isi_NoneType_list, isi_bool_int, isi_bool_bool, isi_bool_tuple, isi_bool_str, isi_bool_list, isi_int_int, isi_int_bool, isi_int_tuple, isi_int_str, isi_int_list, isi_str_int, isi_str_bool, isi_str_tuple, isi_str_str, isi_str_list, isi_list_int, isi_list_bool, isi_list_tuple, isi_list_str, isi_list_list, isi_tuple_int, isi_tuple_bool, isi_tuple_tuple, isi_tuple_str, isi_tuple_list, Bool.false_eq_true, if_true, if_false, reduceIte, Bool.not_true, Bool.not_false, reduceCtorEq, false_and, and_false, exists_false, exists_const, scal_int, scal_bl, scal_str, absE, ne_eq, not_true_eq_false, not_false_eq_true, Int.natCast_add, Int.cast_ofNat_Int, and_assoc, tChain3, tTupF, rTupOfF]
        have q2 : Q (.bl (lotFrom n (-1) ds)) H' := q
        rw [← hl2] at q2
        exact q2
    | _ =>
      simp only [tSeq, tAsg, gName, tRet, tRetN, tDrop, tIfS, tNext, tBreak, tCont, tTest, tB, tVar, tC, tCons, tNil, tCB, tCall, tCallK, tOp, tUn, rI0, rI, rU, rEq, rNe, tAnd, tOr, tNot, tAndV, tOrV, tNotV, tTup, tLst, tIf, gTup, gCons, gNil, tPar, tAug, ipI, gSub, L2.start, cxOf, Cx.nox, List.map_cons, List.map_nil, List.length_cons, List.length_nil, List.replicate, Nat.reduceAdd, Nat.reduceSub, List.cons_append, List.nil_append, List.append_nil, List.getElem?_cons_zero, List.getElem?_cons_succ, Option.some.injEq, V.int.injEq, V.bl.injEq, V.str.injEq, V.ref.injEq, V.ty.injEq, List.cons.injEq, and_true, true_and, exists_eq_left, exists_eq_left', exists_and_left, exists_and_right, decide_eq_true_eq, List.set_cons_zero, List.set_cons_succ, Bool.not_eq_true', decide_eq_false_iff_not, isi_NoneType_int, isi_NoneType_bool, isi_NoneType_tuple, isi_NoneType_str, isi_NoneType_list, isi_bool_int, isi_bool_bool, isi_bool_tuple, isi_bool_str, isi_bool_list, isi_int_int, isi_int_bool, isi_int_tuple, isi_int_str, isi_int_list, isi_str_int, isi_str_bool, isi_str_tuple, isi_str_str, isi_str_list, isi_list_int, isi_list_bool, isi_list_tuple, isi_list_str, isi_list_list, isi_tuple_int, isi_tuple_bool, isi_tuple_tuple, isi_tuple_str, isi_tuple_list, Bool.false_eq_true, if_true, if_false, reduceIte, Bool.not_true, Bool.not_false, reduceCtorEq, false_and, and_false, exists_false, exists_const, scal_int, scal_bl, scal_str, absE, ne_eq, not_true_eq_false, not_false_eq_true, Int.natCast_add, Int.cast_ofNat_Int, and_assoc, tChain3, tTupF, rTupOfF, kindOf]
      exact q
def spPurses : Sp := fun vs H Q _ => ∃ (p : Addr → Prop) (B : Int) (d : PyData) (v : V) (n : Int), vs = [.int n, v] ∧ Dt p B H d v ∧ Q (.bl (isPurses n d)) H
theorem ok_is_purses (T : Txt K mg) : Keeps P w K mg base CX0 3 d_s_is_purses ["size", "thing"] spPurses := by
  obtain ⟨fd, F⟩ := f_is_purses T
  obtain ⟨fd_is_number, D_is_number⟩ := ok_is_number (P := P) (w := w) (base := base) T
  refine ⟨fd, F, F.ok sc_is_purses (fun vs H Q E h => ?_) (fun cdv A outer s H vs Q E hr h => ⟨_, PSs.nox
    (pss_cons (ps_if (PW.pt (pw_or (pt_not (pt_val (pe_callB call_isi rfl (n_isinstance T) (by decide +kernel) (pa_cons (pv 1) (pa_cons (pe_bltn (v := .ty "tuple") rfl (n_tuple T) (by decide +kernel) rfl) pa_nil))))) (pw_or1 (pt_cmpR op_ne (pe_callB call_len_seq rfl (n_len T) (by decide +kernel) (pa_cons (pv 1) pa_nil)) (pv 0) (nomark _))))) (pss_one (ps_ret pe_bl)) pss_nil)
      (pss_cons (ps_for PassesOwn.never rfl (pi_tup (pv 1)) (pg_name (i := 2) sc_is_purses.nd rfl (Or.inl rfl)) (pss_one (ps_if (pt_not (pt_val (pe_call D_is_number.2 (hr.mono (by decide)) rfl (g_is_number T) D_is_number.1.kp (b_is_number D_is_number.1) .nil pass0 (pa_cons (pv 2) pa_nil)))) (pss_one (ps_ret pe_bl)) pss_nil)))
      (pss_one (ps_ret pe_bl)))), ?_⟩)⟩
  · obtain ⟨p, B, d, v, n, rfl, _⟩ := h
    rfl
  · obtain ⟨p, B, d, v, n, rfl, hd, q⟩ := h
    simp only [tSeq, tAsg, gName, tRet, tRetN, tDrop, tIfS, tNext, tBreak, tCont, tTest, tB, tVar, tC, tCons, tNil, tCB, tCall, tCallK, tOp, tUn, rI0, rI, rU, rEq, rNe, tAnd, tOr, tNot, tAndV, tOrV, tNotV, tTup, tLst, tIf, gTup, gCons, gNil, tPar, tAug, ipI, gSub, L2.start, cxOf, Cx.nox, List.map_cons, List.map_nil, List.length_cons, List.length_nil, List.replicate, Nat.reduceAdd, Nat.reduceSub, List.cons_append, List.nil_append, List.append_nil, List.getElem?_cons_zero, List.getElem?_cons_succ, Option.some.injEq, V.int.injEq, V.bl.injEq, V.str.injEq, V.ref.injEq, V.ty.injEq, List.cons.injEq, and_true, true_and, exists_eq_left, exists_eq_left', exists_and_left, exists_and_right, decide_eq_true_eq, List.set_cons_zero, List.set_cons_succ, Bool.not_eq_true', decide_eq_false_iff_not, isi_NoneType_int, isi_NoneType_bool, isi_NoneType_tuple, isi_NoneType_str, isi_NoneType_list, isi_bool_int, isi_bool_bool, isi_bool_tuple, isi_bool_str, isi_bool_list, isi_int_int, isi_int_bool, isi_int_tuple, isi_int_str, isi_int_list, isi_str_int, isi_str_bool, isi_str_tuple, isi_str_str, isi_str_list, isi_list_int, isi_list_bool, isi_list_tuple, isi_list_str, isi_list_list, isi_tuple_int, isi_tuple_bool, isi_tuple_tuple, isi_tuple_str, isi_tuple_list, Bool.false_eq_true, if_true, if_false, reduceIte, Bool.not_true, Bool.not_false, reduceCtorEq, false_and, and_false, exists_false, exists_const, scal_int, scal_bl, scal_str, absE, ne_eq, not_true_eq_false, not_false_eq_true, Int.natCast_add, Int.cast_ofNat_Int, and_assoc, tChain3, tTupF, rTupOfF]
    refine hd.kn.isi (by decide) ?_
    cases d with
    | tuple ds =>
      obtain ⟨a, xs, rfl, ne, ha, hl, hs⟩ := hd
      simp only [tSeq, tAsg, gName, tRet, tRetN, tDrop, tIfS, tNext, tBreak, tCont, tTest, tB, tVar, tC, tCons, tNil, tCB, tCall, tCallK, tOp, tUn, rI0, rI, rU, rEq, rNe, tAnd, tOr, tNot, tAndV, tOrV, tNotV, tTup, tLst, tIf, gTup, gCons, gNil, tPar, tAug, ipI, gSub, L2.start, cxOf, Cx.nox, List.map_cons, List.map_nil, List.length_cons, List.length_nil, List.replicate, Nat.reduceAdd, Nat.reduceSub, List.cons_append, List.nil_append, List.append_nil, List.getElem?_cons_zero, List.getElem?_cons_succ, Option.some.injEq, V.int.injEq, V.bl.injEq, V.str.injEq, V.ref.injEq, V.ty.injEq, List.cons.injEq, and_true, true_and, exists_eq_left, exists_eq_left', exists_and_left, exists_and_right, decide_eq_true_eq, List.set_cons_zero, List.set_cons_succ, Bool.not_eq_true', decide_eq_false_iff_not, isi_NoneType_int, isi_NoneType_bool, isi_NoneType_tuple, isi_NoneType_str, isi_NoneType_list, isi_bool_int, isi_bool_bool, isi_bool_tuple, isi_bool_str, isi_bool_list, isi_int_int, isi_int_bool, isi_int_tuple, isi_int_str, isi_int_list, isi_str_int, isi_str_bool, isi_str_tuple, isi_str_str, isi_str_list, isi_list_int, isi_list_bool, isi_list_tuple, isi_list_str, isi_list_list, isi_tuple_int, isi_tuple_bool, isi_tuple_tuple, isi_tuple_str, isi_tuple_list, Bool.false_eq_true, if_true, if_false, reduceIte, Bool.not_true, Bool.not_false, reduceCtorEq, false_and, and_false, exists_false, exists_const, scal_int, scal_bl, scal_str, absE, ne_eq, not_true_eq_false, not_false_eq_true, Int.natCast_add, Int.cast_ofNat_Int, and_assoc, tChain3, tTupF, rTupOfF, kindOf]
      refine ⟨_, .inr (TupN.sq ha), ?_⟩
      rw [← hs.len]
      have q2 : Q (.bl (decide ((ds.length : Int) = n) && ds.all isNum)) H := q
      refine ite2 (fun h => ?_) (fun h => ?_)
      · rw [decide_eq_false h] at q2
        exact q2
      have h : (ds.length : Int) = n := Classical.not_not.mp h
      rw [decide_eq_true h, Bool.true_and] at q2
      refine for_tupE (a := a) (xs := xs) (fun Q' h => ⟨_, rfl, h⟩) (fun i σ' H' => H' = H ∧ ∃ (x2 : Option V), σ' = [some (.int n), some (.ref a), x2] ∧ (ds.drop i).all isNum = ds.all isNum) ?_ ?_ ?_ ?_
      · exact ⟨rfl, none, rfl, rfl⟩
      · rintro i σ' H' _ ⟨rfl, _⟩
        exact ha.sq
      · rintro i x σ' H' hx ⟨rfl, x2, rfl, hl2⟩
        obtain ⟨e, he, hde⟩ := hs.get hx
        rw [drop_cons he, List.all_cons] at hl2
        simp only [tSeq, tAsg, gName, tRet, tRetN, tDrop, tIfS, tNext, tBreak, tCont, tTest, tB, tVar, tC, tCons, tNil, tCB, tCall, tCallK, tOp, tUn, rI0, rI, rU, rEq, rNe, tAnd, tOr, tNot, tAndV, tOrV, tNotV, tTup, tLst, tIf, gTup, gCons, gNil, tPar, tAug, ipI, gSub, L2.start, cxOf, Cx.nox, List.map_cons, List.map_nil, List.length_cons, List.length_nil, List.replicate, Nat.reduceAdd, Nat.reduceSub, List.cons_append, List.nil_append, List.append_nil, List.getElem?_cons_zero, List.getElem?_cons_succ, Option.some.injEq, V.int.injEq, V.bl.injEq, V.str.injEq, V.ref.injEq, V.ty.injEq, List.cons.injEq, and_true, true_and, exists_eq_left, exists_eq_left', exists_and_left, exists_and_right, decide_eq_true_eq, List.set_cons_zero, List.set_cons_succ, Bool.not_eq_true', decide_eq_false_iff_not, isi_NoneType_int, isi_NoneType_bool, isi_NoneType_tuple, isi_NoneType_str, isi_NoneType_list, isi_bool_int, isi_bool_bool, isi_bool_tuple, isi_bool_str, isi_bool_list, isi_int_int, isi_int_bool, isi_int_tuple, isi_int_str, isi_int_list, isi_str_int, isi_str_bool, isi_str_tuple, isi_str_str, isi_str_list, isi_list_int, isi_list_bool, isi_list_tuple, isi_list_str, isi_list_list, isi_tuple_int, isi_tuple_bool, isi_tuple_tuple, isi_tuple_str, isi_tuple_list, Bool.false_eq_true, if_true, if_false, reduceIte, Bool.not_true, Bool.not_false, reduceCtorEq, false_and, and_false, exists_false, exists_const, scal_int, scal_bl, scal_str, absE, ne_eq, not_true_eq_false, not_false_eq_true, Int.natCast_add, Int.cast_ofNat_Int, and_assoc, tChain3, tTupF, rTupOfF]
        refine ⟨_, _, rfl, hde.kn, ?_⟩
        rw [hde.isNum]
        cases hi : isNum e with
        | false =>
          rw [hi, Bool.false_and] at hl2
          simp only [tSeq, tAsg, gName, tRet, tRetN, tDrop, tIfS, tNext, tBreak, tCont, tTest, tB, tVar, tC, tCons, tNil, tCB, tCall, tCallK, tOp, tUn, rI0, rI, rU, rEq, rNe, tAnd, tOr, tNot, tAndV, tOrV, tNotV, tTup, tLst, tIf, gTup, gCons, gNil, tPar, tAug, ipI, gSub, L2.start, cxOf, Cx.nox, List.map_cons, List.map_nil, List.length_cons, List.length_nil, List.replicate, Nat.reduceAdd, Nat.reduceSub, List.cons_append, List.nil_append, List.append_nil, List.getElem?_cons_zero, List.getElem?_cons_succ, Option.some.injEq, V.int.injEq, V.bl.injEq, V.str.injEq, V.ref.injEq, V.ty.injEq, List.cons.injEq, and_true, true_and, exists_eq_left, exists_eq_left', exists_and_left, exists_and_right, decide_eq_true_eq, List.set_cons_zero, List.set_cons_succ, Bool.not_eq_true', decide_eq_false_iff_not, isi_NoneType_int, isi_NoneType_bool, isi_NoneType_tuple, isi_NoneType_str, isi_NoneType_list, isi_bool_int, isi_bool_bool, isi_bool_tuple, isi_bool_str, isi_bool_list, isi_int_int, isi_int_bool, isi_int_tuple, isi_int_str, isi_int_list, isi_str_int, isi_str_bool, isi_str_tuple, isi_str_str, isi_str_list, isi_list_int, isi_list_bool, isi_list_tuple, isi_list_str, isi_list_list, isi_tuple_int, isi_tuple_bool, isi_tuple_tuple, isi_tuple_str, isi_tuple_list, Bool.false_eq_true, if_true, if_false, reduceIte, Bool.not_true, Bool.not_false, reduceCtorEq, false_and, and_false, exists_false, exists_const, scal_int, scal_bl, scal_str, absE, ne_eq, not_true_eq_false, not_false_eq_true, Int.natCast_add, Int.cast_ofNat_Int, and_assoc, tChain3, tTupF, rTupOfF]
          rw [← hl2] at q2
          exact q2
        | true =>
          rw [hi, Bool.true_and] at hl2
          simp only [tSeq, tAsg, gName, tRet, tRetN, tDrop, tIfS, tNext, tBreak, tCont, tTest, tB, tVar, tC, tCons, tNil, tCB, tCall, tCallK, tOp, tUn, rI0, rI, rU, rEq, rNe, tAnd, tOr, tNot, tAndV, tOrV, tNotV, tTup, tLst, tIf, gTup, gCons, gNil, tPar, tAug, ipI, gSub, L2.start, cxOf, Cx.nox, List.map_cons, List.map_nil, List.length_cons, List.length_nil, List.replicate, Nat.reduceAdd, Nat.reduceSub, List.cons_append, List.nil_append, List.append_nil, List.getElem?_cons_zero, List.getElem?_cons_succ, Option.some.injEq, V.int.injEq, V.bl.injEq, V.str.injEq, V.ref.injEq, V.ty.injEq, List.cons.injEq, and_true, true_and, exists_eq_left, exists_eq_left', exists_and_left, exists_and_right, decide_eq_true_eq, List.set_cons_zero, List.set_cons_succ, Bool.not_eq_true', decide_eq_false_iff_not, isi_NoneType_int, isi_NoneType_bool, isi_NoneType_tuple, isi_NoneType_str, isi_NoneType_list, isi_bool_int, isi_bool_bool, isi_bool_tuple, isi_bool_str, isi_bool_list, isi_int_int, isi_int_bool, isi_int_tuple, isi_int_str, isi_int_list, isi_str_int, isi_str_bool, isi_str_tuple, isi_str_str, isi_str_list, isi_list_int, isi_list_bool, isi_list_tuple, isi_list_str, isi_list_list, isi_tuple_int, isi_tuple_bool, isi_tuple_tuple, isi_tuple_str, isi_tuple_list, Bool.false_eq_true, if_true, if_false, reduceIte, Bool.not_true, Bool.not_false, reduceCtorEq, false_and, and_false, exists_false, exists_const, scal_int, scal_bl, scal_str, absE, ne_eq, not_true_eq_false, not_false_eq_true, Int.natCast_add, Int.cast_ofNat_Int, and_assoc, tChain3, tTupF, rTupOfF]
          exact hl2
      · rintro σ' H' ⟨rfl, x2, rfl, hl2⟩
        rw [← hs.len, List.drop_length] at hl2
        simp only [tSeq, tAsg, gName, tRet, tRetN, tDrop, tIfS, tNext, tBreak, tCont, tTest, tB, tVar, tC, tCons, tNil, tCB, tCall, tCallK, tOp, tUn, rI0, rI, rU, rEq, rNe, tAnd, tOr, tNot, tAndV, tOrV, tNotV, tTup, tLst, tIf, gTup, gCons, gNil, tPar, tAug, ipI, gSub, L2.start, cxOf, Cx.nox, List.map_cons, List.map_nil, List.length_cons, List.length_nil, List.replicate, Nat.reduceAdd, Nat.reduceSub, List.cons_append, List.nil_append, List.append_nil, List.getElem?_cons_zero, List.getElem?_cons_succ, Option.some.injEq, V.int.injEq, V.bl.injEq, V.str.injEq, V.ref.injEq, V.ty.injEq, List.cons.injEq, and_true, true_and, exists_eq_left, exists_eq_left', exists_and_left, exists_and_right, decide_eq_true_eq, List.set_cons_zero, List.set_cons_succ, Bool.not_eq_true', decide_eq_false_iff_not, isi_NoneType_int, isi_NoneType_bool, isi_NoneType_tuple, isi_NoneType_str, isi_NoneType_list, isi_bool_int, isi_bool_bool, isi_bool_tuple, isi_bool_str, isi_bool_list, isi_int_int, isi_int_bool, isi_int_tuple, isi_int_str, isi_int_list, isi_str_int, isi_str_bool, isi_str_tuple, isi_str_str, isi_str_list, isi_list_int, isi_list_bool, isi_list_tuple, isi_list_str, isi_list_list, isi_tuple_int, isi_tuple_bool, isi_tuple_tuple, isi_tuple_str, isi_tuple_list, Bool.false_eq_true, if_true, if_false, reduceIte, Bool.not_true, Bool.not_false, reduceCtorEq, false_and, and_false, exists_false, exists_const, scal_int, scal_bl, scal_str, absE, ne_eq, not_true_eq_false, not_false_eq_true, Int.natCast_add, Int.cast_ofNat_Int, and_assoc, tChain3, tTupF, rTupOfF]
        rw [← hl2] at q2
        exact q2
    | _ =>
      simp only [tSeq, tAsg, gName, tRet, tRetN, tDrop, tIfS, tNext, tBreak, tCont, tTest, tB, tVar, tC, tCons, tNil, tCB, tCall, tCallK, tOp, tUn, rI0, rI, rU, rEq, rNe, tAnd, tOr, tNot, tAndV, tOrV, tNotV, tTup, tLst, tIf, gTup, gCons, gNil, tPar, tAug, ipI, gSub, L2.start, cxOf, Cx.nox, List.map_cons, List.map_nil, List.length_cons, List.length_nil, List.replicate, Nat.reduceAdd, Nat.reduceSub, List.cons_append, List.nil_append, List.append_nil, List.getElem?_cons_zero, List.getElem?_cons_succ, Option.some.injEq, V.int.injEq, V.bl.injEq, V.str.injEq, V.ref.injEq, V.ty.injEq, List.cons.injEq, and_true, true_and, exists_eq_left, exists_eq_left', exists_and_left, exists_and_right, decide_eq_true_eq, List.set_cons_zero, List.set_cons_succ, Bool.not_eq_true', decide_eq_false_iff_not, isi_NoneType_int, isi_NoneType_bool, isi_NoneType_tuple, isi_NoneType_str, isi_NoneType_list, isi_bool_int, isi_bool_bool, isi_bool_tuple, isi_bool_str, isi_bool_list, isi_int_int, isi_int_bool, isi_int_tuple, isi_int_str, isi_int_list, isi_str_int, isi_str_bool, isi_str_tuple, isi_str_str, isi_str_list, isi_list_int, isi_list_bool, isi_list_tuple, isi_list_str, isi_list_list, isi_tuple_int, isi_tuple_bool, isi_tuple_tuple, isi_tuple_str, isi_tuple_list, Bool.false_eq_true, if_true, if_false, reduceIte, Bool.not_true, Bool.not_false, reduceCtorEq, false_and, and_false, exists_false, exists_const, scal_int, scal_bl, scal_str, absE, ne_eq, not_true_eq_false, not_false_eq_true, Int.natCast_add, Int.cast_ofNat_Int, and_assoc, tChain3, tTupF, rTupOfF, kindOf]
      exact q
def spJoin : Sp := fun vs H Q _ => ∃ (p : Addr → Prop) (B : Int) (d : PyData) (v : V) (n : Int), vs = [.int n, v] ∧ Dt p B H d v ∧ ∀ H', Evl.Ex H H' → Q (.bl (isJoin n d)) H'
theorem ok_is_joining (T : Txt K mg) : Keeps P w K mg base CX0 3 d_s_is_joining ["many", "thing"] spJoin := by
  obtain ⟨fd, F⟩ := f_is_joining T
  obtain ⟨fd_is_number, D_is_number⟩ := ok_is_number (P := P) (w := w) (base := base) T
  refine ⟨fd, F, F.ok sc_is_joining (fun vs H Q E h => ?_) (fun cdv A outer s H vs Q E hr h => ⟨_, PSs.nox
    (pss_cons (ps_if (PW.pt (pw_or (pt_not (pt_val (pe_callB call_isi rfl (n_isinstance T) (by decide +kernel) (pa_cons (pv 1) (pa_cons (pe_bltn (v := .ty "tuple") rfl (n_tuple T) (by decide +kernel) rfl) pa_nil))))) (pw_or1 (pt_cmpR op_ne (pe_callB call_len_seq rfl (n_len T) (by decide +kernel) (pa_cons (pv 1) pa_nil)) (pv 0) (nomark _))))) (pss_one (ps_ret pe_bl)) pss_nil)
      (pss_cons (ps_for PassesOwn.never rfl (pi_enumT rfl (n_enumerate T) (pa_cons (pv 1) pa_nil)) (pg_tup rfl (pgs_cons (pg_name (i := 2) sc_is_joining.nd rfl (Or.inl rfl)) (pgs_cons (pg_name (i := 3) sc_is_joining.nd rfl (Or.inl rfl)) pgs_nil))) (pss_one (ps_if (PW.pt (pw_or (pt_not (pt_val (pe_call D_is_number.2 (hr.mono (by decide)) rfl (g_is_number T) D_is_number.1.kp (b_is_number D_is_number.1) .nil pass0 (pa_cons (pv 3) pa_nil)))) (pw_or (pt_cmpR op_gt (pv 3) (pv 2) (nomark _)) (pw_or1 (pt_cmpR op_ne (pe_ix ix_tup (pv 1) (pv 3) (fun _ _ => rfl)) (pv 3) (nomark _)))))) (pss_one (ps_ret pe_bl)) pss_nil)))
      (pss_one (ps_ret pe_bl)))), ?_⟩)⟩
  · obtain ⟨p, B, d, v, n, rfl, _⟩ := h
    rfl
  · obtain ⟨p, B, d, v, n, rfl, hd, q⟩ := h
    simp only [tSeq, tAsg, gName, tRet, tRetN, tDrop, tIfS, tNext, tBreak, tCont, tTest, tB, tVar, tC, tCons, tNil, tCB, tCall, tCallK, tOp, tUn, rI0, rI, rU, rEq, rNe, tAnd, tOr, tNot, tAndV, tOrV, tNotV, tTup, tLst, tIf, gTup, gCons, gNil, tPar, tAug, ipI, gSub, L2.start, cxOf, Cx.nox, List.map_cons, List.map_nil, List.length_cons, List.length_nil, List.replicate, Nat.reduceAdd, Nat.reduceSub, List.cons_append, List.nil_append, List.append_nil, List.getElem?_cons_zero, List.getElem?_cons_succ, Option.some.injEq, V.int.injEq, V.bl.injEq, V.str.injEq, V.ref.injEq, V.ty.injEq, List.cons.injEq, and_true, true_and, exists_eq_left, exists_eq_left', exists_and_left, exists_and_right, decide_eq_true_eq, List.set_cons_zero, List.set_cons_succ, Bool.not_eq_true', decide_eq_false_iff_not, isi_NoneType_int, isi_NoneType_bool, isi_NoneType_tuple, isi_NoneType_str, isi_NoneType_list, isi_bool_int, isi_bool_bool, isi_bool_tuple, isi_bool_str, isi_bool_list, isi_int_int, isi_int_bool, isi_int_tuple, isi_int_str, isi_int_list, isi_str_int, isi_str_bool, isi_str_tuple, isi_str_str, isi_str_list, isi_list_int, isi_list_bool, isi_list_tuple, isi_list_str, isi_list_list, isi_tuple_int, isi_tuple_bool, isi_tuple_tuple, isi_tuple_str, isi_tuple_list, Bool.false_eq_true, if_true, if_false, reduceIte, Bool.not_true, Bool.not_false, reduceCtorEq, false_and, and_false, exists_false, exists_const, scal_int, scal_bl, scal_str, absE, ne_eq, not_true_eq_false, not_false_eq_true, Int.natCast_add, Int.cast_ofNat_Int, and_assoc, tChain3, tTupF, rTupOfF]
    refine hd.kn.isi (by decide) ?_
    cases d with
    | tuple ds =>
      obtain ⟨a, xs, rfl, ne, ha, hl, hs⟩ := hd
      simp only [tSeq, tAsg, gName, tRet, tRetN, tDrop, tIfS, tNext, tBreak, tCont, tTest, tB, tVar, tC, tCons, tNil, tCB, tCall, tCallK, tOp, tUn, rI0, rI, rU, rEq, rNe, tAnd, tOr, tNot, tAndV, tOrV, tNotV, tTup, tLst, tIf, gTup, gCons, gNil, tPar, tAug, ipI, gSub, L2.start, cxOf, Cx.nox, List.map_cons, List.map_nil, List.length_cons, List.length_nil, List.replicate, Nat.reduceAdd, Nat.reduceSub, List.cons_append, List.nil_append, List.append_nil, List.getElem?_cons_zero, List.getElem?_cons_succ, Option.some.injEq, V.int.injEq, V.bl.injEq, V.str.injEq, V.ref.injEq, V.ty.injEq, List.cons.injEq, and_true, true_and, exists_eq_left, exists_eq_left', exists_and_left, exists_and_right, decide_eq_true_eq, List.set_cons_zero, List.set_cons_succ, Bool.not_eq_true', decide_eq_false_iff_not, isi_NoneType_int, isi_NoneType_bool, isi_NoneType_tuple, isi_NoneType_str, isi_NoneType_list, isi_bool_int, isi_bool_bool, isi_bool_tuple, isi_bool_str, isi_bool_list, isi_int_int, isi_int_bool, isi_int_tuple, isi_int_str, isi_int_list, isi_str_int, isi_str_bool, isi_str_tuple, isi_str_str, isi_str_list, isi_list_int, isi_list_bool, isi_list_tuple, isi_list_str, isi_list_list, isi_tuple_int, isi_tuple_bool, isi_tuple_tuple, isi_tuple_str, isi_tuple_list, Bool.false_eq_true, if_true, if_false, reduceIte, Bool.not_true, Bool.not_false, reduceCtorEq, false_and, and_false, exists_false, exists_const, scal_int, scal_bl, scal_str, absE, ne_eq, not_true_eq_false, not_false_eq_true, Int.natCast_add, Int.cast_ofNat_Int, and_assoc, tChain3, tTupF, rTupOfF, kindOf]
      refine ⟨_, .inr (TupN.sq ha), ?_⟩
      rw [← hs.len]
      have q2 : ∀ H', Evl.Ex H H' → Q (.bl (decide ((ds.length : Int) = n) && (List.range ds.length).all (joinAt ds))) H' := q
      refine ite2 (fun h => ?_) (fun h => ?_)
      · have q3 := q2 H (Evl.Ex.refl H)
        rw [decide_eq_false h] at q3
        exact q3
      have h : (ds.length : Int) = n := Classical.not_not.mp h
      refine for_enumT (a := a) (xs := xs) ?_ (fun i σ' H' => Evl.Ex H H' ∧ ∃ (x2 x3 : Option V), σ' = [some (.int n), some (.ref a), x2, x3] ∧ (∀ j, j < i → joinAt ds j = true)) ?_ ?_ ?_ ?_
      · intro Q' h
        simp only [tSeq, tAsg, gName, tRet, tRetN, tDrop, tIfS, tNext, tBreak, tCont, tTest, tB, tVar, tC, tCons, tNil, tCB, tCall, tCallK, tOp, tUn, rI0, rI, rU, rEq, rNe, tAnd, tOr, tNot, tAndV, tOrV, tNotV, tTup, tLst, tIf, gTup, gCons, gNil, tPar, tAug, ipI, gSub, L2.start, cxOf, Cx.nox, List.map_cons, List.map_nil, List.length_cons, List.length_nil, List.replicate, Nat.reduceAdd, Nat.reduceSub, List.cons_append, List.nil_append, List.append_nil, List.getElem?_cons_zero, List.getElem?_cons_succ, Option.some.injEq, V.int.injEq, V.bl.injEq, V.str.injEq, V.ref.injEq, V.ty.injEq, List.cons.injEq, and_true, true_and, exists_eq_left, exists_eq_left', exists_and_left, exists_and_right, decide_eq_true_eq, List.set_cons_zero, List.set_cons_succ, Bool.not_eq_true', decide_eq_false_iff_not, isi_NoneType_int, isi_NoneType_bool, isi_NoneType_tuple, isi_NoneType_str, isi_NoneType_list, isi_bool_int, isi_bool_bool, isi_bool_tuple, isi_bool_str, isi_bool_list, isi_int_int, isi_int_bool, isi_int_tuple, isi_int_str, isi_int_list, isi_str_int, isi_str_bool, isi_str_tuple, isi_str_str, isi_str_list, isi_list_int, isi_list_bool, isi_list_tuple, isi_list_str, isi_list_list, isi_tuple_int, isi_tuple_bool, isi_tuple_tuple, isi_tuple_str, isi_tuple_list, Bool.false_eq_true, if_true, if_false, reduceIte, Bool.not_true, Bool.not_false, reduceCtorEq, false_and, and_false, exists_false, exists_const, scal_int, scal_bl, scal_str, absE, ne_eq, not_true_eq_false, not_false_eq_true, Int.natCast_add, Int.cast_ofNat_Int, and_assoc, tChain3, tTupF, rTupOfF]
        exact h
      · exact ⟨Evl.Ex.refl _, none, none, rfl, fun j hj => absurd hj (by omega)⟩
      · rintro i σ' H' ⟨e, _⟩
        exact (ha.ex e).sq
      · rintro i x Tt σ' H' hx ⟨e1, x2, x3, rfl, hj⟩ hT
        obtain ⟨e, he, hde⟩ := hs.get hx
        have e2 := Evl.Ex.new (o := HO.tup [V.int i, x]) hT
        have hT2 : upd H' Tt (HO.tup [V.int i, x]) Tt = some (HO.tup [V.int i, x]) := upd_same
        generalize upd H' Tt (HO.tup [V.int i, x]) = H2 at *
        have e12 := e1.trans e2
        have hde2 := Dt.mono (Int.le_refl B) (fun b o _ hb => e12 b o hb) e x hde
        have no : joinAt ds i = false → ∀ H', Evl.Ex H H' → Q (.bl false) H' := fun hf H' e' => by
          have q3 := q2 H' e'
          have : (List.range ds.length).all (joinAt ds) = false := by
            rw [List.all_eq_false]
            exact ⟨i, List.mem_range.mpr (by rw [hs.len]; exact (List.getElem?_eq_some_iff.mp hx).1), by rw [hf]; decide⟩
          rw [this, Bool.and_false] at q3
          exact q3
        simp only [tSeq, tAsg, gName, tRet, tRetN, tDrop, tIfS, tNext, tBreak, tCont, tTest, tB, tVar, tC, tCons, tNil, tCB, tCall, tCallK, tOp, tUn, rI0, rI, rU, rEq, rNe, tAnd, tOr, tNot, tAndV, tOrV, tNotV, tTup, tLst, tIf, gTup, gCons, gNil, tPar, tAug, ipI, gSub, L2.start, cxOf, Cx.nox, List.map_cons, List.map_nil, List.length_cons, List.length_nil, List.replicate, Nat.reduceAdd, Nat.reduceSub, List.cons_append, List.nil_append, List.append_nil, List.getElem?_cons_zero, List.getElem?_cons_succ, Option.some.injEq, V.int.injEq, V.bl.injEq, V.str.injEq, V.ref.injEq, V.ty.injEq, List.cons.injEq, and_true, true_and, exists_eq_left, exists_eq_left', exists_and_left, exists_and_right, decide_eq_true_eq, List.set_cons_zero, List.set_cons_succ, Bool.not_eq_true', decide_eq_false_iff_not, isi_NoneType_int, isi_NoneType_bool, isi_NoneType_tuple, isi_NoneType_str, isi_NoneType_list, isi_bool_int, isi_bool_bool, isi_bool_tuple, isi_bool_str, isi_bool_list, isi_int_int, isi_int_bool, isi_int_tuple, isi_int_str, isi_int_list, isi_str_int, isi_str_bool, isi_str_tuple, isi_str_str, isi_str_list, isi_list_int, isi_list_bool, isi_list_tuple, isi_list_str, isi_list_list, isi_tuple_int, isi_tuple_bool, isi_tuple_tuple, isi_tuple_str, isi_tuple_list, Bool.false_eq_true, if_true, if_false, reduceIte, Bool.not_true, Bool.not_false, reduceCtorEq, false_and, and_false, exists_false, exists_const, scal_int, scal_bl, scal_str, absE, ne_eq, not_true_eq_false, not_false_eq_true, Int.natCast_add, Int.cast_ofNat_Int, and_assoc, tChain3, tTupF, rTupOfF]
        refine ⟨_, SqT.of hT2, rfl, ?_⟩
        simp only [tSeq, tAsg, gName, tRet, tRetN, tDrop, tIfS, tNext, tBreak, tCont, tTest, tB, tVar, tC, tCons, tNil, tCB, tCall, tCallK, tOp, tUn, rI0, rI, rU, rEq, rNe, tAnd, tOr, tNot, tAndV, tOrV, tNotV, tTup, tLst, tIf, gTup, gCons, gNil, tPar, tAug, ipI, gSub, L2.start, cxOf, Cx.nox, List.map_cons, List.map_nil, List.length_cons, List.length_nil, List.replicate, Nat.reduceAdd, Nat.reduceSub, List.cons_append, List.nil_append, List.append_nil, List.getElem?_cons_zero, List.getElem?_cons_succ, Option.some.injEq, V.int.injEq, V.bl.injEq, V.str.injEq, V.ref.injEq, V.ty.injEq, List.cons.injEq, and_true, true_and, exists_eq_left, exists_eq_left', exists_and_left, exists_and_right, decide_eq_true_eq, List.set_cons_zero, List.set_cons_succ, Bool.not_eq_true', decide_eq_false_iff_not, isi_NoneType_int, isi_NoneType_bool, isi_NoneType_tuple, isi_NoneType_str, isi_NoneType_list, isi_bool_int, isi_bool_bool, isi_bool_tuple, isi_bool_str, isi_bool_list, isi_int_int, isi_int_bool, isi_int_tuple, isi_int_str, isi_int_list, isi_str_int, isi_str_bool, isi_str_tuple, isi_str_str, isi_str_list, isi_list_int, isi_list_bool, isi_list_tuple, isi_list_str, isi_list_list, isi_tuple_int, isi_tuple_bool, isi_tuple_tuple, isi_tuple_str, isi_tuple_list, Bool.false_eq_true, if_true, if_false, reduceIte, Bool.not_true, Bool.not_false, reduceCtorEq, false_and, and_false, exists_false, exists_const, scal_int, scal_bl, scal_str, absE, ne_eq, not_true_eq_false, not_false_eq_true, Int.natCast_add, Int.cast_ofNat_Int, and_assoc, tChain3, tTupF, rTupOfF]
        refine ⟨_, _, rfl, hde2.kn, ?_⟩
        rw [hde2.isNum]
        cases hi : isNum e with
        | false =>
          simp only [tSeq, tAsg, gName, tRet, tRetN, tDrop, tIfS, tNext, tBreak, tCont, tTest, tB, tVar, tC, tCons, tNil, tCB, tCall, tCallK, tOp, tUn, rI0, rI, rU, rEq, rNe, tAnd, tOr, tNot, tAndV, tOrV, tNotV, tTup, tLst, tIf, gTup, gCons, gNil, tPar, tAug, ipI, gSub, L2.start, cxOf, Cx.nox, List.map_cons, List.map_nil, List.length_cons, List.length_nil, List.replicate, Nat.reduceAdd, Nat.reduceSub, List.cons_append, List.nil_append, List.append_nil, List.getElem?_cons_zero, List.getElem?_cons_succ, Option.some.injEq, V.int.injEq, V.bl.injEq, V.str.injEq, V.ref.injEq, V.ty.injEq, List.cons.injEq, and_true, true_and, exists_eq_left, exists_eq_left', exists_and_left, exists_and_right, decide_eq_true_eq, List.set_cons_zero, List.set_cons_succ, Bool.not_eq_true', decide_eq_false_iff_not, isi_NoneType_int, isi_NoneType_bool, isi_NoneType_tuple, isi_NoneType_str, isi_NoneType_list, isi_bool_int, isi_bool_bool, isi_bool_tuple, isi_bool_str, isi_bool_list, isi_int_int, isi_int_bool, isi_int_tuple, isi_int_str, isi_int_list, isi_str_int, isi_str_bool, isi_str_tuple, isi_str_str, isi_str_list, isi_list_int, isi_list_bool, isi_list_tuple, isi_list_str, isi_list_list, isi_tuple_int, isi_tuple_bool, isi_tuple_tuple, isi_tuple_str, isi_tuple_list, Bool.false_eq_true, if_true, if_false, reduceIte, Bool.not_true, Bool.not_false, reduceCtorEq, false_and, and_false, exists_false, exists_const, scal_int, scal_bl, scal_str, absE, ne_eq, not_true_eq_false, not_false_eq_true, Int.natCast_add, Int.cast_ofNat_Int, and_assoc, tChain3, tTupF, rTupOfF]
          refine no ?_ _ e12
          unfold joinAt
          rw [he]
          cases e <;> first | rfl | skip
          simp only [isNum] at hi
          simp only [hi, Bool.false_and]
        | true =>
          obtain ⟨z, rfl, z0⟩ := isNum_int hi
          obtain ⟨rfl, _⟩ := hde2
          simp only [tSeq, tAsg, gName, tRet, tRetN, tDrop, tIfS, tNext, tBreak, tCont, tTest, tB, tVar, tC, tCons, tNil, tCB, tCall, tCallK, tOp, tUn, rI0, rI, rU, rEq, rNe, tAnd, tOr, tNot, tAndV, tOrV, tNotV, tTup, tLst, tIf, gTup, gCons, gNil, tPar, tAug, ipI, gSub, L2.start, cxOf, Cx.nox, List.map_cons, List.map_nil, List.length_cons, List.length_nil, List.replicate, Nat.reduceAdd, Nat.reduceSub, List.cons_append, List.nil_append, List.append_nil, List.getElem?_cons_zero, List.getElem?_cons_succ, Option.some.injEq, V.int.injEq, V.bl.injEq, V.str.injEq, V.ref.injEq, V.ty.injEq, List.cons.injEq, and_true, true_and, exists_eq_left, exists_eq_left', exists_and_left, exists_and_right, decide_eq_true_eq, List.set_cons_zero, List.set_cons_succ, Bool.not_eq_true', decide_eq_false_iff_not, isi_NoneType_int, isi_NoneType_bool, isi_NoneType_tuple, isi_NoneType_str, isi_NoneType_list, isi_bool_int, isi_bool_bool, isi_bool_tuple, isi_bool_str, isi_bool_list, isi_int_int, isi_int_bool, isi_int_tuple, isi_int_str, isi_int_list, isi_str_int, isi_str_bool, isi_str_tuple, isi_str_str, isi_str_list, isi_list_int, isi_list_bool, isi_list_tuple, isi_list_str, isi_list_list, isi_tuple_int, isi_tuple_bool, isi_tuple_tuple, isi_tuple_str, isi_tuple_list, Bool.false_eq_true, if_true, if_false, reduceIte, Bool.not_true, Bool.not_false, reduceCtorEq, false_and, and_false, exists_false, exists_const, scal_int, scal_bl, scal_str, absE, ne_eq, not_true_eq_false, not_false_eq_true, Int.natCast_add, Int.cast_ofNat_Int, and_assoc, tChain3, tTupF, rTupOfF]
          refine ite2 (fun h => ?_) (fun h => ?_)
          · refine no ?_ _ e12
            unfold joinAt
            rw [he]
            simp only
            rw [decide_eq_false (show ¬ z ≤ i by omega), Bool.false_and, Bool.and_false]
          obtain ⟨m, rfl⟩ : ∃ m : Nat, z = m := ⟨z.toNat, by omega⟩
          have hm : m ≤ i := by omega
          have lt := (List.getElem?_eq_some_iff.mp hx).1
          obtain ⟨y, hy⟩ : ∃ y, xs[m]? = some y := ⟨_, List.getElem?_eq_getElem (by omega)⟩
          obtain ⟨f, hf, hdf⟩ := hs.get hy
          obtain ⟨k, rfl⟩ : ∃ k : Int, f = .int k := by
            rcases Nat.lt_or_ge m i with h | h
            · have hj2 := hj m h
              unfold joinAt at hj2
              rw [hf] at hj2
              cases f <;> first | exact ⟨_, rfl⟩ | (simp at hj2)
            · have : m = i := by omega
              subst this
              rw [he] at hf
              exact ⟨_, (Option.some.inj hf).symm⟩
          obtain ⟨rfl, _⟩ := hdf
          simp only [tSeq, tAsg, gName, tRet, tRetN, tDrop, tIfS, tNext, tBreak, tCont, tTest, tB, tVar, tC, tCons, tNil, tCB, tCall, tCallK, tOp, tUn, rI0, rI, rU, rEq, rNe, tAnd, tOr, tNot, tAndV, tOrV, tNotV, tTup, tLst, tIf, gTup, gCons, gNil, tPar, tAug, ipI, gSub, L2.start, cxOf, Cx.nox, List.map_cons, List.map_nil, List.length_cons, List.length_nil, List.replicate, Nat.reduceAdd, Nat.reduceSub, List.cons_append, List.nil_append, List.append_nil, List.getElem?_cons_zero, List.getElem?_cons_succ, Option.some.injEq, V.int.injEq, V.bl.injEq, V.str.injEq, V.ref.injEq, V.ty.injEq, List.cons.injEq, and_true, true_and, exists_eq_left, exists_eq_left', exists_and_left, exists_and_right, decide_eq_true_eq, List.set_cons_zero, List.set_cons_succ, Bool.not_eq_true', decide_eq_false_iff_not, isi_NoneType_int, isi_NoneType_bool, isi_NoneType_tuple, isi_NoneType_str, isi_NoneType_list, isi_bool_int, isi_bool_bool, isi_bool_tuple, isi_bool_str, isi_bool_list, isi_int_int, isi_int_bool, isi_int_tuple, isi_int_str, isi_int_list, isi_str_int, isi_str_bool, isi_str_tuple, isi_str_str, isi_str_list, isi_list_int, isi_list_bool, isi_list_tuple, isi_list_str, isi_list_list, isi_tuple_int, isi_tuple_bool, isi_tuple_tuple, isi_tuple_str, isi_tuple_list, Bool.false_eq_true, if_true, if_false, reduceIte, Bool.not_true, Bool.not_false, reduceCtorEq, false_and, and_false, exists_false, exists_const, scal_int, scal_bl, scal_str, absE, ne_eq, not_true_eq_false, not_false_eq_true, Int.natCast_add, Int.cast_ofNat_Int, and_assoc, tChain3, tTupF, rTupOfF, rIxT]
          refine ⟨_, (ha.ex e12).sq, _, atI_nat hy, ?_⟩
          have ej : joinAt ds i = decide (k = m) := by
            unfold joinAt
            rw [he]
            simp only
            rw [decide_eq_true (show (0 : Int) ≤ m by omega), decide_eq_true (show (m : Int) ≤ i by omega), Int.toNat_natCast, hf]
            rfl
          refine ⟨rfl, ite2 (fun hk => ?_) (fun hk => ?_)⟩
          · refine no ?_ _ e12
            rw [ej, decide_eq_false]
            intro h'
            exact hk (by rw [h'])
          · refine ⟨e12, fun j hjl => ?_⟩
            rcases Nat.lt_or_ge j i with h2 | h2
            · exact hj j h2
            · have : j = i := by omega
              subst this
              rw [ej, decide_eq_true]
              have h3 : V.int k = V.int m := Classical.not_not.mp hk
              injection h3
      · rintro σ' H' ⟨e, x2, x3, rfl, hj⟩
        simp only [tSeq, tAsg, gName, tRet, tRetN, tDrop, tIfS, tNext, tBreak, tCont, tTest, tB, tVar, tC, tCons, tNil, tCB, tCall, tCallK, tOp, tUn, rI0, rI, rU, rEq, rNe, tAnd, tOr, tNot, tAndV, tOrV, tNotV, tTup, tLst, tIf, gTup, gCons, gNil, tPar, tAug, ipI, gSub, L2.start, cxOf, Cx.nox, List.map_cons, List.map_nil, List.length_cons, List.length_nil, List.replicate, Nat.reduceAdd, Nat.reduceSub, List.cons_append, List.nil_append, List.append_nil, List.getElem?_cons_zero, List.getElem?_cons_succ, Option.some.injEq, V.int.injEq, V.bl.injEq, V.str.injEq, V.ref.injEq, V.ty.injEq, List.cons.injEq, and_true, true_and, exists_eq_left, exists_eq_left', exists_and_left, exists_and_right, decide_eq_true_eq, List.set_cons_zero, List.set_cons_succ, Bool.not_eq_true', decide_eq_false_iff_not, isi_NoneType_int, isi_NoneType_bool, isi_NoneType_tuple, isi_NoneType_str, isi_NoneType_list, isi_bool_int, isi_bool_bool, isi_bool_tuple, isi_bool_str, isi_bool_list, isi_int_int, isi_int_bool, isi_int_tuple, isi_int_str, isi_int_list, isi_str_int, isi_str_bool, isi_str_tuple, isi_str_str, isi_str_list, isi_list_int, isi_list_bool, isi_list_tuple, isi_list_str, isi_list_list, isi_tuple_int, isi_tuple_bool, isi_tuple_tuple, isi_tuple_str, isi_tuple_list, Bool.false_eq_true, if_true, if_false, reduceIte, Bool.not_true, Bool.not_false, reduceCtorEq, false_and, and_false, exists_false, exists_const, scal_int, scal_bl, scal_str, absE, ne_eq, not_true_eq_false, not_false_eq_true, Int.natCast_add, Int.cast_ofNat_Int, and_assoc, tChain3, tTupF, rTupOfF]
        have q3 := q2 H' e
        have : (List.range ds.length).all (joinAt ds) = true := by
          rw [List.all_eq_true]
          intro j hm
          exact hj j (by rw [← hs.len]; exact List.mem_range.mp hm)
        rw [this, decide_eq_true h] at q3
        exact q3
    | _ =>
      simp only [tSeq, tAsg, gName, tRet, tRetN, tDrop, tIfS, tNext, tBreak, tCont, tTest, tB, tVar, tC, tCons, tNil, tCB, tCall, tCallK, tOp, tUn, rI0, rI, rU, rEq, rNe, tAnd, tOr, tNot, tAndV, tOrV, tNotV, tTup, tLst, tIf, gTup, gCons, gNil, tPar, tAug, ipI, gSub, L2.start, cxOf, Cx.nox, List.map_cons, List.map_nil, List.length_cons, List.length_nil, List.replicate, Nat.reduceAdd, Nat.reduceSub, List.cons_append, List.nil_append, List.append_nil, List.getElem?_cons_zero, List.getElem?_cons_succ, Option.some.injEq, V.int.injEq, V.bl.injEq, V.str.injEq, V.ref.injEq, V.ty.injEq, List.cons.injEq, and_true, true_and, exists_eq_left, exists_eq_left', exists_and_left, exists_and_right, decide_eq_true_eq, List.set_cons_zero, List.set_cons_succ, Bool.not_eq_true', decide_eq_false_iff_not, isi_NoneType_int, isi_NoneType_bool, isi_NoneType_tuple, isi_NoneType_str, isi_NoneType_list, isi_bool_int, isi_bool_bool, isi_bool_tuple, isi_bool_str, isi_bool_list, isi_int_int, isi_int_bool, isi_int_tuple, isi_int_str, isi_int_list, isi_str_int, isi_str_bool, isi_str_tuple, isi_str_str, isi_str_list, isi_list_int, isi_list_bool, isi_list_tuple, isi_list_str, isi_list_list, isi_tuple_int, isi_tuple_bool, isi_tuple_tuple, isi_tuple_str, isi_tuple_list, Bool.false_eq_true, if_true, if_false, reduceIte, Bool.not_true, Bool.not_false, reduceCtorEq, false_and, and_false, exists_false, exists_const, scal_int, scal_bl, scal_str, absE, ne_eq, not_true_eq_false, not_false_eq_true, Int.natCast_add, Int.cast_ofNat_Int, and_assoc, tChain3, tTupF, rTupOfF, kindOf]
      exact q H (Evl.Ex.refl H)
end
end K00
end
section
set_option Elab.async false
set_option linter.all false
set_option maxRecDepth 100000
set_option maxHeartbeats 4000000
namespace K00
open PySem PySem.Spec PyProof.Rows L2 Pour
section
variable {P : Program} {w : World} {K : PySem.W.Frag} {mg : Str → Option Value} {base : Heap}
theorem quot_len {ds : List PyData} (h : ¬ (ds.length : Int) = 2) : isQuot (.tuple ds) = false := by
  match ds, h with
  | [d1, d2], h => exact absurd rfl h
  | [], _ => rfl
  | [x], _ => cases x <;> rfl
  | x :: y :: z :: r, _ => cases x <;> cases y <;> rfl
theorem quot_a {d1 d2 : PyData} (h : isInt d1 = false) : isQuot (.tuple [d1, d2]) = false := by
  cases d1 <;> first | rfl | (simp [isInt] at h)
theorem quot_b {x : Int} {d2 : PyData} (h : isInt d2 = false) : isQuot (.tuple [.int x, d2]) = false := by
  cases d2 <;> first | rfl | (simp [isInt] at h)
theorem two {α : Type} {ds : List α} (h : ¬ ¬ (ds.length : Int) = 2) : ∃ a b, ds = [a, b] := by
  match ds, h with
  | [a, b], _ => exact ⟨a, b, rfl⟩
  | [], h => simp at h
  | [_], h => simp at h
  | _ :: _ :: _ :: _, h =>
    exfalso
    apply h
    simp only [List.length_cons]
    omega
def spQuotD : Sp := fun vs H Q _ => ∃ (p : Addr → Prop) (B : Int) (d : PyData) (v : V), vs = [v] ∧ Dt p B H d v ∧ Q (.bl (isQuot d)) H
theorem ok_is_quotient (T : Txt K mg) : Keeps P w K mg base CX0 2 d_s_is_quotient ["thing"] spQuotD := by
  obtain ⟨fd, F⟩ := f_is_quotient T
  obtain ⟨fd_common_divisor, D_common_divisor⟩ := ok_common_divisor (P := P) (w := w) (base := base) T
  obtain ⟨fd_is_integer, D_is_integer⟩ := ok_is_integer (P := P) (w := w) (base := base) T
  refine ⟨fd, F, F.ok sc_is_quotient (fun vs H Q E h => ?_) (fun cdv A outer s H vs Q E hr h => ⟨_, PSs.nox
    (pss_cons (ps_if (PW.pt (pw_or (pt_not (pt_val (pe_callB call_isi rfl (n_isinstance T) (by decide +kernel) (pa_cons (pv 0) (pa_cons (pe_bltn (v := .ty "tuple") rfl (n_tuple T) (by decide +kernel) rfl) pa_nil))))) (pw_or1 (pt_cmpR op_ne (pe_callB call_len_seq rfl (n_len T) (by decide +kernel) (pa_cons (pv 0) pa_nil)) pe_int (nomark _))))) (pss_one (ps_ret pe_bl)) pss_nil)
      (pss_cons (ps_asg (pv 0) (pg_tup rfl (pgs_cons (pg_name (i := 1) sc_is_quotient.nd rfl (Or.inl rfl)) (pgs_cons (pg_name (i := 2) sc_is_quotient.nd rfl (Or.inl rfl)) pgs_nil))))
      (pss_cons (ps_if (PW.pt (pw_or (pt_not (pt_val (pe_call D_is_integer.2 (hr.mono (by decide)) rfl (g_is_integer T) D_is_integer.1.kp (b_is_integer D_is_integer.1) .nil pass0 (pa_cons (pv 1) pa_nil)))) (pw_or (pt_not (pt_val (pe_call D_is_integer.2 (hr.mono (by decide)) rfl (g_is_integer T) D_is_integer.1.kp (b_is_integer D_is_integer.1) .nil pass0 (pa_cons (pv 2) pa_nil)))) (pw_or1 (pt_cmpR op_lt (pv 2) pe_int (nomark _)))))) (pss_one (ps_ret pe_bl)) pss_nil)
      (pss_one (ps_ret (pe_cmpR op_eq (pe_call D_common_divisor.2 (hr.mono (by decide)) rfl (g_common_divisor T) D_common_divisor.1.kp (b_common_divisor D_common_divisor.1) .nil pass0 (pa_cons (pe_callB call_abs rfl (n_abs T) (by decide +kernel) (pa_cons (pv 1) pa_nil)) (pa_cons (pv 2) pa_nil))) pe_int (nomark _))))))), ?_⟩)⟩
  · obtain ⟨p, B, d, v, rfl, _⟩ := h
    rfl
  · obtain ⟨p, B, d, v, rfl, hd, q⟩ := h
    simp only [tSeq, tAsg, gName, tRet, tRetN, tDrop, tIfS, tNext, tBreak, tCont, tTest, tB, tVar, tC, tCons, tNil, tCB, tCall, tCallK, tOp, tUn, rI0, rI, rU, rEq, rNe, tAnd, tOr, tNot, tAndV, tOrV, tNotV, tTup, tLst, tIf, gTup, gCons, gNil, tPar, tAug, ipI, gSub, L2.start, cxOf, Cx.nox, List.map_cons, List.map_nil, List.length_cons, List.length_nil, List.replicate, Nat.reduceAdd, Nat.reduceSub, List.cons_append, List.nil_append, List.append_nil, List.getElem?_cons_zero, List.getElem?_cons_succ, Option.some.injEq, V.int.injEq, V.bl.injEq, V.str.injEq, V.ref.injEq, V.ty.injEq, List.cons.injEq, and_true, true_and, exists_eq_left, exists_eq_left', exists_and_left, exists_and_right, decide_eq_true_eq, List.set_cons_zero, List.set_cons_succ, Bool.not_eq_true', decide_eq_false_iff_not, isi_NoneType_int, isi_NoneType_bool, isi_NoneType_tuple, isi_NoneType_str, isi_NoneType_list, isi_bool_int, isi_bool_bool, isi_bool_tuple, isi_bool_str, isi_bool_list, isi_int_int, isi_int_bool, isi_int_tuple, isi_int_str, isi_int_list, isi_str_int, isi_str_bool, isi_str_tuple, isi_str_str, isi_str_list, isi_list_int, isi_list_bool, isi_list_tuple, isi_list_str, isi_list_list, isi_tuple_int, isi_tuple_bool, isi_tuple_tuple, isi_tuple_str, isi_tuple_list, Bool.false_eq_true, if_true, if_false, reduceIte, Bool.not_true, Bool.not_false, reduceCtorEq, false_and, and_false, exists_false, exists_const, scal_int, scal_bl, scal_str, absE, ne_eq, not_true_eq_false, not_false_eq_true, Int.natCast_add, Int.cast_ofNat_Int, and_assoc, tChain3, tTupF, rTupOfF]
    refine hd.kn.isi (by decide) ?_
    have q2 : Q (.bl (isQuot d)) H := q
    cases d with
    | tuple ds =>
      obtain ⟨a, xs, rfl, ne, ha, hl, hs⟩ := hd
      simp only [tSeq, tAsg, gName, tRet, tRetN, tDrop, tIfS, tNext, tBreak, tCont, tTest, tB, tVar, tC, tCons, tNil, tCB, tCall, tCallK, tOp, tUn, rI0, rI, rU, rEq, rNe, tAnd, tOr, tNot, tAndV, tOrV, tNotV, tTup, tLst, tIf, gTup, gCons, gNil, tPar, tAug, ipI, gSub, L2.start, cxOf, Cx.nox, List.map_cons, List.map_nil, List.length_cons, List.length_nil, List.replicate, Nat.reduceAdd, Nat.reduceSub, List.cons_append, List.nil_append, List.append_nil, List.getElem?_cons_zero, List.getElem?_cons_succ, Option.some.injEq, V.int.injEq, V.bl.injEq, V.str.injEq, V.ref.injEq, V.ty.injEq, List.cons.injEq, and_true, true_and, exists_eq_left, exists_eq_left', exists_and_left, exists_and_right, decide_eq_true_eq, List.set_cons_zero, List.set_cons_succ, Bool.not_eq_true', decide_eq_false_iff_not, isi_NoneType_int, isi_NoneType_bool, isi_NoneType_tuple, isi_NoneType_str, isi_NoneType_list, isi_bool_int, isi_bool_bool, isi_bool_tuple, isi_bool_str, isi_bool_list, isi_int_int, isi_int_bool, isi_int_tuple, isi_int_str, isi_int_list, isi_str_int, isi_str_bool, isi_str_tuple, isi_str_str, isi_str_list, isi_list_int, isi_list_bool, isi_list_tuple, isi_list_str, isi_list_list, isi_tuple_int, isi_tuple_bool, isi_tuple_tuple, isi_tuple_str, isi_tuple_list, Bool.false_eq_true, if_true, if_false, reduceIte, Bool.not_true, Bool.not_false, reduceCtorEq, false_and, and_false, exists_false, exists_const, scal_int, scal_bl, scal_str, absE, ne_eq, not_true_eq_false, not_false_eq_true, Int.natCast_add, Int.cast_ofNat_Int, and_assoc, tChain3, tTupF, rTupOfF, kindOf]
      refine ⟨_, .inr ha.sq, ?_⟩
      rw [← hs.len]
      refine ite2 (fun h => ?_) (fun h => ?_)
      · rw [quot_len h] at q2
        exact q2
      obtain ⟨d1, d2, rfl⟩ := two h
      obtain ⟨v1, v2, rfl⟩ : ∃ u v, xs = [u, v] := by
        have := hs.len
        match xs, this with
        | [u, v], _ => exact ⟨u, v, rfl⟩
      obtain ⟨h1, h2, _⟩ := hs
      refine ⟨_, ha.sq, rfl, ?_⟩
      simp only [tSeq, tAsg, gName, tRet, tRetN, tDrop, tIfS, tNext, tBreak, tCont, tTest, tB, tVar, tC, tCons, tNil, tCB, tCall, tCallK, tOp, tUn, rI0, rI, rU, rEq, rNe, tAnd, tOr, tNot, tAndV, tOrV, tNotV, tTup, tLst, tIf, gTup, gCons, gNil, tPar, tAug, ipI, gSub, L2.start, cxOf, Cx.nox, List.map_cons, List.map_nil, List.length_cons, List.length_nil, List.replicate, Nat.reduceAdd, Nat.reduceSub, List.cons_append, List.nil_append, List.append_nil, List.getElem?_cons_zero, List.getElem?_cons_succ, Option.some.injEq, V.int.injEq, V.bl.injEq, V.str.injEq, V.ref.injEq, V.ty.injEq, List.cons.injEq, and_true, true_and, exists_eq_left, exists_eq_left', exists_and_left, exists_and_right, decide_eq_true_eq, List.set_cons_zero, List.set_cons_succ, Bool.not_eq_true', decide_eq_false_iff_not, isi_NoneType_int, isi_NoneType_bool, isi_NoneType_tuple, isi_NoneType_str, isi_NoneType_list, isi_bool_int, isi_bool_bool, isi_bool_tuple, isi_bool_str, isi_bool_list, isi_int_int, isi_int_bool, isi_int_tuple, isi_int_str, isi_int_list, isi_str_int, isi_str_bool, isi_str_tuple, isi_str_str, isi_str_list, isi_list_int, isi_list_bool, isi_list_tuple, isi_list_str, isi_list_list, isi_tuple_int, isi_tuple_bool, isi_tuple_tuple, isi_tuple_str, isi_tuple_list, Bool.false_eq_true, if_true, if_false, reduceIte, Bool.not_true, Bool.not_false, reduceCtorEq, false_and, and_false, exists_false, exists_const, scal_int, scal_bl, scal_str, absE, ne_eq, not_true_eq_false, not_false_eq_true, Int.natCast_add, Int.cast_ofNat_Int, and_assoc, tChain3, tTupF, rTupOfF]
      refine ⟨_, _, rfl, h1.kn, ?_⟩
      rw [h1.isInt]
      cases hi : isInt d1 with
      | false =>
        rw [quot_a hi] at q2
        simp only [tSeq, tAsg, gName, tRet, tRetN, tDrop, tIfS, tNext, tBreak, tCont, tTest, tB, tVar, tC, tCons, tNil, tCB, tCall, tCallK, tOp, tUn, rI0, rI, rU, rEq, rNe, tAnd, tOr, tNot, tAndV, tOrV, tNotV, tTup, tLst, tIf, gTup, gCons, gNil, tPar, tAug, ipI, gSub, L2.start, cxOf, Cx.nox, List.map_cons, List.map_nil, List.length_cons, List.length_nil, List.replicate, Nat.reduceAdd, Nat.reduceSub, List.cons_append, List.nil_append, List.append_nil, List.getElem?_cons_zero, List.getElem?_cons_succ, Option.some.injEq, V.int.injEq, V.bl.injEq, V.str.injEq, V.ref.injEq, V.ty.injEq, List.cons.injEq, and_true, true_and, exists_eq_left, exists_eq_left', exists_and_left, exists_and_right, decide_eq_true_eq, List.set_cons_zero, List.set_cons_succ, Bool.not_eq_true', decide_eq_false_iff_not, isi_NoneType_int, isi_NoneType_bool, isi_NoneType_tuple, isi_NoneType_str, isi_NoneType_list, isi_bool_int, isi_bool_bool, isi_bool_tuple, isi_bool_str, isi_bool_list, isi_int_int, isi_int_bool, isi_int_tuple, isi_int_str, isi_int_list, isi_str_int, isi_str_bool, isi_str_tuple, isi_str_str, isi_str_list, isi_list_int, isi_list_bool, isi_list_tuple, isi_list_str, isi_list_list, isi_tuple_int, isi_tuple_bool, isi_tuple_tuple, isi_tuple_str, isi_tuple_list, Bool.false_eq_true, if_true, if_false, reduceIte, Bool.not_true, Bool.not_false, reduceCtorEq, false_and, and_false, exists_false, exists_const, scal_int, scal_bl, scal_str, absE, ne_eq, not_true_eq_false, not_false_eq_true, Int.natCast_add, Int.cast_ofNat_Int, and_assoc, tChain3, tTupF, rTupOfF]
        exact q2
      | true =>
        obtain ⟨x, rfl⟩ := isInt_int hi
        obtain ⟨rfl, x0, x1⟩ := h1
        simp only [tSeq, tAsg, gName, tRet, tRetN, tDrop, tIfS, tNext, tBreak, tCont, tTest, tB, tVar, tC, tCons, tNil, tCB, tCall, tCallK, tOp, tUn, rI0, rI, rU, rEq, rNe, tAnd, tOr, tNot, tAndV, tOrV, tNotV, tTup, tLst, tIf, gTup, gCons, gNil, tPar, tAug, ipI, gSub, L2.start, cxOf, Cx.nox, List.map_cons, List.map_nil, List.length_cons, List.length_nil, List.replicate, Nat.reduceAdd, Nat.reduceSub, List.cons_append, List.nil_append, List.append_nil, List.getElem?_cons_zero, List.getElem?_cons_succ, Option.some.injEq, V.int.injEq, V.bl.injEq, V.str.injEq, V.ref.injEq, V.ty.injEq, List.cons.injEq, and_true, true_and, exists_eq_left, exists_eq_left', exists_and_left, exists_and_right, decide_eq_true_eq, List.set_cons_zero, List.set_cons_succ, Bool.not_eq_true', decide_eq_false_iff_not, isi_NoneType_int, isi_NoneType_bool, isi_NoneType_tuple, isi_NoneType_str, isi_NoneType_list, isi_bool_int, isi_bool_bool, isi_bool_tuple, isi_bool_str, isi_bool_list, isi_int_int, isi_int_bool, isi_int_tuple, isi_int_str, isi_int_list, isi_str_int, isi_str_bool, isi_str_tuple, isi_str_str, isi_str_list, isi_list_int, isi_list_bool, isi_list_tuple, isi_list_str, isi_list_list, isi_tuple_int, isi_tuple_bool, isi_tuple_tuple, isi_tuple_str, isi_tuple_list, Bool.false_eq_true, if_true, if_false, reduceIte, Bool.not_true, Bool.not_false, reduceCtorEq, false_and, and_false, exists_false, exists_const, scal_int, scal_bl, scal_str, absE, ne_eq, not_true_eq_false, not_false_eq_true, Int.natCast_add, Int.cast_ofNat_Int, and_assoc, tChain3, tTupF, rTupOfF]
        refine ⟨_, _, rfl, h2.kn, ?_⟩
        rw [h2.isInt]
        cases hi2 : isInt d2 with
        | false =>
          rw [quot_b hi2] at q2
          simp only [tSeq, tAsg, gName, tRet, tRetN, tDrop, tIfS, tNext, tBreak, tCont, tTest, tB, tVar, tC, tCons, tNil, tCB, tCall, tCallK, tOp, tUn, rI0, rI, rU, rEq, rNe, tAnd, tOr, tNot, tAndV, tOrV, tNotV, tTup, tLst, tIf, gTup, gCons, gNil, tPar, tAug, ipI, gSub, L2.start, cxOf, Cx.nox, List.map_cons, List.map_nil, List.length_cons, List.length_nil, List.replicate, Nat.reduceAdd, Nat.reduceSub, List.cons_append, List.nil_append, List.append_nil, List.getElem?_cons_zero, List.getElem?_cons_succ, Option.some.injEq, V.int.injEq, V.bl.injEq, V.str.injEq, V.ref.injEq, V.ty.injEq, List.cons.injEq, and_true, true_and, exists_eq_left, exists_eq_left', exists_and_left, exists_and_right, decide_eq_true_eq, List.set_cons_zero, List.set_cons_succ, Bool.not_eq_true', decide_eq_false_iff_not, isi_NoneType_int, isi_NoneType_bool, isi_NoneType_tuple, isi_NoneType_str, isi_NoneType_list, isi_bool_int, isi_bool_bool, isi_bool_tuple, isi_bool_str, isi_bool_list, isi_int_int, isi_int_bool, isi_int_tuple, isi_int_str, isi_int_list, isi_str_int, isi_str_bool, isi_str_tuple, isi_str_str, isi_str_list, isi_list_int, isi_list_bool, isi_list_tuple, isi_list_str, isi_list_list, isi_tuple_int, isi_tuple_bool, isi_tuple_tuple, isi_tuple_str, isi_tuple_list, Bool.false_eq_true, if_true, if_false, reduceIte, Bool.not_true, Bool.not_false, reduceCtorEq, false_and, and_false, exists_false, exists_const, scal_int, scal_bl, scal_str, absE, ne_eq, not_true_eq_false, not_false_eq_true, Int.natCast_add, Int.cast_ofNat_Int, and_assoc, tChain3, tTupF, rTupOfF]
          exact q2
        | true =>
          obtain ⟨y, rfl⟩ := isInt_int hi2
          obtain ⟨rfl, y0, y1⟩ := h2
          have q3 : Q (.bl (decide (1 ≤ y) && decide (Nat.gcd x.natAbs y.natAbs = 1))) H := q2
          simp only [tSeq, tAsg, gName, tRet, tRetN, tDrop, tIfS, tNext, tBreak, tCont, tTest, tB, tVar, tC, tCons, tNil, tCB, tCall, tCallK, tOp, tUn, rI0, rI, rU, rEq, rNe, tAnd, tOr, tNot, tAndV, tOrV, tNotV, tTup, tLst, tIf, gTup, gCons, gNil, tPar, tAug, ipI, gSub, L2.start, cxOf, Cx.nox, List.map_cons, List.map_nil, List.length_cons, List.length_nil, List.replicate, Nat.reduceAdd, Nat.reduceSub, List.cons_append, List.nil_append, List.append_nil, List.getElem?_cons_zero, List.getElem?_cons_succ, Option.some.injEq, V.int.injEq, V.bl.injEq, V.str.injEq, V.ref.injEq, V.ty.injEq, List.cons.injEq, and_true, true_and, exists_eq_left, exists_eq_left', exists_and_left, exists_and_right, decide_eq_true_eq, List.set_cons_zero, List.set_cons_succ, Bool.not_eq_true', decide_eq_false_iff_not, isi_NoneType_int, isi_NoneType_bool, isi_NoneType_tuple, isi_NoneType_str, isi_NoneType_list, isi_bool_int, isi_bool_bool, isi_bool_tuple, isi_bool_str, isi_bool_list, isi_int_int, isi_int_bool, isi_int_tuple, isi_int_str, isi_int_list, isi_str_int, isi_str_bool, isi_str_tuple, isi_str_str, isi_str_list, isi_list_int, isi_list_bool, isi_list_tuple, isi_list_str, isi_list_list, isi_tuple_int, isi_tuple_bool, isi_tuple_tuple, isi_tuple_str, isi_tuple_list, Bool.false_eq_true, if_true, if_false, reduceIte, Bool.not_true, Bool.not_false, reduceCtorEq, false_and, and_false, exists_false, exists_const, scal_int, scal_bl, scal_str, absE, ne_eq, not_true_eq_false, not_false_eq_true, Int.natCast_add, Int.cast_ofNat_Int, and_assoc, tChain3, tTupF, rTupOfF]
          refine ite2 (fun h => ?_) (fun h => ?_)
          · rw [decide_eq_false (by omega), Bool.false_and] at q3
            exact q3
          rw [decide_eq_true (show 1 ≤ y by omega), Bool.true_and] at q3
          refine ⟨x.natAbs, y.natAbs, by rw [show ((y.natAbs : Nat) : Int) = y by omega], ?_⟩
          simp only [tSeq, tAsg, gName, tRet, tRetN, tDrop, tIfS, tNext, tBreak, tCont, tTest, tB, tVar, tC, tCons, tNil, tCB, tCall, tCallK, tOp, tUn, rI0, rI, rU, rEq, rNe, tAnd, tOr, tNot, tAndV, tOrV, tNotV, tTup, tLst, tIf, gTup, gCons, gNil, tPar, tAug, ipI, gSub, L2.start, cxOf, Cx.nox, List.map_cons, List.map_nil, List.length_cons, List.length_nil, List.replicate, Nat.reduceAdd, Nat.reduceSub, List.cons_append, List.nil_append, List.append_nil, List.getElem?_cons_zero, List.getElem?_cons_succ, Option.some.injEq, V.int.injEq, V.bl.injEq, V.str.injEq, V.ref.injEq, V.ty.injEq, List.cons.injEq, and_true, true_and, exists_eq_left, exists_eq_left', exists_and_left, exists_and_right, decide_eq_true_eq, List.set_cons_zero, List.set_cons_succ, Bool.not_eq_true', decide_eq_false_iff_not, isi_NoneType_int, isi_NoneType_bool, isi_NoneType_tuple, isi_NoneType_str, isi_NoneType_list, isi_bool_int, isi_bool_bool, isi_bool_tuple, isi_bool_str, isi_bool_list, isi_int_int, isi_int_bool, isi_int_tuple, isi_int_str, isi_int_list, isi_str_int, isi_str_bool, isi_str_tuple, isi_str_str, isi_str_list, isi_list_int, isi_list_bool, isi_list_tuple, isi_list_str, isi_list_list, isi_tuple_int, isi_tuple_bool, isi_tuple_tuple, isi_tuple_str, isi_tuple_list, Bool.false_eq_true, if_true, if_false, reduceIte, Bool.not_true, Bool.not_false, reduceCtorEq, false_and, and_false, exists_false, exists_const, scal_int, scal_bl, scal_str, absE, ne_eq, not_true_eq_false, not_false_eq_true, Int.natCast_add, Int.cast_ofNat_Int, and_assoc, tChain3, tTupF, rTupOfF]
          refine cast (congrArg (fun b => Q (.bl b) H) (decide_eq_decide.mpr ?_)) q3
          omega
    | _ =>
      simp only [tSeq, tAsg, gName, tRet, tRetN, tDrop, tIfS, tNext, tBreak, tCont, tTest, tB, tVar, tC, tCons, tNil, tCB, tCall, tCallK, tOp, tUn, rI0, rI, rU, rEq, rNe, tAnd, tOr, tNot, tAndV, tOrV, tNotV, tTup, tLst, tIf, gTup, gCons, gNil, tPar, tAug, ipI, gSub, L2.start, cxOf, Cx.nox, List.map_cons, List.map_nil, List.length_cons, List.length_nil, List.replicate, Nat.reduceAdd, Nat.reduceSub, List.cons_append, List.nil_append, List.append_nil, List.getElem?_cons_zero, List.getElem?_cons_succ, Option.some.injEq, V.int.injEq, V.bl.injEq, V.str.injEq, V.ref.injEq, V.ty.injEq, List.cons.injEq, and_true, true_and, exists_eq_left, exists_eq_left', exists_and_left, exists_and_right, decide_eq_true_eq, List.set_cons_zero, List.set_cons_succ, Bool.not_eq_true', decide_eq_false_iff_not, isi_NoneType_int, isi_NoneType_bool, isi_NoneType_tuple, isi_NoneType_str, isi_NoneType_list, isi_bool_int, isi_bool_bool, isi_bool_tuple, isi_bool_str, isi_bool_list, isi_int_int, isi_int_bool, isi_int_tuple, isi_int_str, isi_int_list, isi_str_int, isi_str_bool, isi_str_tuple, isi_str_str, isi_str_list, isi_list_int, isi_list_bool, isi_list_tuple, isi_list_str, isi_list_list, isi_tuple_int, isi_tuple_bool, isi_tuple_tuple, isi_tuple_str, isi_tuple_list, Bool.false_eq_true, if_true, if_false, reduceIte, Bool.not_true, Bool.not_false, reduceCtorEq, false_and, and_false, exists_false, exists_const, scal_int, scal_bl, scal_str, absE, ne_eq, not_true_eq_false, not_false_eq_true, Int.natCast_add, Int.cast_ofNat_Int, and_assoc, tChain3, tTupF, rTupOfF, kindOf]
      exact q
theorem web_len {ds : List PyData} (h : ¬ (ds.length : Int) = 2) : isWeb (.tuple ds) = false := by
  match ds, h with
  | [d1, d2], h => exact absurd rfl h
  | [], _ => rfl
  | [x], _ => cases x <;> rfl
  | x :: y :: z :: r, _ => cases x <;> cases y <;> rfl
theorem web_int {d1 d2 : PyData} (h : isInt d1 = false) : isWeb (.tuple [d1, d2]) = false := by
  cases d1 <;> first | rfl | (simp [isInt] at h)
theorem web_low {n : Int} {d2 : PyData} (h : n < 1) : isWeb (.tuple [.int n, d2]) = false := by
  cases d2 <;> first | rfl | skip
  show (decide (1 ≤ n) && _) = false
  rw [decide_eq_false (by omega), Bool.false_and]
theorem three {α : Type} {ds : List α} (h : ¬ ¬ (ds.length : Int) = 3) : ∃ a b c, ds = [a, b, c] := by
  match ds, h with
  | [a, b, c], _ => exact ⟨a, b, c, rfl⟩
  | [], h => simp at h
  | [_], h => simp at h
  | [_, _], h => simp at h
  | _ :: _ :: _ :: _ :: _, h =>
    exfalso
    apply h
    simp only [List.length_cons]
    omega
theorem line_len {n : Int} {ds : List PyData} (h : ¬ (ds.length : Int) = 3) : lineOk n (.tuple ds) = false := by
  match ds, h with
  | [a, b, c], h => exact absurd rfl h
  | [], _ => rfl
  | [x], _ => cases x <;> rfl
  | [x, y], _ => cases x <;> cases y <;> rfl
  | x :: y :: z :: u :: r, _ => cases x <;> cases y <;> cases z <;> rfl
theorem line_a {n : Int} {a b c : PyData} (h : isNum a = false) : lineOk n (.tuple [a, b, c]) = false := by
  cases a <;> first | rfl | skip
  cases b <;> first | rfl | skip
  cases c <;> first | rfl | skip
  simp only [isNum] at h
  simp [lineOk, h]
theorem line_b {n : Int} {a b c : PyData} (h : isNum b = false) : lineOk n (.tuple [a, b, c]) = false := by
  cases a <;> first | rfl | skip
  cases b <;> first | rfl | skip
  cases c <;> first | rfl | skip
  rename_i x y z
  have hy : ¬ 0 ≤ y := by simpa [isNum] using h
  simp only [lineOk]
  by_cases h1 : 0 ≤ x
  · rw [decide_eq_false (show ¬ x < y by omega)]
    simp
  · rw [decide_eq_false h1]
    simp
theorem line_c {n : Int} {a b c : PyData} (h : isNum c = false) : lineOk n (.tuple [a, b, c]) = false := by
  cases a <;> first | rfl | skip
  cases b <;> first | rfl | skip
  cases c <;> first | rfl | skip
  rename_i x y z
  have hz : ¬ 0 ≤ z := by simpa [isNum] using h
  simp only [lineOk]
  rw [decide_eq_false (show ¬ 1 ≤ z by omega)]
  simp
/-- a web as the law makes it: its number and its rooms -/
def NetIs (H : Hp) (v : V) (n : Int) (rows : List (Int × Int × Int)) : Prop := ∃ (a l : Addr) (rs : List V), v = .ref a ∧ TupN H a [.int n, .ref l] ∧ TupN H l rs ∧ rs.length = rows.length ∧
  ∀ (i : Nat) (x : Int × Int × Int), rows[i]? = some x → ∃ t : Addr, rs[i]? = some (V.ref t) ∧ TupN H t [.int x.1, .int x.2.1, .int x.2.2]
def spSplit : Sp := fun vs H Q _ => ∃ (p : Addr → Prop) (B : Int) (d : PyData) (u v : V) (n : Int) (rows : List (Int × Int × Int)), vs = [u, v] ∧ NetIs H u n rows ∧ Dt p B H d v ∧ ∀ H', Evl.Ex H H' → Q (.bl (isSplit (rows.map (·.2.2)) d)) H'
theorem split_len : ∀ (rs : List Int) (ds : List PyData), rs.length ≠ ds.length → splitFrom rs ds = false
  | [], [], h => absurd rfl h
  | [], d :: ds, _ => rfl
  | r :: rs, [], _ => rfl
  | r :: rs, d :: ds, h => by
    have ih := split_len rs ds (fun e => h (by simp [e]))
    cases d <;> first | rfl | skip
    simp only [splitFrom, ih, Bool.and_false]
theorem split_cons (r : Int) (rs : List Int) (d : PyData) (ds : List PyData) : splitFrom (r :: rs) (d :: ds) = (isNum d && ((match d with | .int x => decide (x ≤ r) | _ => false) && splitFrom rs ds)) := by
  cases d <;> simp [splitFrom, isNum]
theorem ok_is_split (T : Txt K mg) : Keeps P w K mg base CX0 3 d_s_is_split ["web", "thing"] spSplit := by
  obtain ⟨fd, F⟩ := f_is_split T
  obtain ⟨fd_is_number, D_is_number⟩ := ok_is_number (P := P) (w := w) (base := base) T
  refine ⟨fd, F, F.ok sc_is_split (fun vs H Q E h => ?_) (fun cdv A outer s H vs Q E hr h => ⟨_, PSs.nox
    (pss_cons (ps_set (i := 2) sc_is_split.nd rfl (Or.inl rfl) (pe_ix ix_tup (pv 0) pe_int (fun _ _ => rfl)))
      (pss_cons (ps_if (PW.pt (pw_or (pt_not (pt_val (pe_callB call_isi rfl (n_isinstance T) (by decide +kernel) (pa_cons (pv 1) (pa_cons (pe_bltn (v := .ty "tuple") rfl (n_tuple T) (by decide +kernel) rfl) pa_nil))))) (pw_or1 (pt_cmpR op_ne (pe_callB call_len_seq rfl (n_len T) (by decide +kernel) (pa_cons (pv 1) pa_nil)) (pe_callB call_len_seq rfl (n_len T) (by decide +kernel) (pa_cons (pv 2) pa_nil)) (nomark _))))) (pss_one (ps_ret pe_bl)) pss_nil)
      (pss_cons (ps_for PassesOwn.never rfl (RZ.pi_zipA rfl (n_zip T) (pa_cons (pv 2) (pa_cons (pv 1) pa_nil))) (pg_tup rfl (pgs_cons (pg_name (i := 3) sc_is_split.nd rfl (Or.inl rfl)) (pgs_cons (pg_name (i := 4) sc_is_split.nd rfl (Or.inl rfl)) pgs_nil))) (pss_one (ps_if (PW.pt (pw_or (pt_not (pt_val (pe_call D_is_number.2 (hr.mono (by decide)) rfl (g_is_number T) D_is_number.1.kp (b_is_number D_is_number.1) .nil pass0 (pa_cons (pv 4) pa_nil)))) (pw_or1 (pt_cmpR op_gt (pv 4) (pe_ix ix_tup (pv 3) pe_int (fun _ _ => rfl)) (nomark _))))) (pss_one (ps_ret pe_bl)) pss_nil)))
      (pss_one (ps_ret pe_bl))))), ?_⟩)⟩
  · obtain ⟨p, B, d, u, v, n, rows, rfl, _⟩ := h
    rfl
  · obtain ⟨p, B, d, u, v, n, rows, rfl, ⟨wa, wl, rs, rfl, hwa, hwl, hrl, hrs⟩, hd, q⟩ := h
    simp only [tSeq, tAsg, gName, tRet, tRetN, tDrop, tIfS, tNext, tBreak, tCont, tTest, tB, tVar, tC, tCons, tNil, tCB, tCall, tCallK, tOp, tUn, rI0, rI, rU, rEq, rNe, tAnd, tOr, tNot, tAndV, tOrV, tNotV, tTup, tLst, tIf, gTup, gCons, gNil, tPar, tAug, ipI, gSub, L2.start, cxOf, Cx.nox, List.map_cons, List.map_nil, List.length_cons, List.length_nil, List.replicate, Nat.reduceAdd, Nat.reduceSub, List.cons_append, List.nil_append, List.append_nil, List.getElem?_cons_zero, List.getElem?_cons_succ, Option.some.injEq, V.int.injEq, V.bl.injEq, V.str.injEq, V.ref.injEq, V.ty.injEq, List.cons.injEq, and_true, true_and, exists_eq_left, exists_eq_left', exists_and_left, exists_and_right, decide_eq_true_eq, List.set_cons_zero, List.set_cons_succ, Bool.not_eq_true', decide_eq_false_iff_not, isi_NoneType_int, isi_NoneType_bool, isi_NoneType_tuple, isi_NoneType_str, isi_NoneType_list, isi_bool_int, isi_bool_bool, isi_bool_tuple, isi_bool_str, isi_bool_list, isi_int_int, isi_int_bool, isi_int_tuple, isi_int_str, isi_int_list, isi_str_int, isi_str_bool, isi_str_tuple, isi_str_str, isi_str_list, isi_list_int, isi_list_bool, isi_list_tuple, isi_list_str, isi_list_list, isi_tuple_int, isi_tuple_bool, isi_tuple_tuple, isi_tuple_str, isi_tuple_list, Bool.false_eq_true, if_true, if_false, reduceIte, Bool.not_true, Bool.not_false, reduceCtorEq, false_and, and_false, exists_false, exists_const, scal_int, scal_bl, scal_str, absE, ne_eq, not_true_eq_false, not_false_eq_true, Int.natCast_add, Int.cast_ofNat_Int, and_assoc, tChain3, tTupF, rTupOfF, rIxT]
    refine ⟨_, TupN.sq hwa, _, rfl, ?_⟩
    refine hd.kn.isi (by decide) ?_
    cases d with
    | tuple ds =>
      obtain ⟨a, xs, rfl, ne, ha, hl, hs⟩ := hd
      simp only [tSeq, tAsg, gName, tRet, tRetN, tDrop, tIfS, tNext, tBreak, tCont, tTest, tB, tVar, tC, tCons, tNil, tCB, tCall, tCallK, tOp, tUn, rI0, rI, rU, rEq, rNe, tAnd, tOr, tNot, tAndV, tOrV, tNotV, tTup, tLst, tIf, gTup, gCons, gNil, tPar, tAug, ipI, gSub, L2.start, cxOf, Cx.nox, List.map_cons, List.map_nil, List.length_cons, List.length_nil, List.replicate, Nat.reduceAdd, Nat.reduceSub, List.cons_append, List.nil_append, List.append_nil, List.getElem?_cons_zero, List.getElem?_cons_succ, Option.some.injEq, V.int.injEq, V.bl.injEq, V.str.injEq, V.ref.injEq, V.ty.injEq, List.cons.injEq, and_true, true_and, exists_eq_left, exists_eq_left', exists_and_left, exists_and_right, decide_eq_true_eq, List.set_cons_zero, List.set_cons_succ, Bool.not_eq_true', decide_eq_false_iff_not, isi_NoneType_int, isi_NoneType_bool, isi_NoneType_tuple, isi_NoneType_str, isi_NoneType_list, isi_bool_int, isi_bool_bool, isi_bool_tuple, isi_bool_str, isi_bool_list, isi_int_int, isi_int_bool, isi_int_tuple, isi_int_str, isi_int_list, isi_str_int, isi_str_bool, isi_str_tuple, isi_str_str, isi_str_list, isi_list_int, isi_list_bool, isi_list_tuple, isi_list_str, isi_list_list, isi_tuple_int, isi_tuple_bool, isi_tuple_tuple, isi_tuple_str, isi_tuple_list, Bool.false_eq_true, if_true, if_false, reduceIte, Bool.not_true, Bool.not_false, reduceCtorEq, false_and, and_false, exists_false, exists_const, scal_int, scal_bl, scal_str, absE, ne_eq, not_true_eq_false, not_false_eq_true, Int.natCast_add, Int.cast_ofNat_Int, and_assoc, tChain3, tTupF, rTupOfF, kindOf]
      refine ⟨_, .inr (TupN.sq ha), _, .inr (TupN.sq hwl), ?_⟩
      rw [hrl, ← hs.len]
      have q2 : ∀ H', Evl.Ex H H' → Q (.bl (splitFrom (rows.map (·.2.2)) ds)) H' := q
      refine ite2 (fun h => ?_) (fun h => ?_)
      · have q3 := q2 H (Evl.Ex.refl H)
        rw [split_len _ _ (by rw [List.length_map]; omega)] at q3
        exact q3
      have h : (ds.length : Int) = rows.length := Classical.not_not.mp h
      have hlen : rs.length = xs.length := by rw [hrl, ← hs.len]; omega
      refine ⟨_, rfl, _, rfl, wl, a, rs, xs, rfl, .inr ⟨TupN.sq hwl, TupN.sq ha, RZ.for_zipT (K := K) (a := wl) (b := a) (xs := rs) (ys := xs) hlen (fun i σ' H' => Evl.Ex H H' ∧ ∃ (x2 x3 x4 : Option V), σ' = [some (.ref wa), some (.ref a), some (.ref wl), x3, x4] ∧
        splitFrom ((rows.drop i).map (·.2.2)) (ds.drop i) = splitFrom (rows.map (·.2.2)) ds) ?_ ?_ ?_ ?_⟩⟩
      · exact ⟨Evl.Ex.refl _, none, none, none, rfl, rfl⟩
      · rintro i σ' H' ⟨e, _⟩
        exact ⟨(hwl.ex e).sq, (ha.ex e).sq⟩
      · rintro i x y Tt σ' H' hx hy ⟨e1, x2, x3, x4, rfl, hj⟩ hT
        have hT2 : upd H' Tt (HO.tup [x, y]) Tt = some (HO.tup [x, y]) := upd_same
        have e12 := e1.trans (Evl.Ex.new (o := HO.tup [x, y]) hT)
        generalize upd H' Tt (HO.tup [x, y]) = H2 at *
        obtain ⟨e, he, hde⟩ := hs.get hy
        have lt := (List.getElem?_eq_some_iff.mp hy).1
        obtain ⟨⟨r1, r2, r3⟩, hr⟩ : ∃ r, rows[i]? = some r := ⟨_, List.getElem?_eq_getElem (by omega)⟩
        obtain ⟨t, ht, htt⟩ := hrs i _ hr
        rw [hx] at ht
        cases ht
        have hde2 := Dt.mono (Int.le_refl B) (fun b o _ hb => e12 b o hb) e y hde
        rw [drop_cons he, drop_cons hr, List.map_cons, split_cons] at hj
        have q3 : Q (.bl (splitFrom (rows.map (·.2.2)) ds)) H2 := q2 H2 e12
        rw [← hj] at q3
        simp only [tSeq, tAsg, gName, tRet, tRetN, tDrop, tIfS, tNext, tBreak, tCont, tTest, tB, tVar, tC, tCons, tNil, tCB, tCall, tCallK, tOp, tUn, rI0, rI, rU, rEq, rNe, tAnd, tOr, tNot, tAndV, tOrV, tNotV, tTup, tLst, tIf, gTup, gCons, gNil, tPar, tAug, ipI, gSub, L2.start, cxOf, Cx.nox, List.map_cons, List.map_nil, List.length_cons, List.length_nil, List.replicate, Nat.reduceAdd, Nat.reduceSub, List.cons_append, List.nil_append, List.append_nil, List.getElem?_cons_zero, List.getElem?_cons_succ, Option.some.injEq, V.int.injEq, V.bl.injEq, V.str.injEq, V.ref.injEq, V.ty.injEq, List.cons.injEq, and_true, true_and, exists_eq_left, exists_eq_left', exists_and_left, exists_and_right, decide_eq_true_eq, List.set_cons_zero, List.set_cons_succ, Bool.not_eq_true', decide_eq_false_iff_not, isi_NoneType_int, isi_NoneType_bool, isi_NoneType_tuple, isi_NoneType_str, isi_NoneType_list, isi_bool_int, isi_bool_bool, isi_bool_tuple, isi_bool_str, isi_bool_list, isi_int_int, isi_int_bool, isi_int_tuple, isi_int_str, isi_int_list, isi_str_int, isi_str_bool, isi_str_tuple, isi_str_str, isi_str_list, isi_list_int, isi_list_bool, isi_list_tuple, isi_list_str, isi_list_list, isi_tuple_int, isi_tuple_bool, isi_tuple_tuple, isi_tuple_str, isi_tuple_list, Bool.false_eq_true, if_true, if_false, reduceIte, Bool.not_true, Bool.not_false, reduceCtorEq, false_and, and_false, exists_false, exists_const, scal_int, scal_bl, scal_str, absE, ne_eq, not_true_eq_false, not_false_eq_true, Int.natCast_add, Int.cast_ofNat_Int, and_assoc, tChain3, tTupF, rTupOfF, rIxT]
        refine ⟨_, SqT.of hT2, rfl, ?_⟩
        simp only [tSeq, tAsg, gName, tRet, tRetN, tDrop, tIfS, tNext, tBreak, tCont, tTest, tB, tVar, tC, tCons, tNil, tCB, tCall, tCallK, tOp, tUn, rI0, rI, rU, rEq, rNe, tAnd, tOr, tNot, tAndV, tOrV, tNotV, tTup, tLst, tIf, gTup, gCons, gNil, tPar, tAug, ipI, gSub, L2.start, cxOf, Cx.nox, List.map_cons, List.map_nil, List.length_cons, List.length_nil, List.replicate, Nat.reduceAdd, Nat.reduceSub, List.cons_append, List.nil_append, List.append_nil, List.getElem?_cons_zero, List.getElem?_cons_succ, Option.some.injEq, V.int.injEq, V.bl.injEq, V.str.injEq, V.ref.injEq, V.ty.injEq, List.cons.injEq, and_true, true_and, exists_eq_left, exists_eq_left', exists_and_left, exists_and_right, decide_eq_true_eq, List.set_cons_zero, List.set_cons_succ, Bool.not_eq_true', decide_eq_false_iff_not, isi_NoneType_int, isi_NoneType_bool, isi_NoneType_tuple, isi_NoneType_str, isi_NoneType_list, isi_bool_int, isi_bool_bool, isi_bool_tuple, isi_bool_str, isi_bool_list, isi_int_int, isi_int_bool, isi_int_tuple, isi_int_str, isi_int_list, isi_str_int, isi_str_bool, isi_str_tuple, isi_str_str, isi_str_list, isi_list_int, isi_list_bool, isi_list_tuple, isi_list_str, isi_list_list, isi_tuple_int, isi_tuple_bool, isi_tuple_tuple, isi_tuple_str, isi_tuple_list, Bool.false_eq_true, if_true, if_false, reduceIte, Bool.not_true, Bool.not_false, reduceCtorEq, false_and, and_false, exists_false, exists_const, scal_int, scal_bl, scal_str, absE, ne_eq, not_true_eq_false, not_false_eq_true, Int.natCast_add, Int.cast_ofNat_Int, and_assoc, tChain3, tTupF, rTupOfF, rIxT]
        refine ⟨_, _, rfl, hde2.kn, ?_⟩
        rw [hde2.isNum]
        cases hi : isNum e with
        | false =>
          rw [hi, Bool.false_and] at q3
          simp only [tSeq, tAsg, gName, tRet, tRetN, tDrop, tIfS, tNext, tBreak, tCont, tTest, tB, tVar, tC, tCons, tNil, tCB, tCall, tCallK, tOp, tUn, rI0, rI, rU, rEq, rNe, tAnd, tOr, tNot, tAndV, tOrV, tNotV, tTup, tLst, tIf, gTup, gCons, gNil, tPar, tAug, ipI, gSub, L2.start, cxOf, Cx.nox, List.map_cons, List.map_nil, List.length_cons, List.length_nil, List.replicate, Nat.reduceAdd, Nat.reduceSub, List.cons_append, List.nil_append, List.append_nil, List.getElem?_cons_zero, List.getElem?_cons_succ, Option.some.injEq, V.int.injEq, V.bl.injEq, V.str.injEq, V.ref.injEq, V.ty.injEq, List.cons.injEq, and_true, true_and, exists_eq_left, exists_eq_left', exists_and_left, exists_and_right, decide_eq_true_eq, List.set_cons_zero, List.set_cons_succ, Bool.not_eq_true', decide_eq_false_iff_not, isi_NoneType_int, isi_NoneType_bool, isi_NoneType_tuple, isi_NoneType_str, isi_NoneType_list, isi_bool_int, isi_bool_bool, isi_bool_tuple, isi_bool_str, isi_bool_list, isi_int_int, isi_int_bool, isi_int_tuple, isi_int_str, isi_int_list, isi_str_int, isi_str_bool, isi_str_tuple, isi_str_str, isi_str_list, isi_list_int, isi_list_bool, isi_list_tuple, isi_list_str, isi_list_list, isi_tuple_int, isi_tuple_bool, isi_tuple_tuple, isi_tuple_str, isi_tuple_list, Bool.false_eq_true, if_true, if_false, reduceIte, Bool.not_true, Bool.not_false, reduceCtorEq, false_and, and_false, exists_false, exists_const, scal_int, scal_bl, scal_str, absE, ne_eq, not_true_eq_false, not_false_eq_true, Int.natCast_add, Int.cast_ofNat_Int, and_assoc, tChain3, tTupF, rTupOfF]
          exact q3
        | true =>
          obtain ⟨z, rfl, z0⟩ := isNum_int hi
          obtain ⟨rfl, _⟩ := hde2
          rw [hi, Bool.true_and] at q3 hj
          simp only at q3 hj
          simp only [tSeq, tAsg, gName, tRet, tRetN, tDrop, tIfS, tNext, tBreak, tCont, tTest, tB, tVar, tC, tCons, tNil, tCB, tCall, tCallK, tOp, tUn, rI0, rI, rU, rEq, rNe, tAnd, tOr, tNot, tAndV, tOrV, tNotV, tTup, tLst, tIf, gTup, gCons, gNil, tPar, tAug, ipI, gSub, L2.start, cxOf, Cx.nox, List.map_cons, List.map_nil, List.length_cons, List.length_nil, List.replicate, Nat.reduceAdd, Nat.reduceSub, List.cons_append, List.nil_append, List.append_nil, List.getElem?_cons_zero, List.getElem?_cons_succ, Option.some.injEq, V.int.injEq, V.bl.injEq, V.str.injEq, V.ref.injEq, V.ty.injEq, List.cons.injEq, and_true, true_and, exists_eq_left, exists_eq_left', exists_and_left, exists_and_right, decide_eq_true_eq, List.set_cons_zero, List.set_cons_succ, Bool.not_eq_true', decide_eq_false_iff_not, isi_NoneType_int, isi_NoneType_bool, isi_NoneType_tuple, isi_NoneType_str, isi_NoneType_list, isi_bool_int, isi_bool_bool, isi_bool_tuple, isi_bool_str, isi_bool_list, isi_int_int, isi_int_bool, isi_int_tuple, isi_int_str, isi_int_list, isi_str_int, isi_str_bool, isi_str_tuple, isi_str_str, isi_str_list, isi_list_int, isi_list_bool, isi_list_tuple, isi_list_str, isi_list_list, isi_tuple_int, isi_tuple_bool, isi_tuple_tuple, isi_tuple_str, isi_tuple_list, Bool.false_eq_true, if_true, if_false, reduceIte, Bool.not_true, Bool.not_false, reduceCtorEq, false_and, and_false, exists_false, exists_const, scal_int, scal_bl, scal_str, absE, ne_eq, not_true_eq_false, not_false_eq_true, Int.natCast_add, Int.cast_ofNat_Int, and_assoc, tChain3, tTupF, rTupOfF, rIxT]
          refine ⟨_, (htt.ex e12).sq, _, rfl, r3, rfl, ?_⟩
          refine ite2 (fun h => ?_) (fun h => ?_)
          · rw [decide_eq_false (show ¬ z ≤ r3 by omega), Bool.false_and] at q3
            exact q3
          · rw [decide_eq_true (show z ≤ r3 by omega), Bool.true_and] at hj
            exact ⟨e12, hj⟩
      · rintro σ' H' ⟨e, x2, x3, x4, rfl, hj⟩
        simp only [tSeq, tAsg, gName, tRet, tRetN, tDrop, tIfS, tNext, tBreak, tCont, tTest, tB, tVar, tC, tCons, tNil, tCB, tCall, tCallK, tOp, tUn, rI0, rI, rU, rEq, rNe, tAnd, tOr, tNot, tAndV, tOrV, tNotV, tTup, tLst, tIf, gTup, gCons, gNil, tPar, tAug, ipI, gSub, L2.start, cxOf, Cx.nox, List.map_cons, List.map_nil, List.length_cons, List.length_nil, List.replicate, Nat.reduceAdd, Nat.reduceSub, List.cons_append, List.nil_append, List.append_nil, List.getElem?_cons_zero, List.getElem?_cons_succ, Option.some.injEq, V.int.injEq, V.bl.injEq, V.str.injEq, V.ref.injEq, V.ty.injEq, List.cons.injEq, and_true, true_and, exists_eq_left, exists_eq_left', exists_and_left, exists_and_right, decide_eq_true_eq, List.set_cons_zero, List.set_cons_succ, Bool.not_eq_true', decide_eq_false_iff_not, isi_NoneType_int, isi_NoneType_bool, isi_NoneType_tuple, isi_NoneType_str, isi_NoneType_list, isi_bool_int, isi_bool_bool, isi_bool_tuple, isi_bool_str, isi_bool_list, isi_int_int, isi_int_bool, isi_int_tuple, isi_int_str, isi_int_list, isi_str_int, isi_str_bool, isi_str_tuple, isi_str_str, isi_str_list, isi_list_int, isi_list_bool, isi_list_tuple, isi_list_str, isi_list_list, isi_tuple_int, isi_tuple_bool, isi_tuple_tuple, isi_tuple_str, isi_tuple_list, Bool.false_eq_true, if_true, if_false, reduceIte, Bool.not_true, Bool.not_false, reduceCtorEq, false_and, and_false, exists_false, exists_const, scal_int, scal_bl, scal_str, absE, ne_eq, not_true_eq_false, not_false_eq_true, Int.natCast_add, Int.cast_ofNat_Int, and_assoc, tChain3, tTupF, rTupOfF]
        rw [hrl, List.drop_length, show rows.length = ds.length by omega, List.drop_length] at hj
        have q3 := q2 H' e
        rw [← hj] at q3
        exact q3
    | _ =>
      simp only [tSeq, tAsg, gName, tRet, tRetN, tDrop, tIfS, tNext, tBreak, tCont, tTest, tB, tVar, tC, tCons, tNil, tCB, tCall, tCallK, tOp, tUn, rI0, rI, rU, rEq, rNe, tAnd, tOr, tNot, tAndV, tOrV, tNotV, tTup, tLst, tIf, gTup, gCons, gNil, tPar, tAug, ipI, gSub, L2.start, cxOf, Cx.nox, List.map_cons, List.map_nil, List.length_cons, List.length_nil, List.replicate, Nat.reduceAdd, Nat.reduceSub, List.cons_append, List.nil_append, List.append_nil, List.getElem?_cons_zero, List.getElem?_cons_succ, Option.some.injEq, V.int.injEq, V.bl.injEq, V.str.injEq, V.ref.injEq, V.ty.injEq, List.cons.injEq, and_true, true_and, exists_eq_left, exists_eq_left', exists_and_left, exists_and_right, decide_eq_true_eq, List.set_cons_zero, List.set_cons_succ, Bool.not_eq_true', decide_eq_false_iff_not, isi_NoneType_int, isi_NoneType_bool, isi_NoneType_tuple, isi_NoneType_str, isi_NoneType_list, isi_bool_int, isi_bool_bool, isi_bool_tuple, isi_bool_str, isi_bool_list, isi_int_int, isi_int_bool, isi_int_tuple, isi_int_str, isi_int_list, isi_str_int, isi_str_bool, isi_str_tuple, isi_str_str, isi_str_list, isi_list_int, isi_list_bool, isi_list_tuple, isi_list_str, isi_list_list, isi_tuple_int, isi_tuple_bool, isi_tuple_tuple, isi_tuple_str, isi_tuple_list, Bool.false_eq_true, if_true, if_false, reduceIte, Bool.not_true, Bool.not_false, reduceCtorEq, false_and, and_false, exists_false, exists_const, scal_int, scal_bl, scal_str, absE, ne_eq, not_true_eq_false, not_false_eq_true, Int.natCast_add, Int.cast_ofNat_Int, and_assoc, tChain3, tTupF, rTupOfF, kindOf]
      exact q H (Evl.Ex.refl H)
def spWeb : Sp := fun vs H Q _ => ∃ (p : Addr → Prop) (B : Int) (d : PyData) (v : V), vs = [v] ∧ Dt p B H d v ∧ Q (.bl (isWeb d)) H
theorem ok_is_web (T : Txt K mg) : Keeps P w K mg base CX0 3 d_s_is_web ["thing"] spWeb := by
  obtain ⟨fd, F⟩ := f_is_web T
  obtain ⟨fd_is_integer, D_is_integer⟩ := ok_is_integer (P := P) (w := w) (base := base) T
  obtain ⟨fd_is_number, D_is_number⟩ := ok_is_number (P := P) (w := w) (base := base) T
  refine ⟨fd, F, F.ok sc_is_web (fun vs H Q E h => ?_) (fun cdv A outer s H vs Q E hr h => ⟨_, PSs.nox
    (pss_cons (ps_if (PW.pt (pw_or (pt_not (pt_val (pe_callB call_isi rfl (n_isinstance T) (by decide +kernel) (pa_cons (pv 0) (pa_cons (pe_bltn (v := .ty "tuple") rfl (n_tuple T) (by decide +kernel) rfl) pa_nil))))) (pw_or1 (pt_cmpR op_ne (pe_callB call_len_seq rfl (n_len T) (by decide +kernel) (pa_cons (pv 0) pa_nil)) pe_int (nomark _))))) (pss_one (ps_ret pe_bl)) pss_nil)
      (pss_cons (ps_asg (pv 0) (pg_tup rfl (pgs_cons (pg_name (i := 1) sc_is_web.nd rfl (Or.inl rfl)) (pgs_cons (pg_name (i := 2) sc_is_web.nd rfl (Or.inl rfl)) pgs_nil))))
      (pss_cons (ps_if (PW.pt (pw_or (pt_not (pt_val (pe_call D_is_integer.2 (hr.mono (by decide)) rfl (g_is_integer T) D_is_integer.1.kp (b_is_integer D_is_integer.1) .nil pass0 (pa_cons (pv 1) pa_nil)))) (pw_or (pt_cmpR op_lt (pv 1) pe_int (nomark _)) (pw_or1 (pt_not (pt_val (pe_callB call_isi rfl (n_isinstance T) (by decide +kernel) (pa_cons (pv 2) (pa_cons (pe_bltn (v := .ty "tuple") rfl (n_tuple T) (by decide +kernel) rfl) pa_nil))))))))) (pss_one (ps_ret pe_bl)) pss_nil)
      (pss_cons (ps_for PassesOwn.never rfl (pi_tup (pv 2)) (pg_name (i := 3) sc_is_web.nd rfl (Or.inl rfl)) (pss_cons (ps_if (PW.pt (pw_or (pt_not (pt_val (pe_callB call_isi rfl (n_isinstance T) (by decide +kernel) (pa_cons (pv 3) (pa_cons (pe_bltn (v := .ty "tuple") rfl (n_tuple T) (by decide +kernel) rfl) pa_nil))))) (pw_or1 (pt_cmpR op_ne (pe_callB call_len_seq rfl (n_len T) (by decide +kernel) (pa_cons (pv 3) pa_nil)) pe_int (nomark _))))) (pss_one (ps_ret pe_bl)) pss_nil)
      (pss_cons (ps_asg (pv 3) (pg_tup rfl (pgs_cons (pg_name (i := 4) sc_is_web.nd rfl (Or.inl rfl)) (pgs_cons (pg_name (i := 5) sc_is_web.nd rfl (Or.inl rfl)) (pgs_cons (pg_name (i := 6) sc_is_web.nd rfl (Or.inl rfl)) pgs_nil)))))
      (pss_cons (ps_if (PW.pt (pw_or (pt_not (pt_val (pe_call D_is_number.2 (hr.mono (by decide)) rfl (g_is_number T) D_is_number.1.kp (b_is_number D_is_number.1) .nil pass0 (pa_cons (pv 4) pa_nil)))) (pw_or (pt_not (pt_val (pe_call D_is_number.2 (hr.mono (by decide)) rfl (g_is_number T) D_is_number.1.kp (b_is_number D_is_number.1) .nil pass0 (pa_cons (pv 5) pa_nil)))) (pw_or1 (pt_not (pt_val (pe_call D_is_number.2 (hr.mono (by decide)) rfl (g_is_number T) D_is_number.1.kp (b_is_number D_is_number.1) .nil pass0 (pa_cons (pv 6) pa_nil)))))))) (pss_one (ps_ret pe_bl)) pss_nil)
      (pss_one (ps_if (PW.pt (pw_or (pt_cmpR op_ge (pv 4) (pv 5) (nomark _)) (pw_or (pt_cmpR op_ge (pv 5) (pv 1) (nomark _)) (pw_or1 (pt_cmpR op_lt (pv 6) pe_int (nomark _)))))) (pss_one (ps_ret pe_bl)) pss_nil))))))
      (pss_one (ps_ret pe_bl)))))), ?_⟩)⟩
  · obtain ⟨p, B, d, v, rfl, _⟩ := h
    rfl
  · obtain ⟨p, B, d, v, rfl, hd, q⟩ := h
    simp only [tSeq, tAsg, gName, tRet, tRetN, tDrop, tIfS, tNext, tBreak, tCont, tTest, tB, tVar, tC, tCons, tNil, tCB, tCall, tCallK, tOp, tUn, rI0, rI, rU, rEq, rNe, tAnd, tOr, tNot, tAndV, tOrV, tNotV, tTup, tLst, tIf, gTup, gCons, gNil, tPar, tAug, ipI, gSub, L2.start, cxOf, Cx.nox, List.map_cons, List.map_nil, List.length_cons, List.length_nil, List.replicate, Nat.reduceAdd, Nat.reduceSub, List.cons_append, List.nil_append, List.append_nil, List.getElem?_cons_zero, List.getElem?_cons_succ, Option.some.injEq, V.int.injEq, V.bl.injEq, V.str.injEq, V.ref.injEq, V.ty.injEq, List.cons.injEq, and_true, true_and, exists_eq_left, exists_eq_left', exists_and_left, exists_and_right, decide_eq_true_eq, List.set_cons_zero, List.set_cons_succ, Bool.not_eq_true', decide_eq_false_iff_not, isi_NoneType_int, isi_NoneType_bool, isi_NoneType_tuple, isi_NoneType_str, isi_NoneType_list, isi_bool_int, isi_bool_bool, isi_bool_tuple, isi_bool_str, isi_bool_list, isi_int_int, isi_int_bool, isi_int_tuple, isi_int_str, isi_int_list, isi_str_int, isi_str_bool, isi_str_tuple, isi_str_str, isi_str_list, isi_list_int, isi_list_bool, isi_list_tuple, isi_list_str, isi_list_list, isi_tuple_int, isi_tuple_bool, isi_tuple_tuple, isi_tuple_str, isi_tuple_list, Bool.false_eq_true, if_true, if_false, reduceIte, Bool.not_true, Bool.not_false, reduceCtorEq, false_and, and_false, exists_false, exists_const, scal_int, scal_bl, scal_str, absE, ne_eq, not_true_eq_false, not_false_eq_true, Int.natCast_add, Int.cast_ofNat_Int, and_assoc, tChain3, tTupF, rTupOfF]
    refine hd.kn.isi (by decide) ?_
    have q2 : Q (.bl (isWeb d)) H := q
    cases d with
    | tuple ds =>
      obtain ⟨a, xs, rfl, ne, ha, hl, hs⟩ := hd
      simp only [tSeq, tAsg, gName, tRet, tRetN, tDrop, tIfS, tNext, tBreak, tCont, tTest, tB, tVar, tC, tCons, tNil, tCB, tCall, tCallK, tOp, tUn, rI0, rI, rU, rEq, rNe, tAnd, tOr, tNot, tAndV, tOrV, tNotV, tTup, tLst, tIf, gTup, gCons, gNil, tPar, tAug, ipI, gSub, L2.start, cxOf, Cx.nox, List.map_cons, List.map_nil, List.length_cons, List.length_nil, List.replicate, Nat.reduceAdd, Nat.reduceSub, List.cons_append, List.nil_append, List.append_nil, List.getElem?_cons_zero, List.getElem?_cons_succ, Option.some.injEq, V.int.injEq, V.bl.injEq, V.str.injEq, V.ref.injEq, V.ty.injEq, List.cons.injEq, and_true, true_and, exists_eq_left, exists_eq_left', exists_and_left, exists_and_right, decide_eq_true_eq, List.set_cons_zero, List.set_cons_succ, Bool.not_eq_true', decide_eq_false_iff_not, isi_NoneType_int, isi_NoneType_bool, isi_NoneType_tuple, isi_NoneType_str, isi_NoneType_list, isi_bool_int, isi_bool_bool, isi_bool_tuple, isi_bool_str, isi_bool_list, isi_int_int, isi_int_bool, isi_int_tuple, isi_int_str, isi_int_list, isi_str_int, isi_str_bool, isi_str_tuple, isi_str_str, isi_str_list, isi_list_int, isi_list_bool, isi_list_tuple, isi_list_str, isi_list_list, isi_tuple_int, isi_tuple_bool, isi_tuple_tuple, isi_tuple_str, isi_tuple_list, Bool.false_eq_true, if_true, if_false, reduceIte, Bool.not_true, Bool.not_false, reduceCtorEq, false_and, and_false, exists_false, exists_const, scal_int, scal_bl, scal_str, absE, ne_eq, not_true_eq_false, not_false_eq_true, Int.natCast_add, Int.cast_ofNat_Int, and_assoc, tChain3, tTupF, rTupOfF, kindOf]
      refine ⟨_, .inr (TupN.sq ha), ?_⟩
      rw [← hs.len]
      refine ite2 (fun h => ?_) (fun h => ?_)
      · rw [web_len h] at q2
        exact q2
      obtain ⟨d1, d2, rfl⟩ : ∃ d1 d2, ds = [d1, d2] := by
        match ds, h with
        | [d1, d2], _ => exact ⟨d1, d2, rfl⟩
        | [], h => simp at h
        | [_], h => simp at h
        | _ :: _ :: _ :: _, h =>
          exfalso
          apply h
          simp only [List.length_cons]
          omega
      obtain ⟨v1, v2, rfl⟩ : ∃ u v, xs = [u, v] := by
        have := hs.len
        match xs, this with
        | [u, v], _ => exact ⟨u, v, rfl⟩
      obtain ⟨h1, h2, _⟩ := hs
      refine ⟨_, TupN.sq ha, rfl, ?_⟩
      simp only [tSeq, tAsg, gName, tRet, tRetN, tDrop, tIfS, tNext, tBreak, tCont, tTest, tB, tVar, tC, tCons, tNil, tCB, tCall, tCallK, tOp, tUn, rI0, rI, rU, rEq, rNe, tAnd, tOr, tNot, tAndV, tOrV, tNotV, tTup, tLst, tIf, gTup, gCons, gNil, tPar, tAug, ipI, gSub, L2.start, cxOf, Cx.nox, List.map_cons, List.map_nil, List.length_cons, List.length_nil, List.replicate, Nat.reduceAdd, Nat.reduceSub, List.cons_append, List.nil_append, List.append_nil, List.getElem?_cons_zero, List.getElem?_cons_succ, Option.some.injEq, V.int.injEq, V.bl.injEq, V.str.injEq, V.ref.injEq, V.ty.injEq, List.cons.injEq, and_true, true_and, exists_eq_left, exists_eq_left', exists_and_left, exists_and_right, decide_eq_true_eq, List.set_cons_zero, List.set_cons_succ, Bool.not_eq_true', decide_eq_false_iff_not, isi_NoneType_int, isi_NoneType_bool, isi_NoneType_tuple, isi_NoneType_str, isi_NoneType_list, isi_bool_int, isi_bool_bool, isi_bool_tuple, isi_bool_str, isi_bool_list, isi_int_int, isi_int_bool, isi_int_tuple, isi_int_str, isi_int_list, isi_str_int, isi_str_bool, isi_str_tuple, isi_str_str, isi_str_list, isi_list_int, isi_list_bool, isi_list_tuple, isi_list_str, isi_list_list, isi_tuple_int, isi_tuple_bool, isi_tuple_tuple, isi_tuple_str, isi_tuple_list, Bool.false_eq_true, if_true, if_false, reduceIte, Bool.not_true, Bool.not_false, reduceCtorEq, false_and, and_false, exists_false, exists_const, scal_int, scal_bl, scal_str, absE, ne_eq, not_true_eq_false, not_false_eq_true, Int.natCast_add, Int.cast_ofNat_Int, and_assoc, tChain3, tTupF, rTupOfF]
      refine ⟨_, _, rfl, h1.kn, ?_⟩
      rw [h1.isInt]
      cases hi : isInt d1 with
      | false =>
        rw [web_int hi] at q2
        simp only [tSeq, tAsg, gName, tRet, tRetN, tDrop, tIfS, tNext, tBreak, tCont, tTest, tB, tVar, tC, tCons, tNil, tCB, tCall, tCallK, tOp, tUn, rI0, rI, rU, rEq, rNe, tAnd, tOr, tNot, tAndV, tOrV, tNotV, tTup, tLst, tIf, gTup, gCons, gNil, tPar, tAug, ipI, gSub, L2.start, cxOf, Cx.nox, List.map_cons, List.map_nil, List.length_cons, List.length_nil, List.replicate, Nat.reduceAdd, Nat.reduceSub, List.cons_append, List.nil_append, List.append_nil, List.getElem?_cons_zero, List.getElem?_cons_succ, Option.some.injEq, V.int.injEq, V.bl.injEq, V.str.injEq, V.ref.injEq, V.ty.injEq, List.cons.injEq, and_true, true_and, exists_eq_left, exists_eq_left', exists_and_left, exists_and_right, decide_eq_true_eq, List.set_cons_zero, List.set_cons_succ, Bool.not_eq_true', decide_eq_false_iff_not, isi_NoneType_int, isi_NoneType_bool, isi_NoneType_tuple, isi_NoneType_str, isi_NoneType_list, isi_bool_int, isi_bool_bool, isi_bool_tuple, isi_bool_str, isi_bool_list, isi_int_int, isi_int_bool, isi_int_tuple, isi_int_str, isi_int_list, isi_str_int, isi_str_bool, isi_str_tuple, isi_str_str, isi_str_list, isi_list_int, isi_list_bool, isi_list_tuple, isi_list_str, isi_list_list, isi_tuple_int, isi_tuple_bool, isi_tuple_tuple, isi_tuple_str, isi_tuple_list, Bool.false_eq_true, if_true, if_false, reduceIte, Bool.not_true, Bool.not_false, reduceCtorEq, false_and, and_false, exists_false, exists_const, scal_int, scal_bl, scal_str, absE, ne_eq, not_true_eq_false, not_false_eq_true, Int.natCast_add, Int.cast_ofNat_Int, and_assoc, tChain3, tTupF, rTupOfF]
        exact q2
      | true =>
        obtain ⟨n, rfl⟩ := isInt_int hi
        obtain ⟨rfl, _⟩ := h1
        simp only [tSeq, tAsg, gName, tRet, tRetN, tDrop, tIfS, tNext, tBreak, tCont, tTest, tB, tVar, tC, tCons, tNil, tCB, tCall, tCallK, tOp, tUn, rI0, rI, rU, rEq, rNe, tAnd, tOr, tNot, tAndV, tOrV, tNotV, tTup, tLst, tIf, gTup, gCons, gNil, tPar, tAug, ipI, gSub, L2.start, cxOf, Cx.nox, List.map_cons, List.map_nil, List.length_cons, List.length_nil, List.replicate, Nat.reduceAdd, Nat.reduceSub, List.cons_append, List.nil_append, List.append_nil, List.getElem?_cons_zero, List.getElem?_cons_succ, Option.some.injEq, V.int.injEq, V.bl.injEq, V.str.injEq, V.ref.injEq, V.ty.injEq, List.cons.injEq, and_true, true_and, exists_eq_left, exists_eq_left', exists_and_left, exists_and_right, decide_eq_true_eq, List.set_cons_zero, List.set_cons_succ, Bool.not_eq_true', decide_eq_false_iff_not, isi_NoneType_int, isi_NoneType_bool, isi_NoneType_tuple, isi_NoneType_str, isi_NoneType_list, isi_bool_int, isi_bool_bool, isi_bool_tuple, isi_bool_str, isi_bool_list, isi_int_int, isi_int_bool, isi_int_tuple, isi_int_str, isi_int_list, isi_str_int, isi_str_bool, isi_str_tuple, isi_str_str, isi_str_list, isi_list_int, isi_list_bool, isi_list_tuple, isi_list_str, isi_list_list, isi_tuple_int, isi_tuple_bool, isi_tuple_tuple, isi_tuple_str, isi_tuple_list, Bool.false_eq_true, if_true, if_false, reduceIte, Bool.not_true, Bool.not_false, reduceCtorEq, false_and, and_false, exists_false, exists_const, scal_int, scal_bl, scal_str, absE, ne_eq, not_true_eq_false, not_false_eq_true, Int.natCast_add, Int.cast_ofNat_Int, and_assoc, tChain3, tTupF, rTupOfF]
        refine ite2 (fun h => ?_) (fun h => ?_)
        · rw [web_low h] at q2
          exact q2
        refine h2.kn.isi (by decide) ?_
        cases d2 with
        | tuple ls =>
          obtain ⟨l, ys, rfl, _, hla, hll, hls⟩ := h2
          have q3 : Q (.bl (decide (1 ≤ n) && ls.all (lineOk n))) H := q2
          rw [decide_eq_true (show 1 ≤ n by omega), Bool.true_and] at q3
          simp only [tSeq, tAsg, gName, tRet, tRetN, tDrop, tIfS, tNext, tBreak, tCont, tTest, tB, tVar, tC, tCons, tNil, tCB, tCall, tCallK, tOp, tUn, rI0, rI, rU, rEq, rNe, tAnd, tOr, tNot, tAndV, tOrV, tNotV, tTup, tLst, tIf, gTup, gCons, gNil, tPar, tAug, ipI, gSub, L2.start, cxOf, Cx.nox, List.map_cons, List.map_nil, List.length_cons, List.length_nil, List.replicate, Nat.reduceAdd, Nat.reduceSub, List.cons_append, List.nil_append, List.append_nil, List.getElem?_cons_zero, List.getElem?_cons_succ, Option.some.injEq, V.int.injEq, V.bl.injEq, V.str.injEq, V.ref.injEq, V.ty.injEq, List.cons.injEq, and_true, true_and, exists_eq_left, exists_eq_left', exists_and_left, exists_and_right, decide_eq_true_eq, List.set_cons_zero, List.set_cons_succ, Bool.not_eq_true', decide_eq_false_iff_not, isi_NoneType_int, isi_NoneType_bool, isi_NoneType_tuple, isi_NoneType_str, isi_NoneType_list, isi_bool_int, isi_bool_bool, isi_bool_tuple, isi_bool_str, isi_bool_list, isi_int_int, isi_int_bool, isi_int_tuple, isi_int_str, isi_int_list, isi_str_int, isi_str_bool, isi_str_tuple, isi_str_str, isi_str_list, isi_list_int, isi_list_bool, isi_list_tuple, isi_list_str, isi_list_list, isi_tuple_int, isi_tuple_bool, isi_tuple_tuple, isi_tuple_str, isi_tuple_list, Bool.false_eq_true, if_true, if_false, reduceIte, Bool.not_true, Bool.not_false, reduceCtorEq, false_and, and_false, exists_false, exists_const, scal_int, scal_bl, scal_str, absE, ne_eq, not_true_eq_false, not_false_eq_true, Int.natCast_add, Int.cast_ofNat_Int, and_assoc, tChain3, tTupF, rTupOfF, kindOf]
          refine for_tupE (a := l) (xs := ys) (fun Q' h => ⟨_, rfl, h⟩) (fun i σ' H' => H' = H ∧ ∃ (x3 x4 x5 x6 : Option V), σ' = [some (.ref a), some (.int n), some (.ref l), x3, x4, x5, x6] ∧ (ls.drop i).all (lineOk n) = ls.all (lineOk n)) ?_ ?_ ?_ ?_
          · exact ⟨rfl, none, none, none, none, rfl, rfl⟩
          · rintro i σ' H' _ ⟨rfl, _⟩
            exact hla.sq
          · rintro i x σ' H' hx ⟨rfl, x3, x4, x5, x6, rfl, hj⟩
            obtain ⟨e, he, hde⟩ := hls.get hx
            rw [drop_cons he, List.all_cons] at hj
            have no : lineOk n e = false → Q (.bl false) H' := fun hf => by
              rw [hf, Bool.false_and] at hj
              rw [← hj] at q3
              exact q3
            simp only [tSeq, tAsg, gName, tRet, tRetN, tDrop, tIfS, tNext, tBreak, tCont, tTest, tB, tVar, tC, tCons, tNil, tCB, tCall, tCallK, tOp, tUn, rI0, rI, rU, rEq, rNe, tAnd, tOr, tNot, tAndV, tOrV, tNotV, tTup, tLst, tIf, gTup, gCons, gNil, tPar, tAug, ipI, gSub, L2.start, cxOf, Cx.nox, List.map_cons, List.map_nil, List.length_cons, List.length_nil, List.replicate, Nat.reduceAdd, Nat.reduceSub, List.cons_append, List.nil_append, List.append_nil, List.getElem?_cons_zero, List.getElem?_cons_succ, Option.some.injEq, V.int.injEq, V.bl.injEq, V.str.injEq, V.ref.injEq, V.ty.injEq, List.cons.injEq, and_true, true_and, exists_eq_left, exists_eq_left', exists_and_left, exists_and_right, decide_eq_true_eq, List.set_cons_zero, List.set_cons_succ, Bool.not_eq_true', decide_eq_false_iff_not, isi_NoneType_int, isi_NoneType_bool, isi_NoneType_tuple, isi_NoneType_str, isi_NoneType_list, isi_bool_int, isi_bool_bool, isi_bool_tuple, isi_bool_str, isi_bool_list, isi_int_int, isi_int_bool, isi_int_tuple, isi_int_str, isi_int_list, isi_str_int, isi_str_bool, isi_str_tuple, isi_str_str, isi_str_list, isi_list_int, isi_list_bool, isi_list_tuple, isi_list_str, isi_list_list, isi_tuple_int, isi_tuple_bool, isi_tuple_tuple, isi_tuple_str, isi_tuple_list, Bool.false_eq_true, if_true, if_false, reduceIte, Bool.not_true, Bool.not_false, reduceCtorEq, false_and, and_false, exists_false, exists_const, scal_int, scal_bl, scal_str, absE, ne_eq, not_true_eq_false, not_false_eq_true, Int.natCast_add, Int.cast_ofNat_Int, and_assoc, tChain3, tTupF, rTupOfF]
            refine hde.kn.isi (by decide) ?_
            cases e with
            | tuple es =>
              obtain ⟨b, zs, rfl, _, hb, hbl, hbs⟩ := hde
              simp only [tSeq, tAsg, gName, tRet, tRetN, tDrop, tIfS, tNext, tBreak, tCont, tTest, tB, tVar, tC, tCons, tNil, tCB, tCall, tCallK, tOp, tUn, rI0, rI, rU, rEq, rNe, tAnd, tOr, tNot, tAndV, tOrV, tNotV, tTup, tLst, tIf, gTup, gCons, gNil, tPar, tAug, ipI, gSub, L2.start, cxOf, Cx.nox, List.map_cons, List.map_nil, List.length_cons, List.length_nil, List.replicate, Nat.reduceAdd, Nat.reduceSub, List.cons_append, List.nil_append, List.append_nil, List.getElem?_cons_zero, List.getElem?_cons_succ, Option.some.injEq, V.int.injEq, V.bl.injEq, V.str.injEq, V.ref.injEq, V.ty.injEq, List.cons.injEq, and_true, true_and, exists_eq_left, exists_eq_left', exists_and_left, exists_and_right, decide_eq_true_eq, List.set_cons_zero, List.set_cons_succ, Bool.not_eq_true', decide_eq_false_iff_not, isi_NoneType_int, isi_NoneType_bool, isi_NoneType_tuple, isi_NoneType_str, isi_NoneType_list, isi_bool_int, isi_bool_bool, isi_bool_tuple, isi_bool_str, isi_bool_list, isi_int_int, isi_int_bool, isi_int_tuple, isi_int_str, isi_int_list, isi_str_int, isi_str_bool, isi_str_tuple, isi_str_str, isi_str_list, isi_list_int, isi_list_bool, isi_list_tuple, isi_list_str, isi_list_list, isi_tuple_int, isi_tuple_bool, isi_tuple_tuple, isi_tuple_str, isi_tuple_list, Bool.false_eq_true, if_true, if_false, reduceIte, Bool.not_true, Bool.not_false, reduceCtorEq, false_and, and_false, exists_false, exists_const, scal_int, scal_bl, scal_str, absE, ne_eq, not_true_eq_false, not_false_eq_true, Int.natCast_add, Int.cast_ofNat_Int, and_assoc, tChain3, tTupF, rTupOfF, kindOf]
              refine ⟨_, .inr (TupN.sq hb), ?_⟩
              rw [← hbs.len]
              refine ite2 (fun h => ?_) (fun h => ?_)
              · exact no (line_len h)
              obtain ⟨e1, e2, e3, rfl⟩ := three h
              obtain ⟨u1, u2, u3, rfl⟩ : ∃ u v w, zs = [u, v, w] := by
                have := hbs.len
                match zs, this with
                | [u, v, w], _ => exact ⟨u, v, w, rfl⟩
              obtain ⟨k1, k2, k3, _⟩ := hbs
              refine ⟨_, TupN.sq hb, rfl, ?_⟩
              simp only [tSeq, tAsg, gName, tRet, tRetN, tDrop, tIfS, tNext, tBreak, tCont, tTest, tB, tVar, tC, tCons, tNil, tCB, tCall, tCallK, tOp, tUn, rI0, rI, rU, rEq, rNe, tAnd, tOr, tNot, tAndV, tOrV, tNotV, tTup, tLst, tIf, gTup, gCons, gNil, tPar, tAug, ipI, gSub, L2.start, cxOf, Cx.nox, List.map_cons, List.map_nil, List.length_cons, List.length_nil, List.replicate, Nat.reduceAdd, Nat.reduceSub, List.cons_append, List.nil_append, List.append_nil, List.getElem?_cons_zero, List.getElem?_cons_succ, Option.some.injEq, V.int.injEq, V.bl.injEq, V.str.injEq, V.ref.injEq, V.ty.injEq, List.cons.injEq, and_true, true_and, exists_eq_left, exists_eq_left', exists_and_left, exists_and_right, decide_eq_true_eq, List.set_cons_zero, List.set_cons_succ, Bool.not_eq_true', decide_eq_false_iff_not, isi_NoneType_int, isi_NoneType_bool, isi_NoneType_tuple, isi_NoneType_str, isi_NoneType_list, isi_bool_int, isi_bool_bool, isi_bool_tuple, isi_bool_str, isi_bool_list, isi_int_int, isi_int_bool, isi_int_tuple, isi_int_str, isi_int_list, isi_str_int, isi_str_bool, isi_str_tuple, isi_str_str, isi_str_list, isi_list_int, isi_list_bool, isi_list_tuple, isi_list_str, isi_list_list, isi_tuple_int, isi_tuple_bool, isi_tuple_tuple, isi_tuple_str, isi_tuple_list, Bool.false_eq_true, if_true, if_false, reduceIte, Bool.not_true, Bool.not_false, reduceCtorEq, false_and, and_false, exists_false, exists_const, scal_int, scal_bl, scal_str, absE, ne_eq, not_true_eq_false, not_false_eq_true, Int.natCast_add, Int.cast_ofNat_Int, and_assoc, tChain3, tTupF, rTupOfF]
              refine ⟨_, _, rfl, k1.kn, ?_⟩
              rw [k1.isNum]
              cases hi1 : isNum e1 with
              | false =>
                simp only [tSeq, tAsg, gName, tRet, tRetN, tDrop, tIfS, tNext, tBreak, tCont, tTest, tB, tVar, tC, tCons, tNil, tCB, tCall, tCallK, tOp, tUn, rI0, rI, rU, rEq, rNe, tAnd, tOr, tNot, tAndV, tOrV, tNotV, tTup, tLst, tIf, gTup, gCons, gNil, tPar, tAug, ipI, gSub, L2.start, cxOf, Cx.nox, List.map_cons, List.map_nil, List.length_cons, List.length_nil, List.replicate, Nat.reduceAdd, Nat.reduceSub, List.cons_append, List.nil_append, List.append_nil, List.getElem?_cons_zero, List.getElem?_cons_succ, Option.some.injEq, V.int.injEq, V.bl.injEq, V.str.injEq, V.ref.injEq, V.ty.injEq, List.cons.injEq, and_true, true_and, exists_eq_left, exists_eq_left', exists_and_left, exists_and_right, decide_eq_true_eq, List.set_cons_zero, List.set_cons_succ, Bool.not_eq_true', decide_eq_false_iff_not, isi_NoneType_int, isi_NoneType_bool, isi_NoneType_tuple, isi_NoneType_str, isi_NoneType_list, isi_bool_int, isi_bool_bool, isi_bool_tuple, isi_bool_str, isi_bool_list, isi_int_int, isi_int_bool, isi_int_tuple, isi_int_str, isi_int_list, isi_str_int, isi_str_bool, isi_str_tuple, isi_str_str, isi_str_list, isi_list_int, isi_list_bool, isi_list_tuple, isi_list_str, isi_list_list, isi_tuple_int, isi_tuple_bool, isi_tuple_tuple, isi_tuple_str, isi_tuple_list, Bool.false_eq_true, if_true, if_false, reduceIte, Bool.not_true, Bool.not_false, reduceCtorEq, false_and, and_false, exists_false, exists_const, scal_int, scal_bl, scal_str, absE, ne_eq, not_true_eq_false, not_false_eq_true, Int.natCast_add, Int.cast_ofNat_Int, and_assoc, tChain3, tTupF, rTupOfF]
                exact no (line_a hi1)
              | true =>
                obtain ⟨z1, rfl, g1⟩ := isNum_int hi1
                obtain ⟨rfl, _⟩ := k1
                simp only [tSeq, tAsg, gName, tRet, tRetN, tDrop, tIfS, tNext, tBreak, tCont, tTest, tB, tVar, tC, tCons, tNil, tCB, tCall, tCallK, tOp, tUn, rI0, rI, rU, rEq, rNe, tAnd, tOr, tNot, tAndV, tOrV, tNotV, tTup, tLst, tIf, gTup, gCons, gNil, tPar, tAug, ipI, gSub, L2.start, cxOf, Cx.nox, List.map_cons, List.map_nil, List.length_cons, List.length_nil, List.replicate, Nat.reduceAdd, Nat.reduceSub, List.cons_append, List.nil_append, List.append_nil, List.getElem?_cons_zero, List.getElem?_cons_succ, Option.some.injEq, V.int.injEq, V.bl.injEq, V.str.injEq, V.ref.injEq, V.ty.injEq, List.cons.injEq, and_true, true_and, exists_eq_left, exists_eq_left', exists_and_left, exists_and_right, decide_eq_true_eq, List.set_cons_zero, List.set_cons_succ, Bool.not_eq_true', decide_eq_false_iff_not, isi_NoneType_int, isi_NoneType_bool, isi_NoneType_tuple, isi_NoneType_str, isi_NoneType_list, isi_bool_int, isi_bool_bool, isi_bool_tuple, isi_bool_str, isi_bool_list, isi_int_int, isi_int_bool, isi_int_tuple, isi_int_str, isi_int_list, isi_str_int, isi_str_bool, isi_str_tuple, isi_str_str, isi_str_list, isi_list_int, isi_list_bool, isi_list_tuple, isi_list_str, isi_list_list, isi_tuple_int, isi_tuple_bool, isi_tuple_tuple, isi_tuple_str, isi_tuple_list, Bool.false_eq_true, if_true, if_false, reduceIte, Bool.not_true, Bool.not_false, reduceCtorEq, false_and, and_false, exists_false, exists_const, scal_int, scal_bl, scal_str, absE, ne_eq, not_true_eq_false, not_false_eq_true, Int.natCast_add, Int.cast_ofNat_Int, and_assoc, tChain3, tTupF, rTupOfF]
                refine ⟨_, _, rfl, k2.kn, ?_⟩
                rw [k2.isNum]
                cases hi2 : isNum e2 with
                | false =>
                  simp only [tSeq, tAsg, gName, tRet, tRetN, tDrop, tIfS, tNext, tBreak, tCont, tTest, tB, tVar, tC, tCons, tNil, tCB, tCall, tCallK, tOp, tUn, rI0, rI, rU, rEq, rNe, tAnd, tOr, tNot, tAndV, tOrV, tNotV, tTup, tLst, tIf, gTup, gCons, gNil, tPar, tAug, ipI, gSub, L2.start, cxOf, Cx.nox, List.map_cons, List.map_nil, List.length_cons, List.length_nil, List.replicate, Nat.reduceAdd, Nat.reduceSub, List.cons_append, List.nil_append, List.append_nil, List.getElem?_cons_zero, List.getElem?_cons_succ, Option.some.injEq, V.int.injEq, V.bl.injEq, V.str.injEq, V.ref.injEq, V.ty.injEq, List.cons.injEq, and_true, true_and, exists_eq_left, exists_eq_left', exists_and_left, exists_and_right, decide_eq_true_eq, List.set_cons_zero, List.set_cons_succ, Bool.not_eq_true', decide_eq_false_iff_not, isi_NoneType_int, isi_NoneType_bool, isi_NoneType_tuple, isi_NoneType_str, isi_NoneType_list, isi_bool_int, isi_bool_bool, isi_bool_tuple, isi_bool_str, isi_bool_list, isi_int_int, isi_int_bool, isi_int_tuple, isi_int_str, isi_int_list, isi_str_int, isi_str_bool, isi_str_tuple, isi_str_str, isi_str_list, isi_list_int, isi_list_bool, isi_list_tuple, isi_list_str, isi_list_list, isi_tuple_int, isi_tuple_bool, isi_tuple_tuple, isi_tuple_str, isi_tuple_list, Bool.false_eq_true, if_true, if_false, reduceIte, Bool.not_true, Bool.not_false, reduceCtorEq, false_and, and_false, exists_false, exists_const, scal_int, scal_bl, scal_str, absE, ne_eq, not_true_eq_false, not_false_eq_true, Int.natCast_add, Int.cast_ofNat_Int, and_assoc, tChain3, tTupF, rTupOfF]
                  exact no (line_b hi2)
                | true =>
                  obtain ⟨z2, rfl, g2⟩ := isNum_int hi2
                  obtain ⟨rfl, _⟩ := k2
                  simp only [tSeq, tAsg, gName, tRet, tRetN, tDrop, tIfS, tNext, tBreak, tCont, tTest, tB, tVar, tC, tCons, tNil, tCB, tCall, tCallK, tOp, tUn, rI0, rI, rU, rEq, rNe, tAnd, tOr, tNot, tAndV, tOrV, tNotV, tTup, tLst, tIf, gTup, gCons, gNil, tPar, tAug, ipI, gSub, L2.start, cxOf, Cx.nox, List.map_cons, List.map_nil, List.length_cons, List.length_nil, List.replicate, Nat.reduceAdd, Nat.reduceSub, List.cons_append, List.nil_append, List.append_nil, List.getElem?_cons_zero, List.getElem?_cons_succ, Option.some.injEq, V.int.injEq, V.bl.injEq, V.str.injEq, V.ref.injEq, V.ty.injEq, List.cons.injEq, and_true, true_and, exists_eq_left, exists_eq_left', exists_and_left, exists_and_right, decide_eq_true_eq, List.set_cons_zero, List.set_cons_succ, Bool.not_eq_true', decide_eq_false_iff_not, isi_NoneType_int, isi_NoneType_bool, isi_NoneType_tuple, isi_NoneType_str, isi_NoneType_list, isi_bool_int, isi_bool_bool, isi_bool_tuple, isi_bool_str, isi_bool_list, isi_int_int, isi_int_bool, isi_int_tuple, isi_int_str, isi_int_list, isi_str_int, isi_str_bool, isi_str_tuple, isi_str_str, isi_str_list, isi_list_int, isi_list_bool, isi_list_tuple, isi_list_str, isi_list_list, isi_tuple_int, isi_tuple_bool, isi_tuple_tuple, isi_tuple_str, isi_tuple_list, Bool.false_eq_true, if_true, if_false, reduceIte, Bool.not_true, Bool.not_false, reduceCtorEq, false_and, and_false, exists_false, exists_const, scal_int, scal_bl, scal_str, absE, ne_eq, not_true_eq_false, not_false_eq_true, Int.natCast_add, Int.cast_ofNat_Int, and_assoc, tChain3, tTupF, rTupOfF]
                  refine ⟨_, _, rfl, k3.kn, ?_⟩
                  rw [k3.isNum]
                  cases hi3 : isNum e3 with
                  | false =>
                    simp only [tSeq, tAsg, gName, tRet, tRetN, tDrop, tIfS, tNext, tBreak, tCont, tTest, tB, tVar, tC, tCons, tNil, tCB, tCall, tCallK, tOp, tUn, rI0, rI, rU, rEq, rNe, tAnd, tOr, tNot, tAndV, tOrV, tNotV, tTup, tLst, tIf, gTup, gCons, gNil, tPar, tAug, ipI, gSub, L2.start, cxOf, Cx.nox, List.map_cons, List.map_nil, List.length_cons, List.length_nil, List.replicate, Nat.reduceAdd, Nat.reduceSub, List.cons_append, List.nil_append, List.append_nil, List.getElem?_cons_zero, List.getElem?_cons_succ, Option.some.injEq, V.int.injEq, V.bl.injEq, V.str.injEq, V.ref.injEq, V.ty.injEq, List.cons.injEq, and_true, true_and, exists_eq_left, exists_eq_left', exists_and_left, exists_and_right, decide_eq_true_eq, List.set_cons_zero, List.set_cons_succ, Bool.not_eq_true', decide_eq_false_iff_not, isi_NoneType_int, isi_NoneType_bool, isi_NoneType_tuple, isi_NoneType_str, isi_NoneType_list, isi_bool_int, isi_bool_bool, isi_bool_tuple, isi_bool_str, isi_bool_list, isi_int_int, isi_int_bool, isi_int_tuple, isi_int_str, isi_int_list, isi_str_int, isi_str_bool, isi_str_tuple, isi_str_str, isi_str_list, isi_list_int, isi_list_bool, isi_list_tuple, isi_list_str, isi_list_list, isi_tuple_int, isi_tuple_bool, isi_tuple_tuple, isi_tuple_str, isi_tuple_list, Bool.false_eq_true, if_true, if_false, reduceIte, Bool.not_true, Bool.not_false, reduceCtorEq, false_and, and_false, exists_false, exists_const, scal_int, scal_bl, scal_str, absE, ne_eq, not_true_eq_false, not_false_eq_true, Int.natCast_add, Int.cast_ofNat_Int, and_assoc, tChain3, tTupF, rTupOfF]
                    exact no (line_c hi3)
                  | true =>
                    obtain ⟨z3, rfl, g3⟩ := isNum_int hi3
                    obtain ⟨rfl, _⟩ := k3
                    simp only [tSeq, tAsg, gName, tRet, tRetN, tDrop, tIfS, tNext, tBreak, tCont, tTest, tB, tVar, tC, tCons, tNil, tCB, tCall, tCallK, tOp, tUn, rI0, rI, rU, rEq, rNe, tAnd, tOr, tNot, tAndV, tOrV, tNotV, tTup, tLst, tIf, gTup, gCons, gNil, tPar, tAug, ipI, gSub, L2.start, cxOf, Cx.nox, List.map_cons, List.map_nil, List.length_cons, List.length_nil, List.replicate, Nat.reduceAdd, Nat.reduceSub, List.cons_append, List.nil_append, List.append_nil, List.getElem?_cons_zero, List.getElem?_cons_succ, Option.some.injEq, V.int.injEq, V.bl.injEq, V.str.injEq, V.ref.injEq, V.ty.injEq, List.cons.injEq, and_true, true_and, exists_eq_left, exists_eq_left', exists_and_left, exists_and_right, decide_eq_true_eq, List.set_cons_zero, List.set_cons_succ, Bool.not_eq_true', decide_eq_false_iff_not, isi_NoneType_int, isi_NoneType_bool, isi_NoneType_tuple, isi_NoneType_str, isi_NoneType_list, isi_bool_int, isi_bool_bool, isi_bool_tuple, isi_bool_str, isi_bool_list, isi_int_int, isi_int_bool, isi_int_tuple, isi_int_str, isi_int_list, isi_str_int, isi_str_bool, isi_str_tuple, isi_str_str, isi_str_list, isi_list_int, isi_list_bool, isi_list_tuple, isi_list_str, isi_list_list, isi_tuple_int, isi_tuple_bool, isi_tuple_tuple, isi_tuple_str, isi_tuple_list, Bool.false_eq_true, if_true, if_false, reduceIte, Bool.not_true, Bool.not_false, reduceCtorEq, false_and, and_false, exists_false, exists_const, scal_int, scal_bl, scal_str, absE, ne_eq, not_true_eq_false, not_false_eq_true, Int.natCast_add, Int.cast_ofNat_Int, and_assoc, tChain3, tTupF, rTupOfF]
                    have ev : lineOk n (.tuple [.int z1, .int z2, .int z3]) = (decide (0 ≤ z1) && (decide (z1 < z2) && (decide (z2 < n) && decide (1 ≤ z3)))) := rfl
                    refine ite2 (fun h => ?_) (fun h => ?_)
                    · exact no (by rw [ev, decide_eq_false (show ¬ z1 < z2 by omega)]; simp)
                    refine ite2 (fun h => ?_) (fun h => ?_)
                    · exact no (by rw [ev, decide_eq_false (show ¬ z2 < n by omega)]; simp)
                    refine ite2 (fun h => ?_) (fun h => ?_)
                    · exact no (by rw [ev, decide_eq_false (show ¬ 1 ≤ z3 by omega)]; simp)
                    · rw [ev, decide_eq_true g1, decide_eq_true (show z1 < z2 by omega), decide_eq_true (show z2 < n by omega), decide_eq_true (show 1 ≤ z3 by omega)] at hj
                      simpa using hj
            | _ =>
              simp only [tSeq, tAsg, gName, tRet, tRetN, tDrop, tIfS, tNext, tBreak, tCont, tTest, tB, tVar, tC, tCons, tNil, tCB, tCall, tCallK, tOp, tUn, rI0, rI, rU, rEq, rNe, tAnd, tOr, tNot, tAndV, tOrV, tNotV, tTup, tLst, tIf, gTup, gCons, gNil, tPar, tAug, ipI, gSub, L2.start, cxOf, Cx.nox, List.map_cons, List.map_nil, List.length_cons, List.length_nil, List.replicate, Nat.reduceAdd, Nat.reduceSub, List.cons_append, List.nil_append, List.append_nil, List.getElem?_cons_zero, List.getElem?_cons_succ, Option.some.injEq, V.int.injEq, V.bl.injEq, V.str.injEq, V.ref.injEq, V.ty.injEq, List.cons.injEq, and_true, true_and, exists_eq_left, exists_eq_left', exists_and_left, exists_and_right, decide_eq_true_eq, List.set_cons_zero, List.set_cons_succ, Bool.not_eq_true', decide_eq_false_iff_not, isi_NoneType_int, isi_NoneType_bool, isi_NoneType_tuple, isi_NoneType_str, isi_NoneType_list, isi_bool_int, isi_bool_bool, isi_bool_tuple, isi_bool_str, isi_bool_list, isi_int_int, isi_int_bool, isi_int_tuple, isi_int_str, isi_int_list, isi_str_int, isi_str_bool, isi_str_tuple, isi_str_str, isi_str_list, isi_list_int, isi_list_bool, isi_list_tuple, isi_list_str, isi_list_list, isi_tuple_int, isi_tuple_bool, isi_tuple_tuple, isi_tuple_str, isi_tuple_list, Bool.false_eq_true, if_true, if_false, reduceIte, Bool.not_true, Bool.not_false, reduceCtorEq, false_and, and_false, exists_false, exists_const, scal_int, scal_bl, scal_str, absE, ne_eq, not_true_eq_false, not_false_eq_true, Int.natCast_add, Int.cast_ofNat_Int, and_assoc, tChain3, tTupF, rTupOfF, kindOf]
              exact no rfl
          · rintro σ' H' ⟨rfl, x3, x4, x5, x6, rfl, hj⟩
            rw [← hls.len, List.drop_length] at hj
            simp only [tSeq, tAsg, gName, tRet, tRetN, tDrop, tIfS, tNext, tBreak, tCont, tTest, tB, tVar, tC, tCons, tNil, tCB, tCall, tCallK, tOp, tUn, rI0, rI, rU, rEq, rNe, tAnd, tOr, tNot, tAndV, tOrV, tNotV, tTup, tLst, tIf, gTup, gCons, gNil, tPar, tAug, ipI, gSub, L2.start, cxOf, Cx.nox, List.map_cons, List.map_nil, List.length_cons, List.length_nil, List.replicate, Nat.reduceAdd, Nat.reduceSub, List.cons_append, List.nil_append, List.append_nil, List.getElem?_cons_zero, List.getElem?_cons_succ, Option.some.injEq, V.int.injEq, V.bl.injEq, V.str.injEq, V.ref.injEq, V.ty.injEq, List.cons.injEq, and_true, true_and, exists_eq_left, exists_eq_left', exists_and_left, exists_and_right, decide_eq_true_eq, List.set_cons_zero, List.set_cons_succ, Bool.not_eq_true', decide_eq_false_iff_not, isi_NoneType_int, isi_NoneType_bool, isi_NoneType_tuple, isi_NoneType_str, isi_NoneType_list, isi_bool_int, isi_bool_bool, isi_bool_tuple, isi_bool_str, isi_bool_list, isi_int_int, isi_int_bool, isi_int_tuple, isi_int_str, isi_int_list, isi_str_int, isi_str_bool, isi_str_tuple, isi_str_str, isi_str_list, isi_list_int, isi_list_bool, isi_list_tuple, isi_list_str, isi_list_list, isi_tuple_int, isi_tuple_bool, isi_tuple_tuple, isi_tuple_str, isi_tuple_list, Bool.false_eq_true, if_true, if_false, reduceIte, Bool.not_true, Bool.not_false, reduceCtorEq, false_and, and_false, exists_false, exists_const, scal_int, scal_bl, scal_str, absE, ne_eq, not_true_eq_false, not_false_eq_true, Int.natCast_add, Int.cast_ofNat_Int, and_assoc, tChain3, tTupF, rTupOfF]
            rw [← hj] at q3
            exact q3
        | _ =>
          simp only [tSeq, tAsg, gName, tRet, tRetN, tDrop, tIfS, tNext, tBreak, tCont, tTest, tB, tVar, tC, tCons, tNil, tCB, tCall, tCallK, tOp, tUn, rI0, rI, rU, rEq, rNe, tAnd, tOr, tNot, tAndV, tOrV, tNotV, tTup, tLst, tIf, gTup, gCons, gNil, tPar, tAug, ipI, gSub, L2.start, cxOf, Cx.nox, List.map_cons, List.map_nil, List.length_cons, List.length_nil, List.replicate, Nat.reduceAdd, Nat.reduceSub, List.cons_append, List.nil_append, List.append_nil, List.getElem?_cons_zero, List.getElem?_cons_succ, Option.some.injEq, V.int.injEq, V.bl.injEq, V.str.injEq, V.ref.injEq, V.ty.injEq, List.cons.injEq, and_true, true_and, exists_eq_left, exists_eq_left', exists_and_left, exists_and_right, decide_eq_true_eq, List.set_cons_zero, List.set_cons_succ, Bool.not_eq_true', decide_eq_false_iff_not, isi_NoneType_int, isi_NoneType_bool, isi_NoneType_tuple, isi_NoneType_str, isi_NoneType_list, isi_bool_int, isi_bool_bool, isi_bool_tuple, isi_bool_str, isi_bool_list, isi_int_int, isi_int_bool, isi_int_tuple, isi_int_str, isi_int_list, isi_str_int, isi_str_bool, isi_str_tuple, isi_str_str, isi_str_list, isi_list_int, isi_list_bool, isi_list_tuple, isi_list_str, isi_list_list, isi_tuple_int, isi_tuple_bool, isi_tuple_tuple, isi_tuple_str, isi_tuple_list, Bool.false_eq_true, if_true, if_false, reduceIte, Bool.not_true, Bool.not_false, reduceCtorEq, false_and, and_false, exists_false, exists_const, scal_int, scal_bl, scal_str, absE, ne_eq, not_true_eq_false, not_false_eq_true, Int.natCast_add, Int.cast_ofNat_Int, and_assoc, tChain3, tTupF, rTupOfF, kindOf]
          exact q
    | _ =>
      simp only [tSeq, tAsg, gName, tRet, tRetN, tDrop, tIfS, tNext, tBreak, tCont, tTest, tB, tVar, tC, tCons, tNil, tCB, tCall, tCallK, tOp, tUn, rI0, rI, rU, rEq, rNe, tAnd, tOr, tNot, tAndV, tOrV, tNotV, tTup, tLst, tIf, gTup, gCons, gNil, tPar, tAug, ipI, gSub, L2.start, cxOf, Cx.nox, List.map_cons, List.map_nil, List.length_cons, List.length_nil, List.replicate, Nat.reduceAdd, Nat.reduceSub, List.cons_append, List.nil_append, List.append_nil, List.getElem?_cons_zero, List.getElem?_cons_succ, Option.some.injEq, V.int.injEq, V.bl.injEq, V.str.injEq, V.ref.injEq, V.ty.injEq, List.cons.injEq, and_true, true_and, exists_eq_left, exists_eq_left', exists_and_left, exists_and_right, decide_eq_true_eq, List.set_cons_zero, List.set_cons_succ, Bool.not_eq_true', decide_eq_false_iff_not, isi_NoneType_int, isi_NoneType_bool, isi_NoneType_tuple, isi_NoneType_str, isi_NoneType_list, isi_bool_int, isi_bool_bool, isi_bool_tuple, isi_bool_str, isi_bool_list, isi_int_int, isi_int_bool, isi_int_tuple, isi_int_str, isi_int_list, isi_str_int, isi_str_bool, isi_str_tuple, isi_str_str, isi_str_list, isi_list_int, isi_list_bool, isi_list_tuple, isi_list_str, isi_list_list, isi_tuple_int, isi_tuple_bool, isi_tuple_tuple, isi_tuple_str, isi_tuple_list, Bool.false_eq_true, if_true, if_false, reduceIte, Bool.not_true, Bool.not_false, reduceCtorEq, false_and, and_false, exists_false, exists_const, scal_int, scal_bl, scal_str, absE, ne_eq, not_true_eq_false, not_false_eq_true, Int.natCast_add, Int.cast_ofNat_Int, and_assoc, tChain3, tTupF, rTupOfF, kindOf]
      exact q
end
end K00
end
section
set_option Elab.async false
set_option linter.all false
set_option maxRecDepth 100000
set_option maxHeartbeats 4000000
namespace K00
open PySem PySem.Spec PyProof.Rows L2 Pour
/-! ### the word of what is no web -/
def lineWord (n : Int) : PyData → Option Str
  | .tuple [x, y, z] => match x, y, z with
    | .int a, .int b, c => if 0 ≤ a ∧ 0 ≤ b ∧ a < b ∧ b < n then (match c with | .int r => if 1 ≤ r then none else some ("room" : Str) | _ => some ("room" : Str)) else some ("house" : Str)
    | _, _, _ => some ("house" : Str)
  | _ => some ("shape" : Str)
def wordFrom (n : Int) : Nat → List PyData → Option (Str × Int)
  | _, [] => none
  | i, e :: r => match lineWord n e with
    | none => wordFrom n (i + 1) r
    | some w => some (w, i)
def word : PyData → Option (Str × Int)
  | .tuple [x, y] => match x with
    | .int n => if n < 1 then some (("size" : Str), -1) else match y with
      | .tuple ls => wordFrom n 0 ls
      | _ => some (("lines" : Str), -1)
    | _ => some (("size" : Str), -1)
  | _ => some (("shape" : Str), -1)
def cnt : PyData → Int
  | .tuple [_, .tuple ls] => ls.length
  | _ => 0
theorem word_len {ds : List PyData} (h : ¬ (ds.length : Int) = 2) : word (.tuple ds) = some (("shape" : Str), -1) := by
  match ds, h with
  | [d1, d2], h => exact absurd rfl h
  | [], _ => rfl
  | [x], _ => rfl
  | x :: y :: z :: r, _ => rfl
theorem lw_len {n : Int} {ds : List PyData} (h : ¬ (ds.length : Int) = 3) : lineWord n (.tuple ds) = some ("shape" : Str) := by
  match ds, h with
  | [a, b, c], h => exact absurd rfl h
  | [], _ => rfl
  | [x], _ => rfl
  | [x, y], _ => rfl
  | x :: y :: z :: u :: r, _ => rfl
theorem lw_a {n : Int} {a b c : PyData} (h : isNum a = false) : lineWord n (.tuple [a, b, c]) = some ("house" : Str) := by
  cases a <;> first | rfl | skip
  cases b <;> first | rfl | skip
  rename_i x y
  have hx : ¬ 0 ≤ x := by simpa [isNum] using h
  simp only [lineWord]
  rw [if_neg (by omega)]
theorem lw_b {n : Int} {a b c : PyData} (h : isNum b = false) : lineWord n (.tuple [a, b, c]) = some ("house" : Str) := by
  cases a <;> first | rfl | skip
  cases b <;> first | rfl | skip
  rename_i x y
  have hy : ¬ 0 ≤ y := by simpa [isNum] using h
  simp only [lineWord]
  rw [if_neg (by omega)]
theorem lw_ab {n x y : Int} {c : PyData} (h : ¬ (0 ≤ x ∧ 0 ≤ y ∧ x < y ∧ y < n)) : lineWord n (.tuple [.int x, .int y, c]) = some ("house" : Str) := by
  simp only [lineWord]
  rw [if_neg h]
theorem lw_c {n x y : Int} {c : PyData} (h : 0 ≤ x ∧ 0 ≤ y ∧ x < y ∧ y < n) (hc : isInt c = false) : lineWord n (.tuple [.int x, .int y, c]) = some ("room" : Str) := by
  simp only [lineWord]
  rw [if_pos h]
  cases c <;> first | rfl | (simp [isInt] at hc)
theorem lw_r {n x y r : Int} (h : 0 ≤ x ∧ 0 ≤ y ∧ x < y ∧ y < n) : lineWord n (.tuple [.int x, .int y, .int r]) = if 1 ≤ r then none else some ("room" : Str) := by
  simp only [lineWord]
  rw [if_pos h]
section
variable {P : Program} {w : World} {K : PySem.W.Frag} {mg : Str → Option Value} {base : Heap}
def spLets (K : PySem.W.Frag) : Sp := fun vs H Q E => ∃ (p : Addr → Prop) (B : Int) (d : PyData) (v : V), vs = [v] ∧ Dt p B H d v ∧ (word d = none → ∀ H', Evl.Ex H H' → Q (.int (cnt d)) H') ∧
  ∀ s i, word d = some (s, i) → ∀ H1 e, Evl.Ex H H1 → H1 e = none → E (.ref (nu K)) (some e) (upd H1 e (nuD (.str s) (.int i)))
theorem ok_lets_web (T : Txt K mg) : Keeps P w K mg base (L2.CX P w) 3 d_s_lets_web ["thing"] (spLets K) := by
  obtain ⟨fd, F⟩ := f_lets_web T
  obtain ⟨fd_is_integer, D_is_integer⟩ := ok_is_integer (P := P) (w := w) (base := base) T
  obtain ⟨fd_is_number, D_is_number⟩ := ok_is_number (P := P) (w := w) (base := base) T
  obtain ⟨fdI, FI, GI⟩ := ok_init (P := P) (w := w) (base := base) T
  refine ⟨fd, F, F.ok sc_lets_web (fun vs H Q E h => ?_) (fun cdv A outer s H vs Q E hr h => ⟨_,
    (pss_cons (ps_if (PW.pt (pw_or (pt_not (pt_val (pe_callB call_isi rfl (n_isinstance T) (by decide +kernel) (pa_cons (pv 0) (pa_cons (pe_bltn (v := .ty "tuple") rfl (n_tuple T) (by decide +kernel) rfl) pa_nil))))) (pw_or1 (pt_cmpR op_ne (pe_callB call_len_seq rfl (n_len T) (by decide +kernel) (pa_cons (pv 0) pa_nil)) pe_int (nomark _))))) (pss_one (ps_raise rfl (takes_of rfl rfl rfl rfl) (pmk_oex T.nu.ox T.nu.iC T.nu.tI GI (hr.mono (by decide)) (b_InvalidPaper__init__ FI) .nil pass0 rfl (g_InvalidPaper T) (pa_cons pe_str (pa_cons (pe_un un_neg pe_int) pa_nil))))) pss_nil)
      (pss_cons (ps_asg (pv 0) (pg_tup rfl (pgs_cons (pg_name (i := 1) sc_lets_web.nd rfl (Or.inl rfl)) (pgs_cons (pg_name (i := 2) sc_lets_web.nd rfl (Or.inl rfl)) pgs_nil))))
      (pss_cons (ps_if (PW.pt (pw_or (pt_not (pt_val (pe_call D_is_integer.2 (hr.mono (by decide)) rfl (g_is_integer T) D_is_integer.1.kp (b_is_integer D_is_integer.1) .nil pass0 (pa_cons (pv 1) pa_nil)))) (pw_or1 (pt_cmpR op_lt (pv 1) pe_int (nomark _))))) (pss_one (ps_raise rfl (takes_of rfl rfl rfl rfl) (pmk_oex T.nu.ox T.nu.iC T.nu.tI GI (hr.mono (by decide)) (b_InvalidPaper__init__ FI) .nil pass0 rfl (g_InvalidPaper T) (pa_cons pe_str (pa_cons (pe_un un_neg pe_int) pa_nil))))) pss_nil)
      (pss_cons (ps_if (pt_not (pt_val (pe_callB call_isi rfl (n_isinstance T) (by decide +kernel) (pa_cons (pv 2) (pa_cons (pe_bltn (v := .ty "tuple") rfl (n_tuple T) (by decide +kernel) rfl) pa_nil))))) (pss_one (ps_raise rfl (takes_of rfl rfl rfl rfl) (pmk_oex T.nu.ox T.nu.iC T.nu.tI GI (hr.mono (by decide)) (b_InvalidPaper__init__ FI) .nil pass0 rfl (g_InvalidPaper T) (pa_cons pe_str (pa_cons (pe_un un_neg pe_int) pa_nil))))) pss_nil)
      (pss_cons (ps_for (passes_of rfl) rfl (pi_enumT rfl (n_enumerate T) (pa_cons (pv 2) pa_nil)) (pg_tup rfl (pgs_cons (pg_name (i := 3) sc_lets_web.nd rfl (Or.inl rfl)) (pgs_cons (pg_name (i := 4) sc_lets_web.nd rfl (Or.inl rfl)) pgs_nil))) (pss_cons (ps_if (PW.pt (pw_or (pt_not (pt_val (pe_callB call_isi rfl (n_isinstance T) (by decide +kernel) (pa_cons (pv 4) (pa_cons (pe_bltn (v := .ty "tuple") rfl (n_tuple T) (by decide +kernel) rfl) pa_nil))))) (pw_or1 (pt_cmpR op_ne (pe_callB call_len_seq rfl (n_len T) (by decide +kernel) (pa_cons (pv 4) pa_nil)) pe_int (nomark _))))) (pss_one (ps_raise rfl (takes_of rfl rfl rfl rfl) (pmk_oex T.nu.ox T.nu.iC T.nu.tI GI (hr.mono (by decide)) (b_InvalidPaper__init__ FI) .nil pass0 rfl (g_InvalidPaper T) (pa_cons pe_str (pa_cons (pv 3) pa_nil))))) pss_nil)
      (pss_cons (ps_asg (pv 4) (pg_tup rfl (pgs_cons (pg_name (i := 5) sc_lets_web.nd rfl (Or.inl rfl)) (pgs_cons (pg_name (i := 6) sc_lets_web.nd rfl (Or.inl rfl)) (pgs_cons (pg_name (i := 7) sc_lets_web.nd rfl (Or.inl rfl)) pgs_nil)))))
      (pss_cons (ps_if (PW.pt (pw_or (pt_not (pt_val (pe_call D_is_number.2 (hr.mono (by decide)) rfl (g_is_number T) D_is_number.1.kp (b_is_number D_is_number.1) .nil pass0 (pa_cons (pv 5) pa_nil)))) (pw_or (pt_not (pt_val (pe_call D_is_number.2 (hr.mono (by decide)) rfl (g_is_number T) D_is_number.1.kp (b_is_number D_is_number.1) .nil pass0 (pa_cons (pv 6) pa_nil)))) (pw_or (pt_cmpR op_ge (pv 5) (pv 6) (nomark _)) (pw_or1 (pt_cmpR op_ge (pv 6) (pv 1) (nomark _))))))) (pss_one (ps_raise rfl (takes_of rfl rfl rfl rfl) (pmk_oex T.nu.ox T.nu.iC T.nu.tI GI (hr.mono (by decide)) (b_InvalidPaper__init__ FI) .nil pass0 rfl (g_InvalidPaper T) (pa_cons pe_str (pa_cons (pv 3) pa_nil))))) pss_nil)
      (pss_one (ps_if (PW.pt (pw_or (pt_not (pt_val (pe_call D_is_integer.2 (hr.mono (by decide)) rfl (g_is_integer T) D_is_integer.1.kp (b_is_integer D_is_integer.1) .nil pass0 (pa_cons (pv 7) pa_nil)))) (pw_or1 (pt_cmpR op_lt (pv 7) pe_int (nomark _))))) (pss_one (ps_raise rfl (takes_of rfl rfl rfl rfl) (pmk_oex T.nu.ox T.nu.iC T.nu.tI GI (hr.mono (by decide)) (b_InvalidPaper__init__ FI) .nil pass0 rfl (g_InvalidPaper T) (pa_cons pe_str (pa_cons (pv 3) pa_nil))))) pss_nil))))))
      (pss_one (ps_ret (pe_callB call_len_seq rfl (n_len T) (by decide +kernel) (pa_cons (pv 2) pa_nil))))))))), ?_⟩)⟩
  · obtain ⟨p, B, d, v, rfl, _⟩ := h
    rfl
  · obtain ⟨p, B, d, v, rfl, hd, q, ex⟩ := h
    simp only [tSeq, tAsg, gName, tRet, tRetN, tDrop, tIfS, tNext, tBreak, tCont, tTest, tB, tVar, tC, tCons, tNil, tCB, tCall, tCallK, tOp, tUn, rI0, rI, rU, rEq, rNe, tAnd, tOr, tNot, tAndV, tOrV, tNotV, tTup, tLst, tIf, gTup, gCons, gNil, tPar, tAug, ipI, gSub, L2.start, cxOf, Cx.nox, List.map_cons, List.map_nil, List.length_cons, List.length_nil, List.replicate, Nat.reduceAdd, Nat.reduceSub, List.cons_append, List.nil_append, List.append_nil, List.getElem?_cons_zero, List.getElem?_cons_succ, Option.some.injEq, V.int.injEq, V.bl.injEq, V.str.injEq, V.ref.injEq, V.ty.injEq, List.cons.injEq, and_true, true_and, exists_eq_left, exists_eq_left', exists_and_left, exists_and_right, decide_eq_true_eq, List.set_cons_zero, List.set_cons_succ, Bool.not_eq_true', decide_eq_false_iff_not, isi_NoneType_int, isi_NoneType_bool, isi_NoneType_tuple, isi_NoneType_str, isi_NoneType_list, isi_bool_int, isi_bool_bool, isi_bool_tuple, isi_bool_str, isi_bool_list, isi_int_int, isi_int_bool, isi_int_tuple, isi_int_str, isi_int_list, isi_str_int, isi_str_bool, isi_str_tuple, isi_str_str, isi_str_list, isi_list_int, isi_list_bool, isi_list_tuple, isi_list_str, isi_list_list, isi_tuple_int, isi_tuple_bool, isi_tuple_tuple, isi_tuple_str, isi_tuple_list, Bool.false_eq_true, if_true, if_false, reduceIte, Bool.not_true, Bool.not_false, reduceCtorEq, false_and, and_false, exists_false, exists_const, scal_int, scal_bl, scal_str, absE, ne_eq, not_true_eq_false, not_false_eq_true, Int.natCast_add, Int.cast_ofNat_Int, and_assoc, tChain3, tTupF, rTupOfF]
    have fin : ∀ {s : Str} {i : Int} {H1 : Hp}, word d = some (s, i) → Evl.Ex H H1 → _ := fun {s i H1} hw e1 => mk_nu (K := K) (Q := E) (x := .str s) (y := .int i) (fun e he => ex s i hw H1 e e1 he)
    refine hd.kn.isi (by decide) ?_
    cases d with
    | tuple ds =>
      obtain ⟨a, xs, rfl, ne, ha, hl, hs⟩ := hd
      simp only [tSeq, tAsg, gName, tRet, tRetN, tDrop, tIfS, tNext, tBreak, tCont, tTest, tB, tVar, tC, tCons, tNil, tCB, tCall, tCallK, tOp, tUn, rI0, rI, rU, rEq, rNe, tAnd, tOr, tNot, tAndV, tOrV, tNotV, tTup, tLst, tIf, gTup, gCons, gNil, tPar, tAug, ipI, gSub, L2.start, cxOf, Cx.nox, List.map_cons, List.map_nil, List.length_cons, List.length_nil, List.replicate, Nat.reduceAdd, Nat.reduceSub, List.cons_append, List.nil_append, List.append_nil, List.getElem?_cons_zero, List.getElem?_cons_succ, Option.some.injEq, V.int.injEq, V.bl.injEq, V.str.injEq, V.ref.injEq, V.ty.injEq, List.cons.injEq, and_true, true_and, exists_eq_left, exists_eq_left', exists_and_left, exists_and_right, decide_eq_true_eq, List.set_cons_zero, List.set_cons_succ, Bool.not_eq_true', decide_eq_false_iff_not, isi_NoneType_int, isi_NoneType_bool, isi_NoneType_tuple, isi_NoneType_str, isi_NoneType_list, isi_bool_int, isi_bool_bool, isi_bool_tuple, isi_bool_str, isi_bool_list, isi_int_int, isi_int_bool, isi_int_tuple, isi_int_str, isi_int_list, isi_str_int, isi_str_bool, isi_str_tuple, isi_str_str, isi_str_list, isi_list_int, isi_list_bool, isi_list_tuple, isi_list_str, isi_list_list, isi_tuple_int, isi_tuple_bool, isi_tuple_tuple, isi_tuple_str, isi_tuple_list, Bool.false_eq_true, if_true, if_false, reduceIte, Bool.not_true, Bool.not_false, reduceCtorEq, false_and, and_false, exists_false, exists_const, scal_int, scal_bl, scal_str, absE, ne_eq, not_true_eq_false, not_false_eq_true, Int.natCast_add, Int.cast_ofNat_Int, and_assoc, tChain3, tTupF, rTupOfF, kindOf]
      refine ⟨_, .inr (TupN.sq ha), ?_⟩
      rw [← hs.len]
      refine ite2 (fun h => ?_) (fun h => ?_)
      · exact ⟨_, rfl, fin (word_len h) (Evl.Ex.refl _)⟩
      obtain ⟨d1, d2, rfl⟩ := two h
      obtain ⟨v1, v2, rfl⟩ : ∃ u v, xs = [u, v] := by
        have := hs.len
        match xs, this with
        | [u, v], _ => exact ⟨u, v, rfl⟩
      obtain ⟨h1, h2, _⟩ := hs
      refine ⟨_, TupN.sq ha, rfl, ?_⟩
      simp only [tSeq, tAsg, gName, tRet, tRetN, tDrop, tIfS, tNext, tBreak, tCont, tTest, tB, tVar, tC, tCons, tNil, tCB, tCall, tCallK, tOp, tUn, rI0, rI, rU, rEq, rNe, tAnd, tOr, tNot, tAndV, tOrV, tNotV, tTup, tLst, tIf, gTup, gCons, gNil, tPar, tAug, ipI, gSub, L2.start, cxOf, Cx.nox, List.map_cons, List.map_nil, List.length_cons, List.length_nil, List.replicate, Nat.reduceAdd, Nat.reduceSub, List.cons_append, List.nil_append, List.append_nil, List.getElem?_cons_zero, List.getElem?_cons_succ, Option.some.injEq, V.int.injEq, V.bl.injEq, V.str.injEq, V.ref.injEq, V.ty.injEq, List.cons.injEq, and_true, true_and, exists_eq_left, exists_eq_left', exists_and_left, exists_and_right, decide_eq_true_eq, List.set_cons_zero, List.set_cons_succ, Bool.not_eq_true', decide_eq_false_iff_not, isi_NoneType_int, isi_NoneType_bool, isi_NoneType_tuple, isi_NoneType_str, isi_NoneType_list, isi_bool_int, isi_bool_bool, isi_bool_tuple, isi_bool_str, isi_bool_list, isi_int_int, isi_int_bool, isi_int_tuple, isi_int_str, isi_int_list, isi_str_int, isi_str_bool, isi_str_tuple, isi_str_str, isi_str_list, isi_list_int, isi_list_bool, isi_list_tuple, isi_list_str, isi_list_list, isi_tuple_int, isi_tuple_bool, isi_tuple_tuple, isi_tuple_str, isi_tuple_list, Bool.false_eq_true, if_true, if_false, reduceIte, Bool.not_true, Bool.not_false, reduceCtorEq, false_and, and_false, exists_false, exists_const, scal_int, scal_bl, scal_str, absE, ne_eq, not_true_eq_false, not_false_eq_true, Int.natCast_add, Int.cast_ofNat_Int, and_assoc, tChain3, tTupF, rTupOfF]
      refine ⟨_, _, rfl, h1.kn, ?_⟩
      rw [h1.isInt]
      cases hi : isInt d1 with
      | false =>
        simp only [tSeq, tAsg, gName, tRet, tRetN, tDrop, tIfS, tNext, tBreak, tCont, tTest, tB, tVar, tC, tCons, tNil, tCB, tCall, tCallK, tOp, tUn, rI0, rI, rU, rEq, rNe, tAnd, tOr, tNot, tAndV, tOrV, tNotV, tTup, tLst, tIf, gTup, gCons, gNil, tPar, tAug, ipI, gSub, L2.start, cxOf, Cx.nox, List.map_cons, List.map_nil, List.length_cons, List.length_nil, List.replicate, Nat.reduceAdd, Nat.reduceSub, List.cons_append, List.nil_append, List.append_nil, List.getElem?_cons_zero, List.getElem?_cons_succ, Option.some.injEq, V.int.injEq, V.bl.injEq, V.str.injEq, V.ref.injEq, V.ty.injEq, List.cons.injEq, and_true, true_and, exists_eq_left, exists_eq_left', exists_and_left, exists_and_right, decide_eq_true_eq, List.set_cons_zero, List.set_cons_succ, Bool.not_eq_true', decide_eq_false_iff_not, isi_NoneType_int, isi_NoneType_bool, isi_NoneType_tuple, isi_NoneType_str, isi_NoneType_list, isi_bool_int, isi_bool_bool, isi_bool_tuple, isi_bool_str, isi_bool_list, isi_int_int, isi_int_bool, isi_int_tuple, isi_int_str, isi_int_list, isi_str_int, isi_str_bool, isi_str_tuple, isi_str_str, isi_str_list, isi_list_int, isi_list_bool, isi_list_tuple, isi_list_str, isi_list_list, isi_tuple_int, isi_tuple_bool, isi_tuple_tuple, isi_tuple_str, isi_tuple_list, Bool.false_eq_true, if_true, if_false, reduceIte, Bool.not_true, Bool.not_false, reduceCtorEq, false_and, and_false, exists_false, exists_const, scal_int, scal_bl, scal_str, absE, ne_eq, not_true_eq_false, not_false_eq_true, Int.natCast_add, Int.cast_ofNat_Int, and_assoc, tChain3, tTupF, rTupOfF]
        exact ⟨_, rfl, fin (by cases d1 <;> first | rfl | (simp [isInt] at hi)) (Evl.Ex.refl _)⟩
      | true =>
        obtain ⟨n, rfl⟩ := isInt_int hi
        obtain ⟨rfl, _⟩ := h1
        simp only [tSeq, tAsg, gName, tRet, tRetN, tDrop, tIfS, tNext, tBreak, tCont, tTest, tB, tVar, tC, tCons, tNil, tCB, tCall, tCallK, tOp, tUn, rI0, rI, rU, rEq, rNe, tAnd, tOr, tNot, tAndV, tOrV, tNotV, tTup, tLst, tIf, gTup, gCons, gNil, tPar, tAug, ipI, gSub, L2.start, cxOf, Cx.nox, List.map_cons, List.map_nil, List.length_cons, List.length_nil, List.replicate, Nat.reduceAdd, Nat.reduceSub, List.cons_append, List.nil_append, List.append_nil, List.getElem?_cons_zero, List.getElem?_cons_succ, Option.some.injEq, V.int.injEq, V.bl.injEq, V.str.injEq, V.ref.injEq, V.ty.injEq, List.cons.injEq, and_true, true_and, exists_eq_left, exists_eq_left', exists_and_left, exists_and_right, decide_eq_true_eq, List.set_cons_zero, List.set_cons_succ, Bool.not_eq_true', decide_eq_false_iff_not, isi_NoneType_int, isi_NoneType_bool, isi_NoneType_tuple, isi_NoneType_str, isi_NoneType_list, isi_bool_int, isi_bool_bool, isi_bool_tuple, isi_bool_str, isi_bool_list, isi_int_int, isi_int_bool, isi_int_tuple, isi_int_str, isi_int_list, isi_str_int, isi_str_bool, isi_str_tuple, isi_str_str, isi_str_list, isi_list_int, isi_list_bool, isi_list_tuple, isi_list_str, isi_list_list, isi_tuple_int, isi_tuple_bool, isi_tuple_tuple, isi_tuple_str, isi_tuple_list, Bool.false_eq_true, if_true, if_false, reduceIte, Bool.not_true, Bool.not_false, reduceCtorEq, false_and, and_false, exists_false, exists_const, scal_int, scal_bl, scal_str, absE, ne_eq, not_true_eq_false, not_false_eq_true, Int.natCast_add, Int.cast_ofNat_Int, and_assoc, tChain3, tTupF, rTupOfF]
        refine ite2 (fun hn => ?_) (fun hn => ?_)
        · exact ⟨_, rfl, fin (by simp only [word]; rw [if_pos hn]) (Evl.Ex.refl _)⟩
        refine h2.kn.isi (by decide) ?_
        cases d2 with
        | tuple ls =>
          obtain ⟨l, ys, rfl, _, hla, hll, hls⟩ := h2
          have ew : word (.tuple [.int n, .tuple ls]) = wordFrom n 0 ls := by
            simp only [word]
            rw [if_neg hn]
          rw [ew] at q
          rw [ew] at fin
          clear ex
          simp only [tSeq, tAsg, gName, tRet, tRetN, tDrop, tIfS, tNext, tBreak, tCont, tTest, tB, tVar, tC, tCons, tNil, tCB, tCall, tCallK, tOp, tUn, rI0, rI, rU, rEq, rNe, tAnd, tOr, tNot, tAndV, tOrV, tNotV, tTup, tLst, tIf, gTup, gCons, gNil, tPar, tAug, ipI, gSub, L2.start, cxOf, Cx.nox, List.map_cons, List.map_nil, List.length_cons, List.length_nil, List.replicate, Nat.reduceAdd, Nat.reduceSub, List.cons_append, List.nil_append, List.append_nil, List.getElem?_cons_zero, List.getElem?_cons_succ, Option.some.injEq, V.int.injEq, V.bl.injEq, V.str.injEq, V.ref.injEq, V.ty.injEq, List.cons.injEq, and_true, true_and, exists_eq_left, exists_eq_left', exists_and_left, exists_and_right, decide_eq_true_eq, List.set_cons_zero, List.set_cons_succ, Bool.not_eq_true', decide_eq_false_iff_not, isi_NoneType_int, isi_NoneType_bool, isi_NoneType_tuple, isi_NoneType_str, isi_NoneType_list, isi_bool_int, isi_bool_bool, isi_bool_tuple, isi_bool_str, isi_bool_list, isi_int_int, isi_int_bool, isi_int_tuple, isi_int_str, isi_int_list, isi_str_int, isi_str_bool, isi_str_tuple, isi_str_str, isi_str_list, isi_list_int, isi_list_bool, isi_list_tuple, isi_list_str, isi_list_list, isi_tuple_int, isi_tuple_bool, isi_tuple_tuple, isi_tuple_str, isi_tuple_list, Bool.false_eq_true, if_true, if_false, reduceIte, Bool.not_true, Bool.not_false, reduceCtorEq, false_and, and_false, exists_false, exists_const, scal_int, scal_bl, scal_str, absE, ne_eq, not_true_eq_false, not_false_eq_true, Int.natCast_add, Int.cast_ofNat_Int, and_assoc, tChain3, tTupF, rTupOfF, kindOf]
          refine for_enumT (a := l) (xs := ys) (fun Q' h => ⟨_, rfl, h⟩) (fun i σ' H' => Evl.Ex H H' ∧ ∃ (x3 x4 x5 x6 x7 : Option V), σ' = [some (.ref a), some (.int n), some (.ref l), x3, x4, x5, x6, x7] ∧ wordFrom n i (ls.drop i) = wordFrom n 0 ls) ?_ ?_ ?_ ?_
          · exact ⟨Evl.Ex.refl _, none, none, none, none, none, rfl, rfl⟩
          · rintro i σ' H' ⟨e, _⟩
            exact (hla.ex e).sq
          · rintro i x Tt σ' H' hx ⟨e1, x3, x4, x5, x6, x7, rfl, hj⟩ hT
            obtain ⟨e, he, hde⟩ := hls.get hx
            have e2 := Evl.Ex.new (o := HO.tup [V.int i, x]) hT
            have hT2 : upd H' Tt (HO.tup [V.int i, x]) Tt = some (HO.tup [V.int i, x]) := upd_same
            generalize upd H' Tt (HO.tup [V.int i, x]) = H2 at *
            have e12 := e1.trans e2
            have hde2 := Dt.mono (Int.le_refl B) (fun b o _ hb => e12 b o hb) e x hde
            rw [drop_cons he] at hj
            have no : ∀ {s : Str}, lineWord n e = some s → wordFrom n 0 ls = some (s, (i : Int)) := fun {s} hf => by
              rw [← hj]
              simp only [wordFrom, hf]
            have yes : lineWord n e = none → wordFrom n (i + 1) (ls.drop (i + 1)) = wordFrom n 0 ls := fun hf => by
              rw [← hj]
              simp only [wordFrom, hf]
            simp only [tSeq, tAsg, gName, tRet, tRetN, tDrop, tIfS, tNext, tBreak, tCont, tTest, tB, tVar, tC, tCons, tNil, tCB, tCall, tCallK, tOp, tUn, rI0, rI, rU, rEq, rNe, tAnd, tOr, tNot, tAndV, tOrV, tNotV, tTup, tLst, tIf, gTup, gCons, gNil, tPar, tAug, ipI, gSub, L2.start, cxOf, Cx.nox, List.map_cons, List.map_nil, List.length_cons, List.length_nil, List.replicate, Nat.reduceAdd, Nat.reduceSub, List.cons_append, List.nil_append, List.append_nil, List.getElem?_cons_zero, List.getElem?_cons_succ, Option.some.injEq, V.int.injEq, V.bl.injEq, V.str.injEq, V.ref.injEq, V.ty.injEq, List.cons.injEq, and_true, true_and, exists_eq_left, exists_eq_left', exists_and_left, exists_and_right, decide_eq_true_eq, List.set_cons_zero, List.set_cons_succ, Bool.not_eq_true', decide_eq_false_iff_not, isi_NoneType_int, isi_NoneType_bool, isi_NoneType_tuple, isi_NoneType_str, isi_NoneType_list, isi_bool_int, isi_bool_bool, isi_bool_tuple, isi_bool_str, isi_bool_list, isi_int_int, isi_int_bool, isi_int_tuple, isi_int_str, isi_int_list, isi_str_int, isi_str_bool, isi_str_tuple, isi_str_str, isi_str_list, isi_list_int, isi_list_bool, isi_list_tuple, isi_list_str, isi_list_list, isi_tuple_int, isi_tuple_bool, isi_tuple_tuple, isi_tuple_str, isi_tuple_list, Bool.false_eq_true, if_true, if_false, reduceIte, Bool.not_true, Bool.not_false, reduceCtorEq, false_and, and_false, exists_false, exists_const, scal_int, scal_bl, scal_str, absE, ne_eq, not_true_eq_false, not_false_eq_true, Int.natCast_add, Int.cast_ofNat_Int, and_assoc, tChain3, tTupF, rTupOfF]
            refine ⟨_, SqT.of hT2, rfl, ?_⟩
            simp only [tSeq, tAsg, gName, tRet, tRetN, tDrop, tIfS, tNext, tBreak, tCont, tTest, tB, tVar, tC, tCons, tNil, tCB, tCall, tCallK, tOp, tUn, rI0, rI, rU, rEq, rNe, tAnd, tOr, tNot, tAndV, tOrV, tNotV, tTup, tLst, tIf, gTup, gCons, gNil, tPar, tAug, ipI, gSub, L2.start, cxOf, Cx.nox, List.map_cons, List.map_nil, List.length_cons, List.length_nil, List.replicate, Nat.reduceAdd, Nat.reduceSub, List.cons_append, List.nil_append, List.append_nil, List.getElem?_cons_zero, List.getElem?_cons_succ, Option.some.injEq, V.int.injEq, V.bl.injEq, V.str.injEq, V.ref.injEq, V.ty.injEq, List.cons.injEq, and_true, true_and, exists_eq_left, exists_eq_left', exists_and_left, exists_and_right, decide_eq_true_eq, List.set_cons_zero, List.set_cons_succ, Bool.not_eq_true', decide_eq_false_iff_not, isi_NoneType_int, isi_NoneType_bool, isi_NoneType_tuple, isi_NoneType_str, isi_NoneType_list, isi_bool_int, isi_bool_bool, isi_bool_tuple, isi_bool_str, isi_bool_list, isi_int_int, isi_int_bool, isi_int_tuple, isi_int_str, isi_int_list, isi_str_int, isi_str_bool, isi_str_tuple, isi_str_str, isi_str_list, isi_list_int, isi_list_bool, isi_list_tuple, isi_list_str, isi_list_list, isi_tuple_int, isi_tuple_bool, isi_tuple_tuple, isi_tuple_str, isi_tuple_list, Bool.false_eq_true, if_true, if_false, reduceIte, Bool.not_true, Bool.not_false, reduceCtorEq, false_and, and_false, exists_false, exists_const, scal_int, scal_bl, scal_str, absE, ne_eq, not_true_eq_false, not_false_eq_true, Int.natCast_add, Int.cast_ofNat_Int, and_assoc, tChain3, tTupF, rTupOfF]
            refine hde2.kn.isi (by decide) ?_
            cases e with
            | tuple es =>
              obtain ⟨b, zs, rfl, _, hb, hbl, hbs⟩ := hde2
              simp only [tSeq, tAsg, gName, tRet, tRetN, tDrop, tIfS, tNext, tBreak, tCont, tTest, tB, tVar, tC, tCons, tNil, tCB, tCall, tCallK, tOp, tUn, rI0, rI, rU, rEq, rNe, tAnd, tOr, tNot, tAndV, tOrV, tNotV, tTup, tLst, tIf, gTup, gCons, gNil, tPar, tAug, ipI, gSub, L2.start, cxOf, Cx.nox, List.map_cons, List.map_nil, List.length_cons, List.length_nil, List.replicate, Nat.reduceAdd, Nat.reduceSub, List.cons_append, List.nil_append, List.append_nil, List.getElem?_cons_zero, List.getElem?_cons_succ, Option.some.injEq, V.int.injEq, V.bl.injEq, V.str.injEq, V.ref.injEq, V.ty.injEq, List.cons.injEq, and_true, true_and, exists_eq_left, exists_eq_left', exists_and_left, exists_and_right, decide_eq_true_eq, List.set_cons_zero, List.set_cons_succ, Bool.not_eq_true', decide_eq_false_iff_not, isi_NoneType_int, isi_NoneType_bool, isi_NoneType_tuple, isi_NoneType_str, isi_NoneType_list, isi_bool_int, isi_bool_bool, isi_bool_tuple, isi_bool_str, isi_bool_list, isi_int_int, isi_int_bool, isi_int_tuple, isi_int_str, isi_int_list, isi_str_int, isi_str_bool, isi_str_tuple, isi_str_str, isi_str_list, isi_list_int, isi_list_bool, isi_list_tuple, isi_list_str, isi_list_list, isi_tuple_int, isi_tuple_bool, isi_tuple_tuple, isi_tuple_str, isi_tuple_list, Bool.false_eq_true, if_true, if_false, reduceIte, Bool.not_true, Bool.not_false, reduceCtorEq, false_and, and_false, exists_false, exists_const, scal_int, scal_bl, scal_str, absE, ne_eq, not_true_eq_false, not_false_eq_true, Int.natCast_add, Int.cast_ofNat_Int, and_assoc, tChain3, tTupF, rTupOfF, kindOf]
              refine ⟨_, .inr (TupN.sq hb), ?_⟩
              rw [← hbs.len]
              refine ite2 (fun h => ?_) (fun h => ?_)
              · exact ⟨_, rfl, fin (no (lw_len h)) e12⟩
              obtain ⟨f1, f2, f3, rfl⟩ := three h
              obtain ⟨u1, u2, u3, rfl⟩ : ∃ u v w, zs = [u, v, w] := by
                have := hbs.len
                match zs, this with
                | [u, v, w], _ => exact ⟨u, v, w, rfl⟩
              obtain ⟨k1, k2, k3, _⟩ := hbs
              refine ⟨_, TupN.sq hb, rfl, ?_⟩
              simp only [tSeq, tAsg, gName, tRet, tRetN, tDrop, tIfS, tNext, tBreak, tCont, tTest, tB, tVar, tC, tCons, tNil, tCB, tCall, tCallK, tOp, tUn, rI0, rI, rU, rEq, rNe, tAnd, tOr, tNot, tAndV, tOrV, tNotV, tTup, tLst, tIf, gTup, gCons, gNil, tPar, tAug, ipI, gSub, L2.start, cxOf, Cx.nox, List.map_cons, List.map_nil, List.length_cons, List.length_nil, List.replicate, Nat.reduceAdd, Nat.reduceSub, List.cons_append, List.nil_append, List.append_nil, List.getElem?_cons_zero, List.getElem?_cons_succ, Option.some.injEq, V.int.injEq, V.bl.injEq, V.str.injEq, V.ref.injEq, V.ty.injEq, List.cons.injEq, and_true, true_and, exists_eq_left, exists_eq_left', exists_and_left, exists_and_right, decide_eq_true_eq, List.set_cons_zero, List.set_cons_succ, Bool.not_eq_true', decide_eq_false_iff_not, isi_NoneType_int, isi_NoneType_bool, isi_NoneType_tuple, isi_NoneType_str, isi_NoneType_list, isi_bool_int, isi_bool_bool, isi_bool_tuple, isi_bool_str, isi_bool_list, isi_int_int, isi_int_bool, isi_int_tuple, isi_int_str, isi_int_list, isi_str_int, isi_str_bool, isi_str_tuple, isi_str_str, isi_str_list, isi_list_int, isi_list_bool, isi_list_tuple, isi_list_str, isi_list_list, isi_tuple_int, isi_tuple_bool, isi_tuple_tuple, isi_tuple_str, isi_tuple_list, Bool.false_eq_true, if_true, if_false, reduceIte, Bool.not_true, Bool.not_false, reduceCtorEq, false_and, and_false, exists_false, exists_const, scal_int, scal_bl, scal_str, absE, ne_eq, not_true_eq_false, not_false_eq_true, Int.natCast_add, Int.cast_ofNat_Int, and_assoc, tChain3, tTupF, rTupOfF]
              refine ⟨_, _, rfl, k1.kn, ?_⟩
              rw [k1.isNum]
              cases hi1 : isNum f1 with
              | false =>
                simp only [tSeq, tAsg, gName, tRet, tRetN, tDrop, tIfS, tNext, tBreak, tCont, tTest, tB, tVar, tC, tCons, tNil, tCB, tCall, tCallK, tOp, tUn, rI0, rI, rU, rEq, rNe, tAnd, tOr, tNot, tAndV, tOrV, tNotV, tTup, tLst, tIf, gTup, gCons, gNil, tPar, tAug, ipI, gSub, L2.start, cxOf, Cx.nox, List.map_cons, List.map_nil, List.length_cons, List.length_nil, List.replicate, Nat.reduceAdd, Nat.reduceSub, List.cons_append, List.nil_append, List.append_nil, List.getElem?_cons_zero, List.getElem?_cons_succ, Option.some.injEq, V.int.injEq, V.bl.injEq, V.str.injEq, V.ref.injEq, V.ty.injEq, List.cons.injEq, and_true, true_and, exists_eq_left, exists_eq_left', exists_and_left, exists_and_right, decide_eq_true_eq, List.set_cons_zero, List.set_cons_succ, Bool.not_eq_true', decide_eq_false_iff_not, isi_NoneType_int, isi_NoneType_bool, isi_NoneType_tuple, isi_NoneType_str, isi_NoneType_list, isi_bool_int, isi_bool_bool, isi_bool_tuple, isi_bool_str, isi_bool_list, isi_int_int, isi_int_bool, isi_int_tuple, isi_int_str, isi_int_list, isi_str_int, isi_str_bool, isi_str_tuple, isi_str_str, isi_str_list, isi_list_int, isi_list_bool, isi_list_tuple, isi_list_str, isi_list_list, isi_tuple_int, isi_tuple_bool, isi_tuple_tuple, isi_tuple_str, isi_tuple_list, Bool.false_eq_true, if_true, if_false, reduceIte, Bool.not_true, Bool.not_false, reduceCtorEq, false_and, and_false, exists_false, exists_const, scal_int, scal_bl, scal_str, absE, ne_eq, not_true_eq_false, not_false_eq_true, Int.natCast_add, Int.cast_ofNat_Int, and_assoc, tChain3, tTupF, rTupOfF]
                exact ⟨_, rfl, fin (no (lw_a hi1)) e12⟩
              | true =>
                obtain ⟨z1, rfl, g1⟩ := isNum_int hi1
                obtain ⟨rfl, _⟩ := k1
                simp only [tSeq, tAsg, gName, tRet, tRetN, tDrop, tIfS, tNext, tBreak, tCont, tTest, tB, tVar, tC, tCons, tNil, tCB, tCall, tCallK, tOp, tUn, rI0, rI, rU, rEq, rNe, tAnd, tOr, tNot, tAndV, tOrV, tNotV, tTup, tLst, tIf, gTup, gCons, gNil, tPar, tAug, ipI, gSub, L2.start, cxOf, Cx.nox, List.map_cons, List.map_nil, List.length_cons, List.length_nil, List.replicate, Nat.reduceAdd, Nat.reduceSub, List.cons_append, List.nil_append, List.append_nil, List.getElem?_cons_zero, List.getElem?_cons_succ, Option.some.injEq, V.int.injEq, V.bl.injEq, V.str.injEq, V.ref.injEq, V.ty.injEq, List.cons.injEq, and_true, true_and, exists_eq_left, exists_eq_left', exists_and_left, exists_and_right, decide_eq_true_eq, List.set_cons_zero, List.set_cons_succ, Bool.not_eq_true', decide_eq_false_iff_not, isi_NoneType_int, isi_NoneType_bool, isi_NoneType_tuple, isi_NoneType_str, isi_NoneType_list, isi_bool_int, isi_bool_bool, isi_bool_tuple, isi_bool_str, isi_bool_list, isi_int_int, isi_int_bool, isi_int_tuple, isi_int_str, isi_int_list, isi_str_int, isi_str_bool, isi_str_tuple, isi_str_str, isi_str_list, isi_list_int, isi_list_bool, isi_list_tuple, isi_list_str, isi_list_list, isi_tuple_int, isi_tuple_bool, isi_tuple_tuple, isi_tuple_str, isi_tuple_list, Bool.false_eq_true, if_true, if_false, reduceIte, Bool.not_true, Bool.not_false, reduceCtorEq, false_and, and_false, exists_false, exists_const, scal_int, scal_bl, scal_str, absE, ne_eq, not_true_eq_false, not_false_eq_true, Int.natCast_add, Int.cast_ofNat_Int, and_assoc, tChain3, tTupF, rTupOfF]
                refine ⟨_, _, rfl, k2.kn, ?_⟩
                rw [k2.isNum]
                cases hi2 : isNum f2 with
                | false =>
                  simp only [tSeq, tAsg, gName, tRet, tRetN, tDrop, tIfS, tNext, tBreak, tCont, tTest, tB, tVar, tC, tCons, tNil, tCB, tCall, tCallK, tOp, tUn, rI0, rI, rU, rEq, rNe, tAnd, tOr, tNot, tAndV, tOrV, tNotV, tTup, tLst, tIf, gTup, gCons, gNil, tPar, tAug, ipI, gSub, L2.start, cxOf, Cx.nox, List.map_cons, List.map_nil, List.length_cons, List.length_nil, List.replicate, Nat.reduceAdd, Nat.reduceSub, List.cons_append, List.nil_append, List.append_nil, List.getElem?_cons_zero, List.getElem?_cons_succ, Option.some.injEq, V.int.injEq, V.bl.injEq, V.str.injEq, V.ref.injEq, V.ty.injEq, List.cons.injEq, and_true, true_and, exists_eq_left, exists_eq_left', exists_and_left, exists_and_right, decide_eq_true_eq, List.set_cons_zero, List.set_cons_succ, Bool.not_eq_true', decide_eq_false_iff_not, isi_NoneType_int, isi_NoneType_bool, isi_NoneType_tuple, isi_NoneType_str, isi_NoneType_list, isi_bool_int, isi_bool_bool, isi_bool_tuple, isi_bool_str, isi_bool_list, isi_int_int, isi_int_bool, isi_int_tuple, isi_int_str, isi_int_list, isi_str_int, isi_str_bool, isi_str_tuple, isi_str_str, isi_str_list, isi_list_int, isi_list_bool, isi_list_tuple, isi_list_str, isi_list_list, isi_tuple_int, isi_tuple_bool, isi_tuple_tuple, isi_tuple_str, isi_tuple_list, Bool.false_eq_true, if_true, if_false, reduceIte, Bool.not_true, Bool.not_false, reduceCtorEq, false_and, and_false, exists_false, exists_const, scal_int, scal_bl, scal_str, absE, ne_eq, not_true_eq_false, not_false_eq_true, Int.natCast_add, Int.cast_ofNat_Int, and_assoc, tChain3, tTupF, rTupOfF]
                  exact ⟨_, rfl, fin (no (lw_b hi2)) e12⟩
                | true =>
                  obtain ⟨z2, rfl, g2⟩ := isNum_int hi2
                  obtain ⟨rfl, _⟩ := k2
                  simp only [tSeq, tAsg, gName, tRet, tRetN, tDrop, tIfS, tNext, tBreak, tCont, tTest, tB, tVar, tC, tCons, tNil, tCB, tCall, tCallK, tOp, tUn, rI0, rI, rU, rEq, rNe, tAnd, tOr, tNot, tAndV, tOrV, tNotV, tTup, tLst, tIf, gTup, gCons, gNil, tPar, tAug, ipI, gSub, L2.start, cxOf, Cx.nox, List.map_cons, List.map_nil, List.length_cons, List.length_nil, List.replicate, Nat.reduceAdd, Nat.reduceSub, List.cons_append, List.nil_append, List.append_nil, List.getElem?_cons_zero, List.getElem?_cons_succ, Option.some.injEq, V.int.injEq, V.bl.injEq, V.str.injEq, V.ref.injEq, V.ty.injEq, List.cons.injEq, and_true, true_and, exists_eq_left, exists_eq_left', exists_and_left, exists_and_right, decide_eq_true_eq, List.set_cons_zero, List.set_cons_succ, Bool.not_eq_true', decide_eq_false_iff_not, isi_NoneType_int, isi_NoneType_bool, isi_NoneType_tuple, isi_NoneType_str, isi_NoneType_list, isi_bool_int, isi_bool_bool, isi_bool_tuple, isi_bool_str, isi_bool_list, isi_int_int, isi_int_bool, isi_int_tuple, isi_int_str, isi_int_list, isi_str_int, isi_str_bool, isi_str_tuple, isi_str_str, isi_str_list, isi_list_int, isi_list_bool, isi_list_tuple, isi_list_str, isi_list_list, isi_tuple_int, isi_tuple_bool, isi_tuple_tuple, isi_tuple_str, isi_tuple_list, Bool.false_eq_true, if_true, if_false, reduceIte, Bool.not_true, Bool.not_false, reduceCtorEq, false_and, and_false, exists_false, exists_const, scal_int, scal_bl, scal_str, absE, ne_eq, not_true_eq_false, not_false_eq_true, Int.natCast_add, Int.cast_ofNat_Int, and_assoc, tChain3, tTupF, rTupOfF]
                  refine ite2 (fun h => ?_) (fun h => ?_)
                  · exact ⟨_, rfl, fin (no (lw_ab (by omega))) e12⟩
                  refine ite2 (fun h => ?_) (fun h => ?_)
                  · exact ⟨_, rfl, fin (no (lw_ab (by omega))) e12⟩
                  have hab : 0 ≤ z1 ∧ 0 ≤ z2 ∧ z1 < z2 ∧ z2 < n := by omega
                  refine ⟨_, _, rfl, k3.kn, ?_⟩
                  rw [k3.isInt]
                  cases hi3 : isInt f3 with
                  | false =>
                    simp only [tSeq, tAsg, gName, tRet, tRetN, tDrop, tIfS, tNext, tBreak, tCont, tTest, tB, tVar, tC, tCons, tNil, tCB, tCall, tCallK, tOp, tUn, rI0, rI, rU, rEq, rNe, tAnd, tOr, tNot, tAndV, tOrV, tNotV, tTup, tLst, tIf, gTup, gCons, gNil, tPar, tAug, ipI, gSub, L2.start, cxOf, Cx.nox, List.map_cons, List.map_nil, List.length_cons, List.length_nil, List.replicate, Nat.reduceAdd, Nat.reduceSub, List.cons_append, List.nil_append, List.append_nil, List.getElem?_cons_zero, List.getElem?_cons_succ, Option.some.injEq, V.int.injEq, V.bl.injEq, V.str.injEq, V.ref.injEq, V.ty.injEq, List.cons.injEq, and_true, true_and, exists_eq_left, exists_eq_left', exists_and_left, exists_and_right, decide_eq_true_eq, List.set_cons_zero, List.set_cons_succ, Bool.not_eq_true', decide_eq_false_iff_not, isi_NoneType_int, isi_NoneType_bool, isi_NoneType_tuple, isi_NoneType_str, isi_NoneType_list, isi_bool_int, isi_bool_bool, isi_bool_tuple, isi_bool_str, isi_bool_list, isi_int_int, isi_int_bool, isi_int_tuple, isi_int_str, isi_int_list, isi_str_int, isi_str_bool, isi_str_tuple, isi_str_str, isi_str_list, isi_list_int, isi_list_bool, isi_list_tuple, isi_list_str, isi_list_list, isi_tuple_int, isi_tuple_bool, isi_tuple_tuple, isi_tuple_str, isi_tuple_list, Bool.false_eq_true, if_true, if_false, reduceIte, Bool.not_true, Bool.not_false, reduceCtorEq, false_and, and_false, exists_false, exists_const, scal_int, scal_bl, scal_str, absE, ne_eq, not_true_eq_false, not_false_eq_true, Int.natCast_add, Int.cast_ofNat_Int, and_assoc, tChain3, tTupF, rTupOfF]
                    exact ⟨_, rfl, fin (no (lw_c hab hi3)) e12⟩
                  | true =>
                    obtain ⟨z3, rfl⟩ := isInt_int hi3
                    obtain ⟨rfl, _⟩ := k3
                    simp only [tSeq, tAsg, gName, tRet, tRetN, tDrop, tIfS, tNext, tBreak, tCont, tTest, tB, tVar, tC, tCons, tNil, tCB, tCall, tCallK, tOp, tUn, rI0, rI, rU, rEq, rNe, tAnd, tOr, tNot, tAndV, tOrV, tNotV, tTup, tLst, tIf, gTup, gCons, gNil, tPar, tAug, ipI, gSub, L2.start, cxOf, Cx.nox, List.map_cons, List.map_nil, List.length_cons, List.length_nil, List.replicate, Nat.reduceAdd, Nat.reduceSub, List.cons_append, List.nil_append, List.append_nil, List.getElem?_cons_zero, List.getElem?_cons_succ, Option.some.injEq, V.int.injEq, V.bl.injEq, V.str.injEq, V.ref.injEq, V.ty.injEq, List.cons.injEq, and_true, true_and, exists_eq_left, exists_eq_left', exists_and_left, exists_and_right, decide_eq_true_eq, List.set_cons_zero, List.set_cons_succ, Bool.not_eq_true', decide_eq_false_iff_not, isi_NoneType_int, isi_NoneType_bool, isi_NoneType_tuple, isi_NoneType_str, isi_NoneType_list, isi_bool_int, isi_bool_bool, isi_bool_tuple, isi_bool_str, isi_bool_list, isi_int_int, isi_int_bool, isi_int_tuple, isi_int_str, isi_int_list, isi_str_int, isi_str_bool, isi_str_tuple, isi_str_str, isi_str_list, isi_list_int, isi_list_bool, isi_list_tuple, isi_list_str, isi_list_list, isi_tuple_int, isi_tuple_bool, isi_tuple_tuple, isi_tuple_str, isi_tuple_list, Bool.false_eq_true, if_true, if_false, reduceIte, Bool.not_true, Bool.not_false, reduceCtorEq, false_and, and_false, exists_false, exists_const, scal_int, scal_bl, scal_str, absE, ne_eq, not_true_eq_false, not_false_eq_true, Int.natCast_add, Int.cast_ofNat_Int, and_assoc, tChain3, tTupF, rTupOfF]
                    refine ite2 (fun h => ?_) (fun h => ?_)
                    · exact ⟨_, rfl, fin (no (by rw [lw_r hab, if_neg (by omega)])) e12⟩
                    · exact ⟨e12, yes (by rw [lw_r hab, if_pos (by omega)])⟩
            | _ =>
              simp only [tSeq, tAsg, gName, tRet, tRetN, tDrop, tIfS, tNext, tBreak, tCont, tTest, tB, tVar, tC, tCons, tNil, tCB, tCall, tCallK, tOp, tUn, rI0, rI, rU, rEq, rNe, tAnd, tOr, tNot, tAndV, tOrV, tNotV, tTup, tLst, tIf, gTup, gCons, gNil, tPar, tAug, ipI, gSub, L2.start, cxOf, Cx.nox, List.map_cons, List.map_nil, List.length_cons, List.length_nil, List.replicate, Nat.reduceAdd, Nat.reduceSub, List.cons_append, List.nil_append, List.append_nil, List.getElem?_cons_zero, List.getElem?_cons_succ, Option.some.injEq, V.int.injEq, V.bl.injEq, V.str.injEq, V.ref.injEq, V.ty.injEq, List.cons.injEq, and_true, true_and, exists_eq_left, exists_eq_left', exists_and_left, exists_and_right, decide_eq_true_eq, List.set_cons_zero, List.set_cons_succ, Bool.not_eq_true', decide_eq_false_iff_not, isi_NoneType_int, isi_NoneType_bool, isi_NoneType_tuple, isi_NoneType_str, isi_NoneType_list, isi_bool_int, isi_bool_bool, isi_bool_tuple, isi_bool_str, isi_bool_list, isi_int_int, isi_int_bool, isi_int_tuple, isi_int_str, isi_int_list, isi_str_int, isi_str_bool, isi_str_tuple, isi_str_str, isi_str_list, isi_list_int, isi_list_bool, isi_list_tuple, isi_list_str, isi_list_list, isi_tuple_int, isi_tuple_bool, isi_tuple_tuple, isi_tuple_str, isi_tuple_list, Bool.false_eq_true, if_true, if_false, reduceIte, Bool.not_true, Bool.not_false, reduceCtorEq, false_and, and_false, exists_false, exists_const, scal_int, scal_bl, scal_str, absE, ne_eq, not_true_eq_false, not_false_eq_true, Int.natCast_add, Int.cast_ofNat_Int, and_assoc, tChain3, tTupF, rTupOfF, kindOf]
              exact ⟨_, rfl, fin (no rfl) e12⟩
          · rintro σ' H' ⟨e, x3, x4, x5, x6, x7, rfl, hj⟩
            rw [← hls.len, List.drop_length] at hj
            simp only [tSeq, tAsg, gName, tRet, tRetN, tDrop, tIfS, tNext, tBreak, tCont, tTest, tB, tVar, tC, tCons, tNil, tCB, tCall, tCallK, tOp, tUn, rI0, rI, rU, rEq, rNe, tAnd, tOr, tNot, tAndV, tOrV, tNotV, tTup, tLst, tIf, gTup, gCons, gNil, tPar, tAug, ipI, gSub, L2.start, cxOf, Cx.nox, List.map_cons, List.map_nil, List.length_cons, List.length_nil, List.replicate, Nat.reduceAdd, Nat.reduceSub, List.cons_append, List.nil_append, List.append_nil, List.getElem?_cons_zero, List.getElem?_cons_succ, Option.some.injEq, V.int.injEq, V.bl.injEq, V.str.injEq, V.ref.injEq, V.ty.injEq, List.cons.injEq, and_true, true_and, exists_eq_left, exists_eq_left', exists_and_left, exists_and_right, decide_eq_true_eq, List.set_cons_zero, List.set_cons_succ, Bool.not_eq_true', decide_eq_false_iff_not, isi_NoneType_int, isi_NoneType_bool, isi_NoneType_tuple, isi_NoneType_str, isi_NoneType_list, isi_bool_int, isi_bool_bool, isi_bool_tuple, isi_bool_str, isi_bool_list, isi_int_int, isi_int_bool, isi_int_tuple, isi_int_str, isi_int_list, isi_str_int, isi_str_bool, isi_str_tuple, isi_str_str, isi_str_list, isi_list_int, isi_list_bool, isi_list_tuple, isi_list_str, isi_list_list, isi_tuple_int, isi_tuple_bool, isi_tuple_tuple, isi_tuple_str, isi_tuple_list, Bool.false_eq_true, if_true, if_false, reduceIte, Bool.not_true, Bool.not_false, reduceCtorEq, false_and, and_false, exists_false, exists_const, scal_int, scal_bl, scal_str, absE, ne_eq, not_true_eq_false, not_false_eq_true, Int.natCast_add, Int.cast_ofNat_Int, and_assoc, tChain3, tTupF, rTupOfF]
            refine ⟨_, .inr ((hla.ex e).sq), ?_⟩
            have q3 := q hj.symm H' e
            rw [← hls.len]
            exact q3
        | _ =>
          simp only [tSeq, tAsg, gName, tRet, tRetN, tDrop, tIfS, tNext, tBreak, tCont, tTest, tB, tVar, tC, tCons, tNil, tCB, tCall, tCallK, tOp, tUn, rI0, rI, rU, rEq, rNe, tAnd, tOr, tNot, tAndV, tOrV, tNotV, tTup, tLst, tIf, gTup, gCons, gNil, tPar, tAug, ipI, gSub, L2.start, cxOf, Cx.nox, List.map_cons, List.map_nil, List.length_cons, List.length_nil, List.replicate, Nat.reduceAdd, Nat.reduceSub, List.cons_append, List.nil_append, List.append_nil, List.getElem?_cons_zero, List.getElem?_cons_succ, Option.some.injEq, V.int.injEq, V.bl.injEq, V.str.injEq, V.ref.injEq, V.ty.injEq, List.cons.injEq, and_true, true_and, exists_eq_left, exists_eq_left', exists_and_left, exists_and_right, decide_eq_true_eq, List.set_cons_zero, List.set_cons_succ, Bool.not_eq_true', decide_eq_false_iff_not, isi_NoneType_int, isi_NoneType_bool, isi_NoneType_tuple, isi_NoneType_str, isi_NoneType_list, isi_bool_int, isi_bool_bool, isi_bool_tuple, isi_bool_str, isi_bool_list, isi_int_int, isi_int_bool, isi_int_tuple, isi_int_str, isi_int_list, isi_str_int, isi_str_bool, isi_str_tuple, isi_str_str, isi_str_list, isi_list_int, isi_list_bool, isi_list_tuple, isi_list_str, isi_list_list, isi_tuple_int, isi_tuple_bool, isi_tuple_tuple, isi_tuple_str, isi_tuple_list, Bool.false_eq_true, if_true, if_false, reduceIte, Bool.not_true, Bool.not_false, reduceCtorEq, false_and, and_false, exists_false, exists_const, scal_int, scal_bl, scal_str, absE, ne_eq, not_true_eq_false, not_false_eq_true, Int.natCast_add, Int.cast_ofNat_Int, and_assoc, tChain3, tTupF, rTupOfF, kindOf]
          exact ⟨_, rfl, fin (by simp only [word]; rw [if_neg hn]) (Evl.Ex.refl _)⟩
    | _ =>
      simp only [tSeq, tAsg, gName, tRet, tRetN, tDrop, tIfS, tNext, tBreak, tCont, tTest, tB, tVar, tC, tCons, tNil, tCB, tCall, tCallK, tOp, tUn, rI0, rI, rU, rEq, rNe, tAnd, tOr, tNot, tAndV, tOrV, tNotV, tTup, tLst, tIf, gTup, gCons, gNil, tPar, tAug, ipI, gSub, L2.start, cxOf, Cx.nox, List.map_cons, List.map_nil, List.length_cons, List.length_nil, List.replicate, Nat.reduceAdd, Nat.reduceSub, List.cons_append, List.nil_append, List.append_nil, List.getElem?_cons_zero, List.getElem?_cons_succ, Option.some.injEq, V.int.injEq, V.bl.injEq, V.str.injEq, V.ref.injEq, V.ty.injEq, List.cons.injEq, and_true, true_and, exists_eq_left, exists_eq_left', exists_and_left, exists_and_right, decide_eq_true_eq, List.set_cons_zero, List.set_cons_succ, Bool.not_eq_true', decide_eq_false_iff_not, isi_NoneType_int, isi_NoneType_bool, isi_NoneType_tuple, isi_NoneType_str, isi_NoneType_list, isi_bool_int, isi_bool_bool, isi_bool_tuple, isi_bool_str, isi_bool_list, isi_int_int, isi_int_bool, isi_int_tuple, isi_int_str, isi_int_list, isi_str_int, isi_str_bool, isi_str_tuple, isi_str_str, isi_str_list, isi_list_int, isi_list_bool, isi_list_tuple, isi_list_str, isi_list_list, isi_tuple_int, isi_tuple_bool, isi_tuple_tuple, isi_tuple_str, isi_tuple_list, Bool.false_eq_true, if_true, if_false, reduceIte, Bool.not_true, Bool.not_false, reduceCtorEq, false_and, and_false, exists_false, exists_const, scal_int, scal_bl, scal_str, absE, ne_eq, not_true_eq_false, not_false_eq_true, Int.natCast_add, Int.cast_ofNat_Int, and_assoc, tChain3, tTupF, rTupOfF, kindOf]
      exact ⟨_, rfl, fin rfl (Evl.Ex.refl _)⟩
end
end K00
end
section
set_option Elab.async false
set_option linter.all false
set_option maxRecDepth 100000
set_option maxHeartbeats 4000000
namespace K00
open PySem PySem.Spec PyProof.Rows L2 Pour
theorem for_seqE {K : PySem.W.Frag} {a : Addr} {xs : List V} {tl : TE} {g : TG} {tb : TS} {D : Ends} {σ : L2.St} {H : Hp} (hta : ∀ Q', Q' (.ref a) H → tl σ H Q') (Pv : Nat → L2.St → Hp → Prop) (h0 : Pv 0 σ H) (hl : ∀ i σ H, i ≤ xs.length → Pv i σ H → SqL K H a xs)
    (hs : ∀ i x σ H, xs[i]? = some x → Pv i σ H → g x σ H fun σ2 H2 => tb { D with nx := Pv (i + 1), ct := Pv (i + 1), bk := D.nx } σ2 H2) (hd : ∀ σ H, Pv xs.length σ H → D.nx σ H) : tFor (iList K tl) g tb D σ H :=
  hta _ ⟨a, rfl, ⟨xs, hl 0 σ H (Nat.zero_le _) h0⟩, for_list Pv h0 hl hs hd⟩
/-! ### the law's pool of draws: a list of ints at p, that the draws change -/
def Pool (H : Hp) (p : Addr) : Prop := ∃ ns : List Int, H p = some (.lst (ns.map V.int)) ∧ ns.length ≤ 4000
structure Ch (p : Addr) (H H' : Hp) : Prop where
  keep : Keep (· = p) H H'
  st : Pool H' p
theorem Pool.ex {H H' : Hp} {p : Addr} (h : Pool H p) (e : Evl.Ex H H') : Pool H' p := by
  obtain ⟨ns, h, l⟩ := h
  exact ⟨ns, e _ _ h, l⟩
theorem Keep.of {p : Addr → Prop} {H H' : Hp} (e : Evl.Ex H H') : Keep p H H' := fun b o _ h => e b o h
theorem Ch.refl {p : Addr} {H : Hp} (h : Pool H p) : Ch p H H := ⟨fun _ _ _ e => e, h⟩
theorem Ch.trans {p : Addr} {H H1 H2 : Hp} (a : Ch p H H1) (b : Ch p H1 H2) : Ch p H H2 := ⟨fun c o n e => b.keep c o n (a.keep c o n e), b.st⟩
theorem Ch.ex {p : Addr} {H H1 H2 : Hp} (a : Ch p H H1) (b : Evl.Ex H1 H2) : Ch p H H2 := ⟨fun c o n e => b _ _ (a.keep c o n e), a.st.ex b⟩
theorem Ch.of {p : Addr} {H H' : Hp} (h : Pool H p) (e : Evl.Ex H H') : Ch p H H' := (Ch.refl h).ex e
theorem Pool.ne_new {p q : Addr} {H : Hp} (hs : Pool H p) (h : H q = none) : q ≠ p := by
  rintro rfl
  obtain ⟨_, e, _⟩ := hs
  rw [h] at e
  cases e
theorem Pool.ne_tup {p q : Addr} {H : Hp} {xs : List V} (hs : Pool H p) (h : H q = some (.tup xs)) : q ≠ p := by
  rintro rfl
  obtain ⟨_, e, _⟩ := hs
  rw [h] at e
  cases e
theorem Ch.tup {p q : Addr} {H H' : Hp} {xs : List V} (a : Ch p H H') (hs : Pool H p) (h : H q = some (.tup xs)) : H' q = some (.tup xs) := a.keep _ _ (hs.ne_tup h) h
theorem Ch.fresh {p q : Addr} {H H' : Hp} (a : Ch p H H') (h : H' q = none) (hs : Pool H p) : H q = none := by
  have ne := a.st.ne_new h
  cases e : H q with
  | none => rfl
  | some o =>
    rw [a.keep q o ne e] at h
    cases h
theorem Ch.dt {p : Addr} {S : Addr → Prop} {B : Int} {H H' : Hp} {d : PyData} {v : V} (a : Ch p H H') (h : Dt S B H d v) (hS : S p) : Dt S B H' d v := Dt.mono (Int.le_refl _) (fun b o nb e => a.keep b o (fun z => nb (by cases z; exact hS)) e) d v h
theorem Dt.ex {p : Addr → Prop} {B : Int} {H H' : Hp} {d : PyData} {v : V} (h : Dt p B H d v) (e : Evl.Ex H H') : Dt p B H' d v := Dt.mono (Int.le_refl _) (Keep.of e) d v h
section
variable {P : Program} {w : World} {K : PySem.W.Frag} {mg : Str → Option Value} {base : Heap}
def spPool (K : PySem.W.Frag) : Sp := fun vs H Q _ => ∃ (a : Addr) (ns : List Int), vs = [.ref a] ∧ SqL K H a (ns.map V.int) ∧ ∀ p H', Pool H' p → Q (.ref p) H'
theorem ok__law_pool (T : Txt K mg) : Keeps P w K mg base CX0 1 d_s__law_pool ["_law_script"] (spPool K) := by
  obtain ⟨fd, F⟩ := f__law_pool T
  refine ⟨fd, F, F.ok sc__law_pool (fun vs H Q E h => ?_) (fun cdv A outer s H vs Q E hr h => ⟨_, PSs.nox
    (pss_cons (ps_set (i := 1) sc__law_pool.nd rfl (Or.inl rfl) (pe_lst pa_nil))
      (pss_cons (ps_if (pt_cmpR op_eq (pe_callB call_len_seq rfl (n_len T) (by decide +kernel) (pa_cons (pv 0) pa_nil)) pe_int (nomark _)) (pss_one (ps_ret (pv 1))) pss_nil)
      (pss_cons (ps_set (i := 2) sc__law_pool.nd rfl (Or.inl rfl) pe_int)
      (pss_cons (ps_for PassesOwn.never rfl (pi_list (pv 0)) (pg_name (i := 3) sc__law_pool.nd rfl (Or.inl rfl)) (pss_cons (ps_set (i := 2) sc__law_pool.nd rfl (Or.inl rfl) (pe_op op_mod (pe_callTy call_int1 rfl (n_int T) (by decide +kernel) (pa_cons (pe_op op_add (pe_op op_add (pe_op op_mulW (pv 2) pe_int) (pe_op op_mod (pe_callTy call_int1 rfl (n_int T) (by decide +kernel) (pa_cons (pv 3) pa_nil)) pe_int)) pe_int) pa_nil)) pe_int))
      (pss_one (ps_if (pt_cmpR op_lt (pe_callB call_len_seq rfl (n_len T) (by decide +kernel) (pa_cons (pv 1) pa_nil)) pe_int (nomark _)) (pss_one (ps_if (pt_cmpR op_ge (pv 3) (pe_op op_pow pe_int pe_int) (nomark _)) (pss_cons (ps_set (i := 4) sc__law_pool.nd rfl (Or.inl rfl) (pv 3))
      (pss_one (ps_for PassesOwn.never rfl (pi_range1 rfl (n_range T) (pa_cons pe_int pa_nil)) (pg_name (i := 5) sc__law_pool.nd rfl (Or.inl rfl)) (pss_cons (ps_if (pt_cmpR op_eq (pv 4) pe_int (nomark _)) (pss_one ps_break) pss_nil)
      (pss_cons (ps_expr (pe_bm PySem.F.plainAttrs_list PySem.F.slot_list_append PySem.F.type_list_append mt_append (pv 1) (pa_cons (pe_op op_mod (pe_callTy call_int1 rfl (n_int T) (by decide +kernel) (pa_cons (pv 4) pa_nil)) pe_int) pa_nil)))
      (pss_one (ps_set (i := 4) sc__law_pool.nd rfl (Or.inl rfl) (pe_op op_fdivW (pv 4) pe_int)))))))) (pss_one (ps_expr (pe_bm PySem.F.plainAttrs_list PySem.F.slot_list_append PySem.F.type_list_append mt_append (pv 1) (pa_cons (pe_op op_mod (pe_callTy call_int1 rfl (n_int T) (by decide +kernel) (pa_cons (pe_op op_add (pe_op op_mulW (pe_op op_fdivW (pv 2) pe_int) pe_int) (pv 2)) pa_nil)) pe_int) pa_nil)))))) pss_nil))))
      (pss_cons (ps_for PassesOwn.never rfl (pi_range1 rfl (n_range T) (pa_cons pe_int pa_nil)) (pg_name (i := 5) sc__law_pool.nd rfl (Or.inl rfl)) (pss_cons (ps_set (i := 2) sc__law_pool.nd rfl (Or.inl rfl) (pe_op op_mod (pe_callTy call_int1 rfl (n_int T) (by decide +kernel) (pa_cons (pe_op op_add (pe_op op_add (pe_op op_mulW (pv 2) pe_int) pe_int) (pv 5)) pa_nil)) pe_int))
      (pss_one (ps_expr (pe_bm PySem.F.plainAttrs_list PySem.F.slot_list_append PySem.F.type_list_append mt_append (pv 1) (pa_cons (pe_op op_mod (pe_callTy call_int1 rfl (n_int T) (by decide +kernel) (pa_cons (pe_op op_add (pe_op op_mulW (pe_op op_fdivW (pv 2) pe_int) (pv 2)) (pe_op op_fdivW (pv 2) pe_int)) pa_nil)) pe_int) pa_nil))))))
      (pss_one (ps_ret (pe_revL (pv 1))))))))), ?_⟩)⟩
  · obtain ⟨a, ns, rfl, _⟩ := h
    rfl
  · obtain ⟨a, ns, rfl, ha, ret⟩ := h
    simp only [tSeq, tAsg, gName, tRet, tRetN, tDrop, tIfS, tNext, tBreak, tCont, tTest, tB, tVar, tC, tCons, tNil, tCB, tCall, tCallK, tOp, tUn, rI0, rI, rU, rEq, rNe, tAnd, tOr, tNot, tAndV, tOrV, tNotV, tTup, tLst, tIf, gTup, gCons, gNil, tPar, tAug, ipI, gSub, L2.start, cxOf, Cx.nox, List.map_cons, List.map_nil, List.length_cons, List.length_nil, List.replicate, Nat.reduceAdd, Nat.reduceSub, List.cons_append, List.nil_append, List.append_nil, List.getElem?_cons_zero, List.getElem?_cons_succ, Option.some.injEq, V.int.injEq, V.bl.injEq, V.str.injEq, V.ref.injEq, V.ty.injEq, List.cons.injEq, and_true, true_and, exists_eq_left, exists_eq_left', exists_and_left, exists_and_right, decide_eq_true_eq, List.set_cons_zero, List.set_cons_succ, Bool.not_eq_true', decide_eq_false_iff_not, isi_NoneType_int, isi_NoneType_bool, isi_NoneType_tuple, isi_NoneType_str, isi_NoneType_list, isi_bool_int, isi_bool_bool, isi_bool_tuple, isi_bool_str, isi_bool_list, isi_int_int, isi_int_bool, isi_int_tuple, isi_int_str, isi_int_list, isi_str_int, isi_str_bool, isi_str_tuple, isi_str_str, isi_str_list, isi_list_int, isi_list_bool, isi_list_tuple, isi_list_str, isi_list_list, isi_tuple_int, isi_tuple_bool, isi_tuple_tuple, isi_tuple_str, isi_tuple_list, Bool.false_eq_true, if_true, if_false, reduceIte, Bool.not_true, Bool.not_false, reduceCtorEq, false_and, and_false, exists_false, exists_const, scal_int, scal_bl, scal_str, absE, ne_eq, not_true_eq_false, not_false_eq_true, Int.natCast_add, Int.cast_ofNat_Int, and_assoc, tChain3, tTupF, rTupOfF, tRevL]
    refine ⟨by decide, fun p hp => ?_⟩
    have e0 := Evl.Ex.new (o := HO.lst []) hp
    have hp0 : upd H p (HO.lst []) p = some (.lst []) := upd_same
    refine ⟨_, .inl (Evl.ex_l e0 ha), ?_⟩
    refine ite2 (fun h => ret p _ ⟨[], hp0, by decide⟩) (fun h => ?_)
    -- one more number in the pool
    have app : ∀ {H' : Hp} {ms : List Int} (y : Int), Evl.Ex H H' → H' p = some (.lst (ms.map V.int)) → Evl.Ex H (upd H' p (.lst (ms.map V.int ++ [.int y]))) ∧ upd H' p (.lst (ms.map V.int ++ [.int y])) p = some (.lst ((ms ++ [y]).map V.int)) := fun {H' ms} y e hm => by
      refine ⟨Evl.Ex.mut e hp, ?_⟩
      rw [upd_same, List.map_append]
      rfl
    refine for_seqE (a := a) (xs := ns.map V.int) (fun Q' h => ⟨_, rfl, h⟩) (fun i σ' H' => Evl.Ex H H' ∧ ∃ (ms : List Int) (st : Int) (x3 x4 x5 : Option V), σ' = [some (.ref a), some (.ref p), some (.int st), x3, x4, x5] ∧
      H' p = some (.lst (ms.map V.int)) ∧ ms.length ≤ 180 ∧ 0 ≤ st ∧ st < 2147483647) ?_ ?_ ?_ ?_
    · exact ⟨e0, [], 20011, none, none, none, rfl, hp0, by decide, by decide, by decide⟩
    · rintro i σ' H' _ ⟨e, _⟩
      exact Evl.ex_l e ha
    · rintro i x σ' H' hi ⟨e, ms, st, x3, x4, x5, rfl, hm, hl, s0, s1⟩
      obtain ⟨z, hz, rfl⟩ := int_at hi
      simp only [tSeq, tAsg, gName, tRet, tRetN, tDrop, tIfS, tNext, tBreak, tCont, tTest, tB, tVar, tC, tCons, tNil, tCB, tCall, tCallK, tOp, tUn, rI0, rI, rU, rEq, rNe, tAnd, tOr, tNot, tAndV, tOrV, tNotV, tTup, tLst, tIf, gTup, gCons, gNil, tPar, tAug, ipI, gSub, L2.start, cxOf, Cx.nox, List.map_cons, List.map_nil, List.length_cons, List.length_nil, List.replicate, Nat.reduceAdd, Nat.reduceSub, List.cons_append, List.nil_append, List.append_nil, List.getElem?_cons_zero, List.getElem?_cons_succ, Option.some.injEq, V.int.injEq, V.bl.injEq, V.str.injEq, V.ref.injEq, V.ty.injEq, List.cons.injEq, and_true, true_and, exists_eq_left, exists_eq_left', exists_and_left, exists_and_right, decide_eq_true_eq, List.set_cons_zero, List.set_cons_succ, Bool.not_eq_true', decide_eq_false_iff_not, isi_NoneType_int, isi_NoneType_bool, isi_NoneType_tuple, isi_NoneType_str, isi_NoneType_list, isi_bool_int, isi_bool_bool, isi_bool_tuple, isi_bool_str, isi_bool_list, isi_int_int, isi_int_bool, isi_int_tuple, isi_int_str, isi_int_list, isi_str_int, isi_str_bool, isi_str_tuple, isi_str_str, isi_str_list, isi_list_int, isi_list_bool, isi_list_tuple, isi_list_str, isi_list_list, isi_tuple_int, isi_tuple_bool, isi_tuple_tuple, isi_tuple_str, isi_tuple_list, Bool.false_eq_true, if_true, if_false, reduceIte, Bool.not_true, Bool.not_false, reduceCtorEq, false_and, and_false, exists_false, exists_const, scal_int, scal_bl, scal_str, absE, ne_eq, not_true_eq_false, not_false_eq_true, Int.natCast_add, Int.cast_ofNat_Int, and_assoc, tChain3, tTupF, rTupOfF]
      refine ⟨wide_mul (a := 32) (b := 20) (by omega) (by decide) (by decide) (by decide) (by decide), ?_⟩
      refine .inl ⟨by decide, .inl ⟨by decide, ?_⟩⟩
      have m1 := Int.emod_nonneg (st * 48271 + z % 2147483629 + 3) (b := 2147483647) (by decide)
      have m2 := Int.emod_lt_of_pos (st * 48271 + z % 2147483629 + 3) (b := 2147483647) (by decide)
      generalize (st * 48271 + z % 2147483629 + 3) % 2147483647 = st' at *
      refine ⟨_, .inl (SqL.of hm), ?_⟩
      rw [List.length_map]
      refine ite2 (fun h => ?_) (fun h => ⟨e, ms, hm, hl, m1, m2⟩)
      refine ⟨⟨by decide, by decide, by decide⟩, ite2 (fun h => ?_) (fun h => ?_)⟩
      · refine for_rangeE (n := 60) (by decide) (fun Q' h => h) (fun k σ' H2 => Evl.Ex H H2 ∧ ∃ (ms : List Int) (lf : Int) (x5 : Option V), σ' = [some (.ref a), some (.ref p), some (.int st'), some (.int z), some (.int lf), x5] ∧
          H2 p = some (.lst (ms.map V.int)) ∧ ms.length ≤ 120 + k) ?_ ?_ ?_
        · exact ⟨e, ms, z, x5, rfl, hm, by omega⟩
        · rintro k σ' H2 hk ⟨e, ms, lf, x5, rfl, hm, hl⟩
          simp only [tSeq, tAsg, gName, tRet, tRetN, tDrop, tIfS, tNext, tBreak, tCont, tTest, tB, tVar, tC, tCons, tNil, tCB, tCall, tCallK, tOp, tUn, rI0, rI, rU, rEq, rNe, tAnd, tOr, tNot, tAndV, tOrV, tNotV, tTup, tLst, tIf, gTup, gCons, gNil, tPar, tAug, ipI, gSub, L2.start, cxOf, Cx.nox, List.map_cons, List.map_nil, List.length_cons, List.length_nil, List.replicate, Nat.reduceAdd, Nat.reduceSub, List.cons_append, List.nil_append, List.append_nil, List.getElem?_cons_zero, List.getElem?_cons_succ, Option.some.injEq, V.int.injEq, V.bl.injEq, V.str.injEq, V.ref.injEq, V.ty.injEq, List.cons.injEq, and_true, true_and, exists_eq_left, exists_eq_left', exists_and_left, exists_and_right, decide_eq_true_eq, List.set_cons_zero, List.set_cons_succ, Bool.not_eq_true', decide_eq_false_iff_not, isi_NoneType_int, isi_NoneType_bool, isi_NoneType_tuple, isi_NoneType_str, isi_NoneType_list, isi_bool_int, isi_bool_bool, isi_bool_tuple, isi_bool_str, isi_bool_list, isi_int_int, isi_int_bool, isi_int_tuple, isi_int_str, isi_int_list, isi_str_int, isi_str_bool, isi_str_tuple, isi_str_str, isi_str_list, isi_list_int, isi_list_bool, isi_list_tuple, isi_list_str, isi_list_list, isi_tuple_int, isi_tuple_bool, isi_tuple_tuple, isi_tuple_str, isi_tuple_list, Bool.false_eq_true, if_true, if_false, reduceIte, Bool.not_true, Bool.not_false, reduceCtorEq, false_and, and_false, exists_false, exists_const, scal_int, scal_bl, scal_str, absE, ne_eq, not_true_eq_false, not_false_eq_true, Int.natCast_add, Int.cast_ofNat_Int, and_assoc, tChain3, tTupF, rTupOfF, tBM, rAppend, tBreak, tTest]
          refine ite2 (fun h => ?_) (fun h => ?_)
          · exact ⟨e, ⟨_, rfl⟩, ms, hm, by omega, m1, m2⟩
          refine ⟨.inl ⟨rfl, _, SqL.of hm⟩, .inl ⟨by decide, _, hm, by rw [List.length_map, sizeLine_eq]; omega, wide_div (b := 20) (by decide) (by decide) (by decide) (by decide), ?_⟩⟩
          obtain ⟨f1, f2⟩ := app (lf % 1009) e hm
          exact ⟨f1, _, f2, by rw [List.length_append]; simp only [List.length_cons, List.length_nil]; omega⟩
        · rintro σ' H2 ⟨e, ms, lf, x5, rfl, hm, hl⟩
          exact ⟨e, ms, _, ⟨_, _, _, rfl⟩, hm, by omega, m1, m2⟩
      · simp only [tSeq, tAsg, gName, tRet, tRetN, tDrop, tIfS, tNext, tBreak, tCont, tTest, tB, tVar, tC, tCons, tNil, tCB, tCall, tCallK, tOp, tUn, rI0, rI, rU, rEq, rNe, tAnd, tOr, tNot, tAndV, tOrV, tNotV, tTup, tLst, tIf, gTup, gCons, gNil, tPar, tAug, ipI, gSub, L2.start, cxOf, Cx.nox, List.map_cons, List.map_nil, List.length_cons, List.length_nil, List.replicate, Nat.reduceAdd, Nat.reduceSub, List.cons_append, List.nil_append, List.append_nil, List.getElem?_cons_zero, List.getElem?_cons_succ, Option.some.injEq, V.int.injEq, V.bl.injEq, V.str.injEq, V.ref.injEq, V.ty.injEq, List.cons.injEq, and_true, true_and, exists_eq_left, exists_eq_left', exists_and_left, exists_and_right, decide_eq_true_eq, List.set_cons_zero, List.set_cons_succ, Bool.not_eq_true', decide_eq_false_iff_not, isi_NoneType_int, isi_NoneType_bool, isi_NoneType_tuple, isi_NoneType_str, isi_NoneType_list, isi_bool_int, isi_bool_bool, isi_bool_tuple, isi_bool_str, isi_bool_list, isi_int_int, isi_int_bool, isi_int_tuple, isi_int_str, isi_int_list, isi_str_int, isi_str_bool, isi_str_tuple, isi_str_str, isi_str_list, isi_list_int, isi_list_bool, isi_list_tuple, isi_list_str, isi_list_list, isi_tuple_int, isi_tuple_bool, isi_tuple_tuple, isi_tuple_str, isi_tuple_list, Bool.false_eq_true, if_true, if_false, reduceIte, Bool.not_true, Bool.not_false, reduceCtorEq, false_and, and_false, exists_false, exists_const, scal_int, scal_bl, scal_str, absE, ne_eq, not_true_eq_false, not_false_eq_true, Int.natCast_add, Int.cast_ofNat_Int, and_assoc, tChain3, tTupF, rTupOfF, tBM, rAppend]
        refine ⟨.inl ⟨rfl, _, SqL.of hm⟩, wide_div (b := 20) (by decide) (by decide) (by decide) (by decide), wide_mul (a := 32) (b := 20) (by omega) (by decide) (by decide) (by decide) (by decide), .inl ⟨by decide, _, hm, by rw [List.length_map, sizeLine_eq]; omega, ?_⟩⟩
        obtain ⟨f1, f2⟩ := app _ e hm
        exact ⟨f1, _, f2, by rw [List.length_append]; simp only [List.length_cons, List.length_nil]; omega, m1, m2⟩
    · rintro σ' H' ⟨e, ms, st, x3, x4, x5, rfl, hm, hl, s0, s1⟩
      simp only [tSeq, tAsg, gName, tRet, tRetN, tDrop, tIfS, tNext, tBreak, tCont, tTest, tB, tVar, tC, tCons, tNil, tCB, tCall, tCallK, tOp, tUn, rI0, rI, rU, rEq, rNe, tAnd, tOr, tNot, tAndV, tOrV, tNotV, tTup, tLst, tIf, gTup, gCons, gNil, tPar, tAug, ipI, gSub, L2.start, cxOf, Cx.nox, List.map_cons, List.map_nil, List.length_cons, List.length_nil, List.replicate, Nat.reduceAdd, Nat.reduceSub, List.cons_append, List.nil_append, List.append_nil, List.getElem?_cons_zero, List.getElem?_cons_succ, Option.some.injEq, V.int.injEq, V.bl.injEq, V.str.injEq, V.ref.injEq, V.ty.injEq, List.cons.injEq, and_true, true_and, exists_eq_left, exists_eq_left', exists_and_left, exists_and_right, decide_eq_true_eq, List.set_cons_zero, List.set_cons_succ, Bool.not_eq_true', decide_eq_false_iff_not, isi_NoneType_int, isi_NoneType_bool, isi_NoneType_tuple, isi_NoneType_str, isi_NoneType_list, isi_bool_int, isi_bool_bool, isi_bool_tuple, isi_bool_str, isi_bool_list, isi_int_int, isi_int_bool, isi_int_tuple, isi_int_str, isi_int_list, isi_str_int, isi_str_bool, isi_str_tuple, isi_str_str, isi_str_list, isi_list_int, isi_list_bool, isi_list_tuple, isi_list_str, isi_list_list, isi_tuple_int, isi_tuple_bool, isi_tuple_tuple, isi_tuple_str, isi_tuple_list, Bool.false_eq_true, if_true, if_false, reduceIte, Bool.not_true, Bool.not_false, reduceCtorEq, false_and, and_false, exists_false, exists_const, scal_int, scal_bl, scal_str, absE, ne_eq, not_true_eq_false, not_false_eq_true, Int.natCast_add, Int.cast_ofNat_Int, and_assoc, tChain3, tTupF, rTupOfF, tRevL]
      refine for_rangeE (n := 170) (by decide) (fun Q' h => h) (fun i σ' H' => Evl.Ex H H' ∧ ∃ (ms : List Int) (st : Int) (x5 : Option V), σ' = [some (.ref a), some (.ref p), some (.int st), x3, x4, x5] ∧
        H' p = some (.lst (ms.map V.int)) ∧ ms.length ≤ 180 + i ∧ 0 ≤ st ∧ st < 2147483647) ?_ ?_ ?_
      · exact ⟨e, ms, st, x5, rfl, hm, by omega, s0, s1⟩
      · rintro i σ' H' hi ⟨e, ms, st, x5, rfl, hm, hl, s0, s1⟩
        simp only [tSeq, tAsg, gName, tRet, tRetN, tDrop, tIfS, tNext, tBreak, tCont, tTest, tB, tVar, tC, tCons, tNil, tCB, tCall, tCallK, tOp, tUn, rI0, rI, rU, rEq, rNe, tAnd, tOr, tNot, tAndV, tOrV, tNotV, tTup, tLst, tIf, gTup, gCons, gNil, tPar, tAug, ipI, gSub, L2.start, cxOf, Cx.nox, List.map_cons, List.map_nil, List.length_cons, List.length_nil, List.replicate, Nat.reduceAdd, Nat.reduceSub, List.cons_append, List.nil_append, List.append_nil, List.getElem?_cons_zero, List.getElem?_cons_succ, Option.some.injEq, V.int.injEq, V.bl.injEq, V.str.injEq, V.ref.injEq, V.ty.injEq, List.cons.injEq, and_true, true_and, exists_eq_left, exists_eq_left', exists_and_left, exists_and_right, decide_eq_true_eq, List.set_cons_zero, List.set_cons_succ, Bool.not_eq_true', decide_eq_false_iff_not, isi_NoneType_int, isi_NoneType_bool, isi_NoneType_tuple, isi_NoneType_str, isi_NoneType_list, isi_bool_int, isi_bool_bool, isi_bool_tuple, isi_bool_str, isi_bool_list, isi_int_int, isi_int_bool, isi_int_tuple, isi_int_str, isi_int_list, isi_str_int, isi_str_bool, isi_str_tuple, isi_str_str, isi_str_list, isi_list_int, isi_list_bool, isi_list_tuple, isi_list_str, isi_list_list, isi_tuple_int, isi_tuple_bool, isi_tuple_tuple, isi_tuple_str, isi_tuple_list, Bool.false_eq_true, if_true, if_false, reduceIte, Bool.not_true, Bool.not_false, reduceCtorEq, false_and, and_false, exists_false, exists_const, scal_int, scal_bl, scal_str, absE, ne_eq, not_true_eq_false, not_false_eq_true, Int.natCast_add, Int.cast_ofNat_Int, and_assoc, tChain3, tTupF, rTupOfF, tBM, rAppend, Int.zero_add]
        refine ⟨wide_mul (a := 32) (b := 20) (by omega) (by decide) (by decide) (by decide) (by decide), ?_⟩
        have m1 := Int.emod_nonneg (st * 16807 + 90001 + i) (b := 2147483647) (by decide)
        have m2 := Int.emod_lt_of_pos (st * 16807 + 90001 + i) (b := 2147483647) (by decide)
        generalize (st * 16807 + 90001 + (i : Int)) % 2147483647 = st' at *
        refine .inl ⟨by decide, .inl ⟨rfl, _, SqL.of hm⟩, wide_div (b := 20) (by decide) (by decide) (by decide) (by decide), wide_mul (a := 32) (b := 32) (by omega) (by omega) (by decide) (by decide) (by decide), wide_div (b := 20) (by decide) (by decide) (by decide) (by decide), .inl ⟨by decide, _, hm, by rw [List.length_map, sizeLine_eq]; omega, ?_⟩⟩
        obtain ⟨f1, f2⟩ := app _ e hm
        exact ⟨f1, _, f2, by rw [List.length_append]; simp only [List.length_cons, List.length_nil]; omega, m1, m2⟩
      · rintro σ' H' ⟨e, ms, st, x5, rfl, hm, hl, s0, s1⟩
        simp only [tSeq, tAsg, gName, tRet, tRetN, tDrop, tIfS, tNext, tBreak, tCont, tTest, tB, tVar, tC, tCons, tNil, tCB, tCall, tCallK, tOp, tUn, rI0, rI, rU, rEq, rNe, tAnd, tOr, tNot, tAndV, tOrV, tNotV, tTup, tLst, tIf, gTup, gCons, gNil, tPar, tAug, ipI, gSub, L2.start, cxOf, Cx.nox, List.map_cons, List.map_nil, List.length_cons, List.length_nil, List.replicate, Nat.reduceAdd, Nat.reduceSub, List.cons_append, List.nil_append, List.append_nil, List.getElem?_cons_zero, List.getElem?_cons_succ, Option.some.injEq, V.int.injEq, V.bl.injEq, V.str.injEq, V.ref.injEq, V.ty.injEq, List.cons.injEq, and_true, true_and, exists_eq_left, exists_eq_left', exists_and_left, exists_and_right, decide_eq_true_eq, List.set_cons_zero, List.set_cons_succ, Bool.not_eq_true', decide_eq_false_iff_not, isi_NoneType_int, isi_NoneType_bool, isi_NoneType_tuple, isi_NoneType_str, isi_NoneType_list, isi_bool_int, isi_bool_bool, isi_bool_tuple, isi_bool_str, isi_bool_list, isi_int_int, isi_int_bool, isi_int_tuple, isi_int_str, isi_int_list, isi_str_int, isi_str_bool, isi_str_tuple, isi_str_str, isi_str_list, isi_list_int, isi_list_bool, isi_list_tuple, isi_list_str, isi_list_list, isi_tuple_int, isi_tuple_bool, isi_tuple_tuple, isi_tuple_str, isi_tuple_list, Bool.false_eq_true, if_true, if_false, reduceIte, Bool.not_true, Bool.not_false, reduceCtorEq, false_and, and_false, exists_false, exists_const, scal_int, scal_bl, scal_str, absE, ne_eq, not_true_eq_false, not_false_eq_true, Int.natCast_add, Int.cast_ofNat_Int, and_assoc, tChain3, tTupF, rTupOfF, tRevL]
        refine ⟨_, SqL.of hm, fun q hq => ret q _ ⟨ms.reverse, ?_, by rw [List.length_reverse]; omega⟩⟩
        rw [upd_same, List.map_reverse]
def Draw (p : Addr) (n : Int) (H : Hp) (Q : VK) : Prop := ∀ d H', 0 ≤ d → d < n → Ch p H H' → Q (.int d) H'
def spTake : Sp := fun vs H Q _ => ∃ (p : Addr) (n : Int), vs = [.ref p, .int n] ∧ Pool H p ∧ 0 < n ∧ Draw p n H Q
theorem ok__law_take (T : Txt K mg) : Keeps P w K mg base CX0 1 d_s__law_take ["_law_pool_here", "_law_bound"] spTake := by
  obtain ⟨fd, F⟩ := f__law_take T
  refine ⟨fd, F, F.ok sc__law_take (fun vs H Q E h => ?_) (fun cdv A outer s H vs Q E hr h => ⟨_, PSs.nox
    (pss_cons (ps_if (pt_cmpR op_eq (pe_callB call_len_seq rfl (n_len T) (by decide +kernel) (pa_cons (pv 0) pa_nil)) pe_int (nomark _)) (pss_one (ps_ret pe_int)) pss_nil)
      (pss_one (ps_ret (pe_op op_mod (pe_callTy call_int1 rfl (n_int T) (by decide +kernel) (pa_cons (pe_bm0 PySem.F.plainAttrs_list PySem.F.slot_list_pop PySem.F.type_list_pop mt_pop (pv 0)) pa_nil)) (pv 1))))), ?_⟩)⟩
  · obtain ⟨p, n, rfl, _⟩ := h
    rfl
  · obtain ⟨p, n, rfl, hp, n0, ret⟩ := h
    obtain ⟨ns, hp1, hl⟩ := id hp
    simp only [tSeq, tAsg, gName, tRet, tRetN, tDrop, tIfS, tNext, tBreak, tCont, tTest, tB, tVar, tC, tCons, tNil, tCB, tCall, tCallK, tOp, tUn, rI0, rI, rU, rEq, rNe, tAnd, tOr, tNot, tAndV, tOrV, tNotV, tTup, tLst, tIf, gTup, gCons, gNil, tPar, tAug, ipI, gSub, L2.start, cxOf, Cx.nox, List.map_cons, List.map_nil, List.length_cons, List.length_nil, List.replicate, Nat.reduceAdd, Nat.reduceSub, List.cons_append, List.nil_append, List.append_nil, List.getElem?_cons_zero, List.getElem?_cons_succ, Option.some.injEq, V.int.injEq, V.bl.injEq, V.str.injEq, V.ref.injEq, V.ty.injEq, List.cons.injEq, and_true, true_and, exists_eq_left, exists_eq_left', exists_and_left, exists_and_right, decide_eq_true_eq, List.set_cons_zero, List.set_cons_succ, Bool.not_eq_true', decide_eq_false_iff_not, isi_NoneType_int, isi_NoneType_bool, isi_NoneType_tuple, isi_NoneType_str, isi_NoneType_list, isi_bool_int, isi_bool_bool, isi_bool_tuple, isi_bool_str, isi_bool_list, isi_int_int, isi_int_bool, isi_int_tuple, isi_int_str, isi_int_list, isi_str_int, isi_str_bool, isi_str_tuple, isi_str_str, isi_str_list, isi_list_int, isi_list_bool, isi_list_tuple, isi_list_str, isi_list_list, isi_tuple_int, isi_tuple_bool, isi_tuple_tuple, isi_tuple_str, isi_tuple_list, Bool.false_eq_true, if_true, if_false, reduceIte, Bool.not_true, Bool.not_false, reduceCtorEq, false_and, and_false, exists_false, exists_const, scal_int, scal_bl, scal_str, absE, ne_eq, not_true_eq_false, not_false_eq_true, Int.natCast_add, Int.cast_ofNat_Int, and_assoc, tChain3, tTupF, rTupOfF, tBM0, rPop]
    refine ⟨_, .inl (SqL.of hp1), ?_⟩
    refine ite2 (fun h => ret 0 H (by omega) n0 (Ch.refl hp)) (fun h => ?_)
    have h1 : ns ≠ [] := by
      rintro rfl
      exact h rfl
    obtain ⟨z, zs, rfl⟩ : ∃ z zs, ns = zs ++ [z] := ⟨ns.getLast h1, ns.dropLast, (List.dropLast_concat_getLast h1).symm⟩
    have hlast : ((zs ++ [z]).map V.int)[((zs ++ [z]).map V.int).length - 1]? = some (V.int z) := by
      rw [List.map_append]
      simp
    refine ⟨.inl ⟨rfl, _, SqL.of hp1⟩, _, hp1, _, hlast, .inl ⟨z, rfl, n0, ?_⟩⟩
    refine ret _ _ (Int.emod_nonneg _ (by omega)) (Int.emod_lt_of_pos _ n0) ⟨fun b o ne e => ?_, zs, ?_, ?_⟩
    · rw [upd_ne ne]
      exact e
    · rw [upd_same, List.map_append]
      simp
    · rw [List.length_append] at hl
      omega
end
end K00
end
section
set_option Elab.async false
set_option linter.all false
set_option maxRecDepth 100000
set_option maxHeartbeats 4000000
namespace K00
open PySem PySem.Spec PyProof.Rows L2 Pour
/-! ### written data -/
/-- what is avoided stands -/
def Al (p : Addr → Prop) (H : Hp) : Prop := ∀ a, p a → H a ≠ none
theorem Al.ex {p : Addr → Prop} {H H' : Hp} (h : Al p H) (e : Evl.Ex H H') : Al p H' := fun a ha => by
  cases z : H a with
  | none => exact absurd z (h a ha)
  | some o =>
    rw [e a o z]
    exact Option.some_ne_none o
theorem Al.ne_new {p : Addr → Prop} {H : Hp} {a : Addr} (h : Al p H) (ha : H a = none) : ¬ p a := fun z => h a z ha
/-- all that stands -/
def Old (H : Hp) : Addr → Prop := fun a => H a ≠ none
theorem Old.al (H : Hp) : Al (Old H) H := fun _ h => h
theorem Pool.old {H : Hp} {p : Addr} (h : Pool H p) : Old H p := by
  obtain ⟨ns, e, _⟩ := h
  show H p ≠ none
  rw [e]
  exact Option.some_ne_none _
/-- te tells data from here on -/
def EvD (p : Addr → Prop) (B : Int) (te : TE) (σ : L2.St) (H : Hp) : Prop := ∀ H0 (Q : VK), Evl.Ex H H0 → (∀ d v H', Evl.Ex H0 H' → Dt p B H' d v → Q v H') → te σ H0 Q
def EvDs (p : Addr → Prop) (B : Int) (n : Nat) (ta : TA) (σ : L2.St) (H : Hp) : Prop := ∀ H0 (Q : List V → Hp → Prop), Evl.Ex H H0 → (∀ ds vs H', Evl.Ex H0 H' → DtAll p B H' ds vs → vs.length = n → Q vs H') → ta σ H0 Q
theorem DtAll.ex {p : Addr → Prop} {B : Int} {H H' : Hp} {ds : List PyData} {vs : List V} (h : DtAll p B H ds vs) (e : Evl.Ex H H') : DtAll p B H' ds vs := DtAll.mono (Int.le_refl _) (Keep.of e) ds vs h
section
variable {p : Addr → Prop} {B : Int} {σ : L2.St} {H : Hp} {te : TE} {ta : TA} {n : Nat}
theorem evd_int {i : Int} (h : -B ≤ i ∧ i ≤ B) : EvD p B (tC (.int i)) σ H := fun H0 Q _ q => q (.int i) _ _ (Evl.Ex.refl _) ⟨rfl, h⟩
theorem evd_bl {b : Bool} : EvD p B (tC (.bl b)) σ H := fun H0 Q _ q => q (.bool b) _ _ (Evl.Ex.refl _) rfl
theorem evd_str {s : Str} : EvD p B (tC (.str s)) σ H := fun H0 Q _ q => q (.str s) _ _ (Evl.Ex.refl _) rfl
theorem evd_non : EvD p B (tC .non) σ H := fun H0 Q _ q => q .none _ _ (Evl.Ex.refl _) rfl
theorem evd_neg {i : Int} (h : -B ≤ -i ∧ -i ≤ B) : EvD p B (tUn (rU fun i => .int (-i)) (tC (.int i))) σ H := fun H0 Q _ q => ⟨i, rfl, q (.int (-i)) _ _ (Evl.Ex.refl _) ⟨rfl, h⟩⟩
theorem evd_pow {i j : Int} (c : CPow i j) (h : -B ≤ i ^ j.toNat ∧ i ^ j.toNat ≤ B) : EvD p B (tOp (rI CPow fun i j => .int (i ^ j.toNat)) (tC (.int i)) (tC (.int j))) σ H := fun H0 Q _ q => ⟨i, j, rfl, rfl, c, q (.int (i ^ j.toNat)) _ _ (Evl.Ex.refl _) ⟨rfl, h⟩⟩
theorem evd_var {i : Nat} {d : PyData} {v : V} (hi : σ[i]? = some (some v)) (h : Dt p B H d v) : EvD p B (tVar i) σ H := fun H0 Q e q => ⟨v, hi, q d v _ (Evl.Ex.refl _) (h.ex e)⟩
theorem evds_nil : EvDs p B 0 tNil σ H := fun H0 Q _ q => q [] [] _ (Evl.Ex.refl _) True.intro rfl
theorem evds_cons (h : EvD p B te σ H) (t : EvDs p B n ta σ H) : EvDs p B (n + 1) (tCons te ta) σ H := fun H0 Q e q =>
  h H0 _ e fun d v H1 e1 hd => t H1 _ (e.trans e1) fun ds vs H2 e2 hs hl => q (d :: ds) (v :: vs) H2 (e1.trans e2) ⟨hd.ex e2, hs⟩ (congrArg (· + 1) hl)
theorem evd_tup (hp : Al p H) (h : EvDs p B n ta σ H) (hn : n ≤ 2000) : EvD p B (tTupF ta) σ H := fun H0 Q e q =>
  h H0 _ e fun ds vs H1 e1 hs hl => ⟨by rw [hl, sizeLine_eq]; omega, fun a H2 ha e2 ht => q (.tuple ds) _ _ (e1.trans e2) ⟨a, vs, rfl, (hp.ex (e.trans e1)).ne_new ha, ht, by rw [hl]; exact hn, hs.ex e2⟩⟩
theorem evd_lst (hp : Al p H) (h : EvDs p B n ta σ H) (hn : n ≤ 2000) : EvD p B (tLst ta) σ H := fun H0 Q e q =>
  h H0 _ e fun ds vs H1 e1 hs hl => ⟨by rw [hl, sizeLine_eq]; omega, fun a ha => q (.list ds) _ _ (e1.trans (Evl.Ex.new ha)) ⟨a, vs, rfl, (hp.ex (e.trans e1)).ne_new ha, upd_same, by rw [hl]; exact hn, hs.ex (Evl.Ex.new ha)⟩⟩
/-- a menu: a list of data at l -/
def Menu (p : Addr → Prop) (B : Int) (n : Nat) (H : Hp) (l : Addr) : Prop := ¬ p l ∧ ∃ ds vs, H l = some (.lst vs) ∧ DtAll p B H ds vs ∧ vs.length = n
theorem Menu.ex {H' : Hp} {l : Addr} (m : Menu p B n H l) (e : Evl.Ex H H') : Menu p B n H' l := by
  obtain ⟨ne, ds, vs, h, hs, hl⟩ := m
  exact ⟨ne, ds, vs, e _ _ h, hs.ex e, hl⟩
theorem asg_menu {i : Nat} {D : Ends} (hp : Al p H) (h : EvDs p B n ta σ H) (hn : n ≤ 2000) (q : ∀ l H', Evl.Ex H H' → H l = none → Menu p B n H' l → D.nx (σ.set i (some (.ref l))) H') : tAsg (tLst ta) (gName i) D σ H :=
  h H _ (Evl.Ex.refl _) fun ds vs H1 e1 hs hl => ⟨by rw [hl, sizeLine_eq]; omega, fun a ha => q a _ (e1.trans (Evl.Ex.new ha)) (Evl.fresh_back e1 ha) ⟨(hp.ex e1).ne_new ha, ds, vs, upd_same, hs.ex (Evl.Ex.new ha), hl⟩⟩
/-- menu + [..] -/
theorem cat_menu {i m : Nat} {l : Addr} {Q : VK} (hp : Al p H) (hi : σ[i]? = some (some (.ref l))) (M : Menu p B m H l) (h : EvDs p B n ta σ H) (hn : n + m ≤ 2000) (q : ∀ l' H', Evl.Ex H H' → H l' = none → Menu p B (m + n) H' l' → Q (.ref l') H') : tOp rCat (tVar i) (tLst ta) σ H Q := by
  obtain ⟨_, ds, vs, hv, hs, hl⟩ := M
  refine ⟨_, hi, h H _ (Evl.Ex.refl _) fun es us H1 e1 hes hul => ⟨by rw [hul, sizeLine_eq]; omega, fun a ha => ?_⟩⟩
  have e2 := Evl.Ex.new (o := HO.lst us) ha
  refine ⟨l, a, vs, us, rfl, rfl, e2 _ _ (e1 _ _ hv), upd_same, by rw [hl, hul, sizeLine_eq]; omega, fun l' hl' => ?_⟩
  have e3 := Evl.Ex.new (o := HO.lst (vs ++ us)) hl'
  exact q l' _ ((e1.trans e2).trans e3) (Evl.fresh_back (e1.trans e2) hl') ⟨(hp.ex (e1.trans e2)).ne_new hl', ds ++ es, vs ++ us, upd_same, DtAll.app (hs.ex ((e1.trans e2).trans e3)) (hes.ex (e2.trans e3)), by rw [List.length_append, hl, hul]⟩
theorem asg_cat {i j m : Nat} {l : Addr} {D : Ends} (hp : Al p H) (hi : σ[i]? = some (some (.ref l))) (M : Menu p B m H l) (h : EvDs p B n ta σ H) (hn : n + m ≤ 2000) (q : ∀ l' H', Evl.Ex H H' → H l' = none → Menu p B (m + n) H' l' → D.nx (σ.set j (some (.ref l'))) H') : tAsg (tOp rCat (tVar i) (tLst ta)) (gName j) D σ H :=
  cat_menu hp hi M h hn q
end
local macro_rules | `(tactic| walk_at "evd") => `(tactic| repeat (first
  | exact evd_bl | exact evd_str | exact evd_non | exact evds_nil
  | exact evd_int (by decide) | exact evd_neg (by decide)
  | exact evd_pow ⟨by decide, by decide, by decide⟩ (by decide)
  | apply evds_cons
  | apply evd_tup
  | apply evd_lst
  | assumption
  | decide))
section
variable {P : Program} {w : World} {K : PySem.W.Frag} {mg : Str → Option Value} {base : Heap}
/-- the bound of the whole numbers -/
abbrev big : Int := 10 ^ 59 + 9
def spGreat : Sp := fun vs H Q _ => ∃ p, vs = [.ref p] ∧ Pool H p ∧ Draw p (10 ^ 30) H Q
theorem ok__law_great (T : Txt K mg) : Keeps P w K mg base CX0 2 d_s__law_great ["_law_pool_here"] spGreat := by
  obtain ⟨fd, F⟩ := f__law_great T
  obtain ⟨fd__law_take, D__law_take⟩ := ok__law_take (P := P) (w := w) (base := base) T
  refine ⟨fd, F, F.ok sc__law_great (fun vs H Q E h => ?_) (fun cdv A outer s H vs Q E hr h => ⟨_, PSs.nox
    (pss_cons (ps_set (i := 1) sc__law_great.nd rfl (Or.inl rfl) pe_int)
      (pss_cons (ps_for PassesOwn.never rfl (pi_range1 rfl (n_range T) (pa_cons pe_int pa_nil)) (pg_name (i := 2) sc__law_great.nd rfl (Or.inl rfl)) (pss_one (ps_set (i := 1) sc__law_great.nd rfl (Or.inl rfl) (pe_op op_add (pe_op op_mulW (pv 1) pe_int) (pe_call D__law_take.2 (hr.mono (by decide)) rfl (g__law_take T) D__law_take.1.kp (b__law_take D__law_take.1) .nil pass0 (pa_cons (pv 0) (pa_cons pe_int pa_nil)))))))
      (pss_one (ps_ret (pv 1))))), ?_⟩)⟩
  · obtain ⟨p, rfl, _⟩ := h
    rfl
  · obtain ⟨p, rfl, hp, ret⟩ := h
    simp only [tSeq, tAsg, gName, tRet, tRetN, tDrop, tIfS, tNext, tBreak, tCont, tTest, tB, tVar, tC, tCons, tNil, tCB, tCall, tCallK, tOp, tUn, rI0, rI, rU, rEq, rNe, tAnd, tOr, tNot, tAndV, tOrV, tNotV, tTup, tLst, tIf, gTup, gCons, gNil, tPar, tAug, ipI, gSub, L2.start, cxOf, Cx.nox, List.map_cons, List.map_nil, List.length_cons, List.length_nil, List.replicate, Nat.reduceAdd, Nat.reduceSub, List.cons_append, List.nil_append, List.append_nil, List.getElem?_cons_zero, List.getElem?_cons_succ, Option.some.injEq, V.int.injEq, V.bl.injEq, V.str.injEq, V.ref.injEq, V.ty.injEq, List.cons.injEq, and_true, true_and, exists_eq_left, exists_eq_left', exists_and_left, exists_and_right, decide_eq_true_eq, List.set_cons_zero, List.set_cons_succ, Bool.not_eq_true', decide_eq_false_iff_not, isi_NoneType_int, isi_NoneType_bool, isi_NoneType_tuple, isi_NoneType_str, isi_NoneType_list, isi_bool_int, isi_bool_bool, isi_bool_tuple, isi_bool_str, isi_bool_list, isi_int_int, isi_int_bool, isi_int_tuple, isi_int_str, isi_int_list, isi_str_int, isi_str_bool, isi_str_tuple, isi_str_str, isi_str_list, isi_list_int, isi_list_bool, isi_list_tuple, isi_list_str, isi_list_list, isi_tuple_int, isi_tuple_bool, isi_tuple_tuple, isi_tuple_str, isi_tuple_list, Bool.false_eq_true, if_true, if_false, reduceIte, Bool.not_true, Bool.not_false, reduceCtorEq, false_and, and_false, exists_false, exists_const, scal_int, scal_bl, scal_str, absE, ne_eq, not_true_eq_false, not_false_eq_true, Int.natCast_add, Int.cast_ofNat_Int, and_assoc, tChain3, tTupF, rTupOfF]
    refine for_rangeE (n := 10) (by decide) (fun Q' h => h) (fun i σ' H' => Ch p H H' ∧ ∃ (v : Int) (x2 : Option V), σ' = [some (.ref p), some (.int v), x2] ∧ 0 ≤ v ∧ v < 1000 ^ i ∧ v < 10 ^ 30) ?_ ?_ ?_
    · exact ⟨Ch.refl hp, 0, none, rfl, by decide, by decide, by decide⟩
    · rintro i σ' H' hi ⟨c, v, x2, rfl, v0, v1, v2⟩
      have hpow : (1000 : Int) ^ (i + 1) = 1000 ^ i * 1000 := Int.pow_succ ..
      have hb : (1000 : Int) ^ (i + 1) ≤ 10 ^ 30 := by
        have : (1000 : Nat) ^ (i + 1) ≤ 1000 ^ 10 := Nat.pow_le_pow_right (by decide) (by omega)
        have h2 : (1000 : Int) ^ (i + 1) ≤ 1000 ^ 10 := by exact_mod_cast this
        exact h2
      simp only [tSeq, tAsg, gName, tRet, tRetN, tDrop, tIfS, tNext, tBreak, tCont, tTest, tB, tVar, tC, tCons, tNil, tCB, tCall, tCallK, tOp, tUn, rI0, rI, rU, rEq, rNe, tAnd, tOr, tNot, tAndV, tOrV, tNotV, tTup, tLst, tIf, gTup, gCons, gNil, tPar, tAug, ipI, gSub, L2.start, cxOf, Cx.nox, List.map_cons, List.map_nil, List.length_cons, List.length_nil, List.replicate, Nat.reduceAdd, Nat.reduceSub, List.cons_append, List.nil_append, List.append_nil, List.getElem?_cons_zero, List.getElem?_cons_succ, Option.some.injEq, V.int.injEq, V.bl.injEq, V.str.injEq, V.ref.injEq, V.ty.injEq, List.cons.injEq, and_true, true_and, exists_eq_left, exists_eq_left', exists_and_left, exists_and_right, decide_eq_true_eq, List.set_cons_zero, List.set_cons_succ, Bool.not_eq_true', decide_eq_false_iff_not, isi_NoneType_int, isi_NoneType_bool, isi_NoneType_tuple, isi_NoneType_str, isi_NoneType_list, isi_bool_int, isi_bool_bool, isi_bool_tuple, isi_bool_str, isi_bool_list, isi_int_int, isi_int_bool, isi_int_tuple, isi_int_str, isi_int_list, isi_str_int, isi_str_bool, isi_str_tuple, isi_str_str, isi_str_list, isi_list_int, isi_list_bool, isi_list_tuple, isi_list_str, isi_list_list, isi_tuple_int, isi_tuple_bool, isi_tuple_tuple, isi_tuple_str, isi_tuple_list, Bool.false_eq_true, if_true, if_false, reduceIte, Bool.not_true, Bool.not_false, reduceCtorEq, false_and, and_false, exists_false, exists_const, scal_int, scal_bl, scal_str, absE, ne_eq, not_true_eq_false, not_false_eq_true, Int.natCast_add, Int.cast_ofNat_Int, and_assoc, tChain3, tTupF, rTupOfF]
      refine ⟨wide_mul (a := 101) (b := 20) (by omega) (by decide) (by decide) (by decide) (by decide), _, _, rfl, c.st, by decide, fun d H2 d0 d1 c2 => ?_⟩
      exact ⟨d, rfl, c.trans c2, by omega, by omega, by omega⟩
    · rintro σ' H' ⟨c, v, x2, rfl, v0, v1, v2⟩
      simp only [tSeq, tAsg, gName, tRet, tRetN, tDrop, tIfS, tNext, tBreak, tCont, tTest, tB, tVar, tC, tCons, tNil, tCB, tCall, tCallK, tOp, tUn, rI0, rI, rU, rEq, rNe, tAnd, tOr, tNot, tAndV, tOrV, tNotV, tTup, tLst, tIf, gTup, gCons, gNil, tPar, tAug, ipI, gSub, L2.start, cxOf, Cx.nox, List.map_cons, List.map_nil, List.length_cons, List.length_nil, List.replicate, Nat.reduceAdd, Nat.reduceSub, List.cons_append, List.nil_append, List.append_nil, List.getElem?_cons_zero, List.getElem?_cons_succ, Option.some.injEq, V.int.injEq, V.bl.injEq, V.str.injEq, V.ref.injEq, V.ty.injEq, List.cons.injEq, and_true, true_and, exists_eq_left, exists_eq_left', exists_and_left, exists_and_right, decide_eq_true_eq, List.set_cons_zero, List.set_cons_succ, Bool.not_eq_true', decide_eq_false_iff_not, isi_NoneType_int, isi_NoneType_bool, isi_NoneType_tuple, isi_NoneType_str, isi_NoneType_list, isi_bool_int, isi_bool_bool, isi_bool_tuple, isi_bool_str, isi_bool_list, isi_int_int, isi_int_bool, isi_int_tuple, isi_int_str, isi_int_list, isi_str_int, isi_str_bool, isi_str_tuple, isi_str_str, isi_str_list, isi_list_int, isi_list_bool, isi_list_tuple, isi_list_str, isi_list_list, isi_tuple_int, isi_tuple_bool, isi_tuple_tuple, isi_tuple_str, isi_tuple_list, Bool.false_eq_true, if_true, if_false, reduceIte, Bool.not_true, Bool.not_false, reduceCtorEq, false_and, and_false, exists_false, exists_const, scal_int, scal_bl, scal_str, absE, ne_eq, not_true_eq_false, not_false_eq_true, Int.natCast_add, Int.cast_ofNat_Int, and_assoc, tChain3, tTupF, rTupOfF]
      exact ret _ _ v0 v2 c
def spOdd : Sp := fun vs H Q _ => ∃ p, vs = [.ref p] ∧ Pool H p ∧ ∀ d v H', Ch p H H' → Dt (Old H) big H' d v → Q v H'
theorem ok__law_odd (T : Txt K mg) : Keeps P w K mg base CX0 2 d_s__law_odd ["_law_pool_here"] spOdd := by
  obtain ⟨fd, F⟩ := f__law_odd T
  obtain ⟨fd__law_take, D__law_take⟩ := ok__law_take (P := P) (w := w) (base := base) T
  refine ⟨fd, F, F.ok sc__law_odd (fun vs H Q E h => ?_) (fun cdv A outer s H vs Q E hr h => ⟨_, PSs.nox
    (Evl.pss_cut (ps_set (i := 1) sc__law_odd.nd rfl (Or.inl rfl) (pe_lst (pa_cons pe_non (pa_cons pe_bl (pa_cons pe_bl (pa_cons pe_int (pa_cons pe_int (pa_cons (pe_un un_neg pe_int) (pa_cons pe_str (pa_cons pe_str (pa_cons pe_str (pa_cons (pe_tupF pa_nil) (pa_cons (pe_tupF (pa_cons pe_int pa_nil)) (pa_cons (pe_lst (pa_cons pe_int pa_nil)) (pa_cons (pe_tupF (pa_cons pe_int (pa_cons pe_int pa_nil))) (pa_cons (pe_lst (pa_cons pe_int (pa_cons pe_int (pa_cons pe_int pa_nil)))) (pa_cons (pe_tupF (pa_cons pe_int (pa_cons pe_int (pa_cons pe_int pa_nil)))) (pa_cons (pe_tupF (pa_cons pe_int (pa_cons pe_int (pa_cons pe_int pa_nil)))) pa_nil))))))))))))))))))
      (Evl.pss_cut (ps_set (i := 1) sc__law_odd.nd rfl (Or.inl rfl) (pe_op op_cat (pv 1) (pe_lst (pa_cons (pe_tupF (pa_cons pe_int (pa_cons pe_int (pa_cons pe_int pa_nil)))) (pa_cons (pe_tupF (pa_cons pe_int (pa_cons pe_int (pa_cons pe_int pa_nil)))) (pa_cons (pe_tupF (pa_cons pe_int (pa_cons pe_int (pa_cons pe_bl pa_nil)))) (pa_cons (pe_tupF (pa_cons pe_bl (pa_cons pe_int (pa_cons pe_int pa_nil)))) (pa_cons (pe_tupF (pa_cons pe_int (pa_cons pe_int (pa_cons pe_str pa_nil)))) (pa_cons (pe_tupF (pa_cons pe_int (pa_cons pe_int (pa_cons pe_int (pa_cons pe_int pa_nil))))) (pa_cons (pe_op op_pow pe_int pe_int) (pa_cons (pe_un un_neg pe_int) pa_nil)))))))))))
      (pss_one (ps_ret (pe_ix ix_list (pv 1) (pe_call D__law_take.2 (hr.mono (by decide)) rfl (g__law_take T) D__law_take.1.kp (b__law_take D__law_take.1) .nil pass0 (pa_cons (pv 0) (pa_cons pe_int pa_nil))) (fun _ _ => rfl)))))), ?_⟩)⟩
  · obtain ⟨p, rfl, _⟩ := h
    rfl
  · obtain ⟨p, rfl, hp, ret⟩ := h
    have hal := Old.al H
    have b59 : (10 : Int) ^ Int.toNat 59 = 10 ^ 59 := rfl
    refine ⟨fun σ' H' => Evl.Ex H H' ∧ ∃ l, σ' = [some (.ref p), some (.ref l)] ∧ Menu (Old H) big 16 H' l, ?_, ?_⟩
    · refine asg_menu (p := Old H) (B := big) (n := 16) hal ?_ (by decide) (fun l H' e _ m => ⟨e, l, rfl, m⟩)
      walk_at "evd"
    · rintro σ' H' ⟨e, l, rfl, m⟩
      have hp1 := hal.ex e
      refine ⟨fun σ' H' => Evl.Ex H H' ∧ ∃ l, σ' = [some (.ref p), some (.ref l)] ∧ Menu (Old H) big 24 H' l, ?_, ?_⟩
      · refine asg_cat (p := Old H) (B := big) (n := 8) hp1 rfl m ?_ (by decide) (fun l H' e2 _ m => ⟨e.trans e2, l, rfl, m⟩)
        walk_at "evd"
      · rintro σ' H' ⟨e, l, rfl, hlp, ds, vs, hl, hs, hn⟩
        simp only [tSeq, tAsg, gName, tRet, tRetN, tDrop, tIfS, tNext, tBreak, tCont, tTest, tB, tVar, tC, tCons, tNil, tCB, tCall, tCallK, tOp, tUn, rI0, rI, rU, rEq, rNe, tAnd, tOr, tNot, tAndV, tOrV, tNotV, tTup, tLst, tIf, gTup, gCons, gNil, tPar, tAug, ipI, gSub, L2.start, cxOf, Cx.nox, List.map_cons, List.map_nil, List.length_cons, List.length_nil, List.replicate, Nat.reduceAdd, Nat.reduceSub, List.cons_append, List.nil_append, List.append_nil, List.getElem?_cons_zero, List.getElem?_cons_succ, Option.some.injEq, V.int.injEq, V.bl.injEq, V.str.injEq, V.ref.injEq, V.ty.injEq, List.cons.injEq, and_true, true_and, exists_eq_left, exists_eq_left', exists_and_left, exists_and_right, decide_eq_true_eq, List.set_cons_zero, List.set_cons_succ, Bool.not_eq_true', decide_eq_false_iff_not, isi_NoneType_int, isi_NoneType_bool, isi_NoneType_tuple, isi_NoneType_str, isi_NoneType_list, isi_bool_int, isi_bool_bool, isi_bool_tuple, isi_bool_str, isi_bool_list, isi_int_int, isi_int_bool, isi_int_tuple, isi_int_str, isi_int_list, isi_str_int, isi_str_bool, isi_str_tuple, isi_str_str, isi_str_list, isi_list_int, isi_list_bool, isi_list_tuple, isi_list_str, isi_list_list, isi_tuple_int, isi_tuple_bool, isi_tuple_tuple, isi_tuple_str, isi_tuple_list, Bool.false_eq_true, if_true, if_false, reduceIte, Bool.not_true, Bool.not_false, reduceCtorEq, false_and, and_false, exists_false, exists_const, scal_int, scal_bl, scal_str, absE, ne_eq, not_true_eq_false, not_false_eq_true, Int.natCast_add, Int.cast_ofNat_Int, and_assoc, tChain3, tTupF, rTupOfF, rIxL]
        have hp2 := hp.ex e
        refine ⟨_, _, rfl, hp2, by decide, fun d H2 d0 d1 c2 => ?_⟩
        have h2 := c2.keep _ _ (fun z => hlp (by cases z; exact hp.old)) hl
        obtain ⟨k, rfl⟩ : ∃ k : Nat, d = k := ⟨d.toNat, by omega⟩
        obtain ⟨x, hx⟩ : ∃ x, vs[k]? = some x := ⟨_, List.getElem?_eq_getElem (by omega)⟩
        obtain ⟨dd, _, hdt⟩ := hs.get hx
        exact ⟨_, k, rfl, SqL.of h2, x, atI_nat hx, ret dd x H2 ((Ch.of hp e).trans c2) (c2.dt hdt hp.old)⟩
end
end K00
end
section
set_option Elab.async false
set_option linter.all false
set_option maxRecDepth 100000
set_option maxHeartbeats 4000000
namespace K00
open PySem PySem.Spec PyProof.Rows L2 Pour
/-- two values that are the same, the deep ones by their depth -/
inductive Sm (H : Hp) : Nat → V → V → Prop where
  | int {d : Nat} {a : Int} : Sm H (d + 1) (.int a) (.int a)
  | str {d : Nat} {x : Str} : Sm H (d + 1) (.str x) (.str x)
  | bl {d : Nat} {x : Bool} : Sm H (d + 1) (.bl x) (.bl x)
  | tup {d : Nat} {a b : Addr} {xs ys : List V} (ea : H a = some (.tup xs)) (eb : H b = some (.tup ys)) (hl : xs.length = ys.length) (hz : ys.length ≤ 12) (h : ∀ (i : Nat) x y, xs[i]? = some x → ys[i]? = some y → Sm H d x y) : Sm H (d + 1) (.ref a) (.ref b)
theorem Sm.mono {H H' : Hp} (e : Evl.Ex H H') : ∀ {d : Nat} {x y : V}, Sm H d x y → Sm H' d x y
  | _, _, _, .int => .int
  | _, _, _, .str => .str
  | _, _, _, .bl => .bl
  | _, _, _, .tup ea eb hl hz h => .tup (e _ _ ea) (e _ _ eb) hl hz fun i x y hx hy => (h i x y hx hy).mono e
section
variable {P : Program} {w : World} {K : PySem.W.Frag} {mg : Str → Option Value} {base : Heap}
theorem ok__law_int (T : Txt K mg) : Keeps P w K mg base CX0 1 d_s__law_int ["_law_value"] spIsInt := by
  obtain ⟨fd, F⟩ := f__law_int T
  refine ⟨fd, F, F.ok sc__law_int (fun vs H Q E h => ?_) (fun cdv A outer s H vs Q E hr h => ⟨_, PSs.nox
    (pss_one (ps_ret (pe_and (pe_callB call_isi rfl (n_isinstance T) (by decide +kernel) (pa_cons (pv 0) (pa_cons (pe_bltn (v := .ty "int") rfl (n_int T) (by decide +kernel) rfl) pa_nil))) (pe_one (pe_not (pe_callB call_isi rfl (n_isinstance T) (by decide +kernel) (pa_cons (pv 0) (pa_cons (pe_bltn (v := .ty "bool") rfl (n_bool T) (by decide +kernel) rfl) pa_nil)))))))), ?_⟩)⟩
  · obtain ⟨v, n, rfl, _⟩ := h
    rfl
  · obtain ⟨v, n, rfl, kn, q⟩ := h
    simp only [tSeq, tAsg, gName, tRet, tRetN, tDrop, tIfS, tNext, tBreak, tCont, tTest, tB, tVar, tC, tCons, tNil, tCB, tCall, tCallK, tOp, tUn, rI0, rI, rU, rEq, rNe, tAnd, tOr, tNot, tAndV, tOrV, tNotV, tTup, tLst, tIf, gTup, gCons, gNil, tPar, tAug, ipI, gSub, L2.start, cxOf, Cx.nox, List.map_cons, List.map_nil, List.length_cons, List.length_nil, List.replicate, Nat.reduceAdd, Nat.reduceSub, List.cons_append, List.nil_append, List.append_nil, List.getElem?_cons_zero, List.getElem?_cons_succ, Option.some.injEq, V.int.injEq, V.bl.injEq, V.str.injEq, V.ref.injEq, V.ty.injEq, List.cons.injEq, and_true, true_and, exists_eq_left, exists_eq_left', exists_and_left, exists_and_right, decide_eq_true_eq, List.set_cons_zero, List.set_cons_succ, Bool.not_eq_true', decide_eq_false_iff_not, isi_NoneType_int, isi_NoneType_bool, isi_NoneType_tuple, isi_NoneType_str, isi_NoneType_list, isi_bool_int, isi_bool_bool, isi_bool_tuple, isi_bool_str, isi_bool_list, isi_int_int, isi_int_bool, isi_int_tuple, isi_int_str, isi_int_list, isi_str_int, isi_str_bool, isi_str_tuple, isi_str_str, isi_str_list, isi_list_int, isi_list_bool, isi_list_tuple, isi_list_str, isi_list_list, isi_tuple_int, isi_tuple_bool, isi_tuple_tuple, isi_tuple_str, isi_tuple_list, Bool.false_eq_true, if_true, if_false, reduceIte, Bool.not_true, Bool.not_false, reduceCtorEq, false_and, and_false, exists_false, exists_const, scal_int, scal_bl, scal_str, absE, ne_eq, not_true_eq_false, not_false_eq_true, Int.natCast_add, Int.cast_ofNat_Int, and_assoc, tChain3, tTupF, rTupOfF]
    refine kn.isi (.inl rfl) ?_
    simp only [tSeq, tAsg, gName, tRet, tRetN, tDrop, tIfS, tNext, tBreak, tCont, tTest, tB, tVar, tC, tCons, tNil, tCB, tCall, tCallK, tOp, tUn, rI0, rI, rU, rEq, rNe, tAnd, tOr, tNot, tAndV, tOrV, tNotV, tTup, tLst, tIf, gTup, gCons, gNil, tPar, tAug, ipI, gSub, L2.start, cxOf, Cx.nox, List.map_cons, List.map_nil, List.length_cons, List.length_nil, List.replicate, Nat.reduceAdd, Nat.reduceSub, List.cons_append, List.nil_append, List.append_nil, List.getElem?_cons_zero, List.getElem?_cons_succ, Option.some.injEq, V.int.injEq, V.bl.injEq, V.str.injEq, V.ref.injEq, V.ty.injEq, List.cons.injEq, and_true, true_and, exists_eq_left, exists_eq_left', exists_and_left, exists_and_right, decide_eq_true_eq, List.set_cons_zero, List.set_cons_succ, Bool.not_eq_true', decide_eq_false_iff_not, isi_NoneType_int, isi_NoneType_bool, isi_NoneType_tuple, isi_NoneType_str, isi_NoneType_list, isi_bool_int, isi_bool_bool, isi_bool_tuple, isi_bool_str, isi_bool_list, isi_int_int, isi_int_bool, isi_int_tuple, isi_int_str, isi_int_list, isi_str_int, isi_str_bool, isi_str_tuple, isi_str_str, isi_str_list, isi_list_int, isi_list_bool, isi_list_tuple, isi_list_str, isi_list_list, isi_tuple_int, isi_tuple_bool, isi_tuple_tuple, isi_tuple_str, isi_tuple_list, Bool.false_eq_true, if_true, if_false, reduceIte, Bool.not_true, Bool.not_false, reduceCtorEq, false_and, and_false, exists_false, exists_const, scal_int, scal_bl, scal_str, absE, ne_eq, not_true_eq_false, not_false_eq_true, Int.natCast_add, Int.cast_ofNat_Int, and_assoc, tChain3, tTupF, rTupOfF]
    cases kn <;> simp only [tSeq, tAsg, gName, tRet, tRetN, tDrop, tIfS, tNext, tBreak, tCont, tTest, tB, tVar, tC, tCons, tNil, tCB, tCall, tCallK, tOp, tUn, rI0, rI, rU, rEq, rNe, tAnd, tOr, tNot, tAndV, tOrV, tNotV, tTup, tLst, tIf, gTup, gCons, gNil, tPar, tAug, ipI, gSub, L2.start, cxOf, Cx.nox, List.map_cons, List.map_nil, List.length_cons, List.length_nil, List.replicate, Nat.reduceAdd, Nat.reduceSub, List.cons_append, List.nil_append, List.append_nil, List.getElem?_cons_zero, List.getElem?_cons_succ, Option.some.injEq, V.int.injEq, V.bl.injEq, V.str.injEq, V.ref.injEq, V.ty.injEq, List.cons.injEq, and_true, true_and, exists_eq_left, exists_eq_left', exists_and_left, exists_and_right, decide_eq_true_eq, List.set_cons_zero, List.set_cons_succ, Bool.not_eq_true', decide_eq_false_iff_not, isi_NoneType_int, isi_NoneType_bool, isi_NoneType_tuple, isi_NoneType_str, isi_NoneType_list, isi_bool_int, isi_bool_bool, isi_bool_tuple, isi_bool_str, isi_bool_list, isi_int_int, isi_int_bool, isi_int_tuple, isi_int_str, isi_int_list, isi_str_int, isi_str_bool, isi_str_tuple, isi_str_str, isi_str_list, isi_list_int, isi_list_bool, isi_list_tuple, isi_list_str, isi_list_list, isi_tuple_int, isi_tuple_bool, isi_tuple_tuple, isi_tuple_str, isi_tuple_list, Bool.false_eq_true, if_true, if_false, reduceIte, Bool.not_true, Bool.not_false, reduceCtorEq, false_and, and_false, exists_false, exists_const, scal_int, scal_bl, scal_str, absE, ne_eq, not_true_eq_false, not_false_eq_true, Int.natCast_add, Int.cast_ofNat_Int, and_assoc, tChain3, tTupF, rTupOfF] <;> first | exact q | exact Kn.isi (by first | exact .int _ | exact .bl _) (.inr (.inl rfl)) (by simp only [tSeq, tAsg, gName, tRet, tRetN, tDrop, tIfS, tNext, tBreak, tCont, tTest, tB, tVar, tC, tCons, tNil, tCB, tCall, tCallK, tOp, tUn, rI0, rI, rU, rEq, rNe, tAnd, tOr, tNot, tAndV, tOrV, tNotV, tTup, tLst, tIf, gTup, gCons, gNil, tPar, tAug, ipI, gSub, L2.start, cxOf, Cx.nox, List.map_cons, List.map_nil, List.length_cons, List.length_nil, List.replicate, Nat.reduceAdd, Nat.reduceSub, List.cons_append, List.nil_append, List.append_nil, List.getElem?_cons_zero, List.getElem?_cons_succ, Option.some.injEq, V.int.injEq, V.bl.injEq, V.str.injEq, V.ref.injEq, V.ty.injEq, List.cons.injEq, and_true, true_and, exists_eq_left, exists_eq_left', exists_and_left, exists_and_right, decide_eq_true_eq, List.set_cons_zero, List.set_cons_succ, Bool.not_eq_true', decide_eq_false_iff_not, isi_NoneType_int, isi_NoneType_bool, isi_NoneType_tuple, isi_NoneType_str, isi_NoneType_list, isi_bool_int, isi_bool_bool, isi_bool_tuple, isi_bool_str, isi_bool_list, isi_int_int, isi_int_bool, isi_int_tuple, isi_int_str, isi_int_list, isi_str_int, isi_str_bool, isi_str_tuple, isi_str_str, isi_str_list, isi_list_int, isi_list_bool, isi_list_tuple, isi_list_str, isi_list_list, isi_tuple_int, isi_tuple_bool, isi_tuple_tuple, isi_tuple_str, isi_tuple_list, Bool.false_eq_true, if_true, if_false, reduceIte, Bool.not_true, Bool.not_false, reduceCtorEq, false_and, and_false, exists_false, exists_const, scal_int, scal_bl, scal_str, absE, ne_eq, not_true_eq_false, not_false_eq_true, Int.natCast_add, Int.cast_ofNat_Int, and_assoc, tChain3, tTupF, rTupOfF]; exact q)
def spSame (d : Nat) : Sp := fun vs H Q _ => ∃ x y, vs = [x, y] ∧ Sm H d x y ∧ Q (.bl true) H
theorem same_all (T : Txt K mg) : ∀ n : Nat, Keeps P w K mg base CX0 (n + 2) d_s__law_same ["_law_got", "_law_due_here"] (spSame n)
  | 0 => by
    obtain ⟨fd, F⟩ := f__law_same T
    have no : ∀ {vs H} {Q : VK} {E : XK}, spSame 0 vs H Q E → False := fun {vs H Q E} h => by
      obtain ⟨_, _, _, h, _⟩ := h
      cases h
    exact ⟨fd, F, (F.ok sc__law_same (fun vs H Q E h => (no h).elim) (fun cdv A outer s H vs Q E hr h => (no h).elim) : FnOk P w K mg base CX0 2 _ fd _ _)⟩
  | n + 1 => by
    obtain ⟨fd, F⟩ := f__law_same T
    obtain ⟨fd__law_int, D__law_int⟩ := ok__law_int (P := P) (w := w) (base := base) T
    obtain ⟨fd__law_same, D__law_same⟩ := same_all T n
    refine ⟨fd, F, F.ok sc__law_same (fun vs H Q E h => ?_) (fun cdv A outer s H vs Q E hr h => ⟨_, PSs.nox
      (pss_cons (ps_if (pt_val (pe_callB call_isi rfl (n_isinstance T) (by decide +kernel) (pa_cons (pv 1) (pa_cons (pe_bltn (v := .ty "tuple") rfl (n_tuple T) (by decide +kernel) rfl) pa_nil)))) (pss_cons (ps_if (PW.pt (pw_or (pt_not (pt_val (pe_callB call_isi rfl (n_isinstance T) (by decide +kernel) (pa_cons (pv 0) (pa_cons (pe_bltn (v := .ty "tuple") rfl (n_tuple T) (by decide +kernel) rfl) pa_nil))))) (pw_or1 (pt_cmpR op_ne (pe_callB call_len_seq rfl (n_len T) (by decide +kernel) (pa_cons (pv 0) pa_nil)) (pe_callB call_len_seq rfl (n_len T) (by decide +kernel) (pa_cons (pv 1) pa_nil)) (nomark _))))) (pss_one (ps_ret pe_bl)) pss_nil)
      (pss_cons (ps_for PassesOwn.never rfl (pi_range1 rfl (n_range T) (pa_cons (pe_callB call_len_seq rfl (n_len T) (by decide +kernel) (pa_cons (pv 1) pa_nil)) pa_nil)) (pg_name (i := 2) sc__law_same.nd rfl (Or.inl rfl)) (pss_one (ps_if (pt_not (pt_val (pe_call D__law_same.2 (hr.mono (by omega)) rfl (g__law_same T) D__law_same.1.kp (b__law_same D__law_same.1) .nil pass0 (pa_cons (pe_ix ix_tup (pv 0) (pv 2) (fun _ _ => rfl)) (pa_cons (pe_ix ix_tup (pv 1) (pv 2) (fun _ _ => rfl)) pa_nil))))) (pss_one (ps_ret pe_bl)) pss_nil)))
      (pss_one (ps_ret pe_bl)))) pss_nil)
      (pss_cons (ps_if (pt_cmpR op_isT (pv 1) pe_bl (nomark _)) (pss_one (ps_ret (pe_cmpR op_isT (pv 0) pe_bl (nomark _)))) pss_nil)
      (pss_cons (ps_if (pt_cmpR op_isT (pv 1) pe_bl (nomark _)) (pss_one (ps_ret (pe_cmpR op_isT (pv 0) pe_bl (nomark _)))) pss_nil)
      (pss_cons (ps_if (pt_val (pe_callB call_isi rfl (n_isinstance T) (by decide +kernel) (pa_cons (pv 1) (pa_cons (pe_bltn (v := .ty "str") rfl (n_str T) (by decide +kernel) rfl) pa_nil)))) (pss_one (ps_ret (pe_and (pe_callB call_isi rfl (n_isinstance T) (by decide +kernel) (pa_cons (pv 0) (pa_cons (pe_bltn (v := .ty "str") rfl (n_str T) (by decide +kernel) rfl) pa_nil))) (pe_one (pe_cmpR op_eq (pv 0) (pv 1) (nomark _)))))) pss_nil)
      (pss_one (ps_ret (pe_and (pe_call D__law_int.2 (hr.mono (by omega)) rfl (g__law_int T) D__law_int.1.kp (b__law_int D__law_int.1) .nil pass0 (pa_cons (pv 0) pa_nil)) (pe_one (pe_cmpR op_eq (pv 0) (pv 1) (nomark _)))))))))), ?_⟩)⟩
    · obtain ⟨x, y, rfl, _⟩ := h
      rfl
    · obtain ⟨x, y, rfl, hs, ret⟩ := h
      simp only [tSeq, tAsg, gName, tRet, tRetN, tDrop, tIfS, tNext, tBreak, tCont, tTest, tB, tVar, tC, tCons, tNil, tCB, tCall, tCallK, tOp, tUn, rI0, rI, rU, rEq, rNe, tAnd, tOr, tNot, tAndV, tOrV, tNotV, tTup, tLst, tIf, gTup, gCons, gNil, tPar, tAug, ipI, gSub, L2.start, cxOf, Cx.nox, List.map_cons, List.map_nil, List.length_cons, List.length_nil, List.replicate, Nat.reduceAdd, Nat.reduceSub, List.cons_append, List.nil_append, List.append_nil, List.getElem?_cons_zero, List.getElem?_cons_succ, Option.some.injEq, V.int.injEq, V.bl.injEq, V.str.injEq, V.ref.injEq, V.ty.injEq, List.cons.injEq, and_true, true_and, exists_eq_left, exists_eq_left', exists_and_left, exists_and_right, decide_eq_true_eq, List.set_cons_zero, List.set_cons_succ, Bool.not_eq_true', decide_eq_false_iff_not, isi_NoneType_int, isi_NoneType_bool, isi_NoneType_tuple, isi_NoneType_str, isi_NoneType_list, isi_bool_int, isi_bool_bool, isi_bool_tuple, isi_bool_str, isi_bool_list, isi_int_int, isi_int_bool, isi_int_tuple, isi_int_str, isi_int_list, isi_str_int, isi_str_bool, isi_str_tuple, isi_str_str, isi_str_list, isi_list_int, isi_list_bool, isi_list_tuple, isi_list_str, isi_list_list, isi_tuple_int, isi_tuple_bool, isi_tuple_tuple, isi_tuple_str, isi_tuple_list, Bool.false_eq_true, if_true, if_false, reduceIte, Bool.not_true, Bool.not_false, reduceCtorEq, false_and, and_false, exists_false, exists_const, scal_int, scal_bl, scal_str, absE, ne_eq, not_true_eq_false, not_false_eq_true, Int.natCast_add, Int.cast_ofNat_Int, and_assoc, tChain3, tTupF, rTupOfF, rIsT]
      cases hs with
      | int =>
        refine (Kn.int _).isi (by decide) ?_
        simp only [tSeq, tAsg, gName, tRet, tRetN, tDrop, tIfS, tNext, tBreak, tCont, tTest, tB, tVar, tC, tCons, tNil, tCB, tCall, tCallK, tOp, tUn, rI0, rI, rU, rEq, rNe, tAnd, tOr, tNot, tAndV, tOrV, tNotV, tTup, tLst, tIf, gTup, gCons, gNil, tPar, tAug, ipI, gSub, L2.start, cxOf, Cx.nox, List.map_cons, List.map_nil, List.length_cons, List.length_nil, List.replicate, Nat.reduceAdd, Nat.reduceSub, List.cons_append, List.nil_append, List.append_nil, List.getElem?_cons_zero, List.getElem?_cons_succ, Option.some.injEq, V.int.injEq, V.bl.injEq, V.str.injEq, V.ref.injEq, V.ty.injEq, List.cons.injEq, and_true, true_and, exists_eq_left, exists_eq_left', exists_and_left, exists_and_right, decide_eq_true_eq, List.set_cons_zero, List.set_cons_succ, Bool.not_eq_true', decide_eq_false_iff_not, isi_NoneType_int, isi_NoneType_bool, isi_NoneType_tuple, isi_NoneType_str, isi_NoneType_list, isi_bool_int, isi_bool_bool, isi_bool_tuple, isi_bool_str, isi_bool_list, isi_int_int, isi_int_bool, isi_int_tuple, isi_int_str, isi_int_list, isi_str_int, isi_str_bool, isi_str_tuple, isi_str_str, isi_str_list, isi_list_int, isi_list_bool, isi_list_tuple, isi_list_str, isi_list_list, isi_tuple_int, isi_tuple_bool, isi_tuple_tuple, isi_tuple_str, isi_tuple_list, Bool.false_eq_true, if_true, if_false, reduceIte, Bool.not_true, Bool.not_false, reduceCtorEq, false_and, and_false, exists_false, exists_const, scal_int, scal_bl, scal_str, absE, ne_eq, not_true_eq_false, not_false_eq_true, Int.natCast_add, Int.cast_ofNat_Int, and_assoc, tChain3, tTupF, rTupOfF]
        refine .inr ⟨.inl ⟨_, rfl⟩, .inr ⟨.inl ⟨_, rfl⟩, ?_⟩⟩
        refine (Kn.int _).isi (by decide) ?_
        simp only [tSeq, tAsg, gName, tRet, tRetN, tDrop, tIfS, tNext, tBreak, tCont, tTest, tB, tVar, tC, tCons, tNil, tCB, tCall, tCallK, tOp, tUn, rI0, rI, rU, rEq, rNe, tAnd, tOr, tNot, tAndV, tOrV, tNotV, tTup, tLst, tIf, gTup, gCons, gNil, tPar, tAug, ipI, gSub, L2.start, cxOf, Cx.nox, List.map_cons, List.map_nil, List.length_cons, List.length_nil, List.replicate, Nat.reduceAdd, Nat.reduceSub, List.cons_append, List.nil_append, List.append_nil, List.getElem?_cons_zero, List.getElem?_cons_succ, Option.some.injEq, V.int.injEq, V.bl.injEq, V.str.injEq, V.ref.injEq, V.ty.injEq, List.cons.injEq, and_true, true_and, exists_eq_left, exists_eq_left', exists_and_left, exists_and_right, decide_eq_true_eq, List.set_cons_zero, List.set_cons_succ, Bool.not_eq_true', decide_eq_false_iff_not, isi_NoneType_int, isi_NoneType_bool, isi_NoneType_tuple, isi_NoneType_str, isi_NoneType_list, isi_bool_int, isi_bool_bool, isi_bool_tuple, isi_bool_str, isi_bool_list, isi_int_int, isi_int_bool, isi_int_tuple, isi_int_str, isi_int_list, isi_str_int, isi_str_bool, isi_str_tuple, isi_str_str, isi_str_list, isi_list_int, isi_list_bool, isi_list_tuple, isi_list_str, isi_list_list, isi_tuple_int, isi_tuple_bool, isi_tuple_tuple, isi_tuple_str, isi_tuple_list, Bool.false_eq_true, if_true, if_false, reduceIte, Bool.not_true, Bool.not_false, reduceCtorEq, false_and, and_false, exists_false, exists_const, scal_int, scal_bl, scal_str, absE, ne_eq, not_true_eq_false, not_false_eq_true, Int.natCast_add, Int.cast_ofNat_Int, and_assoc, tChain3, tTupF, rTupOfF]
        refine ⟨_, _, rfl, .int _, ?_⟩
        simp only [tSeq, tAsg, gName, tRet, tRetN, tDrop, tIfS, tNext, tBreak, tCont, tTest, tB, tVar, tC, tCons, tNil, tCB, tCall, tCallK, tOp, tUn, rI0, rI, rU, rEq, rNe, tAnd, tOr, tNot, tAndV, tOrV, tNotV, tTup, tLst, tIf, gTup, gCons, gNil, tPar, tAug, ipI, gSub, L2.start, cxOf, Cx.nox, List.map_cons, List.map_nil, List.length_cons, List.length_nil, List.replicate, Nat.reduceAdd, Nat.reduceSub, List.cons_append, List.nil_append, List.append_nil, List.getElem?_cons_zero, List.getElem?_cons_succ, Option.some.injEq, V.int.injEq, V.bl.injEq, V.str.injEq, V.ref.injEq, V.ty.injEq, List.cons.injEq, and_true, true_and, exists_eq_left, exists_eq_left', exists_and_left, exists_and_right, decide_eq_true_eq, List.set_cons_zero, List.set_cons_succ, Bool.not_eq_true', decide_eq_false_iff_not, isi_NoneType_int, isi_NoneType_bool, isi_NoneType_tuple, isi_NoneType_str, isi_NoneType_list, isi_bool_int, isi_bool_bool, isi_bool_tuple, isi_bool_str, isi_bool_list, isi_int_int, isi_int_bool, isi_int_tuple, isi_int_str, isi_int_list, isi_str_int, isi_str_bool, isi_str_tuple, isi_str_str, isi_str_list, isi_list_int, isi_list_bool, isi_list_tuple, isi_list_str, isi_list_list, isi_tuple_int, isi_tuple_bool, isi_tuple_tuple, isi_tuple_str, isi_tuple_list, Bool.false_eq_true, if_true, if_false, reduceIte, Bool.not_true, Bool.not_false, reduceCtorEq, false_and, and_false, exists_false, exists_const, scal_int, scal_bl, scal_str, absE, ne_eq, not_true_eq_false, not_false_eq_true, Int.natCast_add, Int.cast_ofNat_Int, and_assoc, tChain3, tTupF, rTupOfF, isIntV]
        exact ret
      | str =>
        refine (Kn.str _).isi (by decide) ?_
        simp only [tSeq, tAsg, gName, tRet, tRetN, tDrop, tIfS, tNext, tBreak, tCont, tTest, tB, tVar, tC, tCons, tNil, tCB, tCall, tCallK, tOp, tUn, rI0, rI, rU, rEq, rNe, tAnd, tOr, tNot, tAndV, tOrV, tNotV, tTup, tLst, tIf, gTup, gCons, gNil, tPar, tAug, ipI, gSub, L2.start, cxOf, Cx.nox, List.map_cons, List.map_nil, List.length_cons, List.length_nil, List.replicate, Nat.reduceAdd, Nat.reduceSub, List.cons_append, List.nil_append, List.append_nil, List.getElem?_cons_zero, List.getElem?_cons_succ, Option.some.injEq, V.int.injEq, V.bl.injEq, V.str.injEq, V.ref.injEq, V.ty.injEq, List.cons.injEq, and_true, true_and, exists_eq_left, exists_eq_left', exists_and_left, exists_and_right, decide_eq_true_eq, List.set_cons_zero, List.set_cons_succ, Bool.not_eq_true', decide_eq_false_iff_not, isi_NoneType_int, isi_NoneType_bool, isi_NoneType_tuple, isi_NoneType_str, isi_NoneType_list, isi_bool_int, isi_bool_bool, isi_bool_tuple, isi_bool_str, isi_bool_list, isi_int_int, isi_int_bool, isi_int_tuple, isi_int_str, isi_int_list, isi_str_int, isi_str_bool, isi_str_tuple, isi_str_str, isi_str_list, isi_list_int, isi_list_bool, isi_list_tuple, isi_list_str, isi_list_list, isi_tuple_int, isi_tuple_bool, isi_tuple_tuple, isi_tuple_str, isi_tuple_list, Bool.false_eq_true, if_true, if_false, reduceIte, Bool.not_true, Bool.not_false, reduceCtorEq, false_and, and_false, exists_false, exists_const, scal_int, scal_bl, scal_str, absE, ne_eq, not_true_eq_false, not_false_eq_true, Int.natCast_add, Int.cast_ofNat_Int, and_assoc, tChain3, tTupF, rTupOfF]
        refine .inr ⟨.inr (.inl ⟨_, rfl⟩), .inr ⟨.inr (.inl ⟨_, rfl⟩), ?_⟩⟩
        refine (Kn.str _).isi (by decide) ?_
        simp only [tSeq, tAsg, gName, tRet, tRetN, tDrop, tIfS, tNext, tBreak, tCont, tTest, tB, tVar, tC, tCons, tNil, tCB, tCall, tCallK, tOp, tUn, rI0, rI, rU, rEq, rNe, tAnd, tOr, tNot, tAndV, tOrV, tNotV, tTup, tLst, tIf, gTup, gCons, gNil, tPar, tAug, ipI, gSub, L2.start, cxOf, Cx.nox, List.map_cons, List.map_nil, List.length_cons, List.length_nil, List.replicate, Nat.reduceAdd, Nat.reduceSub, List.cons_append, List.nil_append, List.append_nil, List.getElem?_cons_zero, List.getElem?_cons_succ, Option.some.injEq, V.int.injEq, V.bl.injEq, V.str.injEq, V.ref.injEq, V.ty.injEq, List.cons.injEq, and_true, true_and, exists_eq_left, exists_eq_left', exists_and_left, exists_and_right, decide_eq_true_eq, List.set_cons_zero, List.set_cons_succ, Bool.not_eq_true', decide_eq_false_iff_not, isi_NoneType_int, isi_NoneType_bool, isi_NoneType_tuple, isi_NoneType_str, isi_NoneType_list, isi_bool_int, isi_bool_bool, isi_bool_tuple, isi_bool_str, isi_bool_list, isi_int_int, isi_int_bool, isi_int_tuple, isi_int_str, isi_int_list, isi_str_int, isi_str_bool, isi_str_tuple, isi_str_str, isi_str_list, isi_list_int, isi_list_bool, isi_list_tuple, isi_list_str, isi_list_list, isi_tuple_int, isi_tuple_bool, isi_tuple_tuple, isi_tuple_str, isi_tuple_list, Bool.false_eq_true, if_true, if_false, reduceIte, Bool.not_true, Bool.not_false, reduceCtorEq, false_and, and_false, exists_false, exists_const, scal_int, scal_bl, scal_str, absE, ne_eq, not_true_eq_false, not_false_eq_true, Int.natCast_add, Int.cast_ofNat_Int, and_assoc, tChain3, tTupF, rTupOfF]
        refine (Kn.str _).isi (by decide) ?_
        simp only [tSeq, tAsg, gName, tRet, tRetN, tDrop, tIfS, tNext, tBreak, tCont, tTest, tB, tVar, tC, tCons, tNil, tCB, tCall, tCallK, tOp, tUn, rI0, rI, rU, rEq, rNe, tAnd, tOr, tNot, tAndV, tOrV, tNotV, tTup, tLst, tIf, gTup, gCons, gNil, tPar, tAug, ipI, gSub, L2.start, cxOf, Cx.nox, List.map_cons, List.map_nil, List.length_cons, List.length_nil, List.replicate, Nat.reduceAdd, Nat.reduceSub, List.cons_append, List.nil_append, List.append_nil, List.getElem?_cons_zero, List.getElem?_cons_succ, Option.some.injEq, V.int.injEq, V.bl.injEq, V.str.injEq, V.ref.injEq, V.ty.injEq, List.cons.injEq, and_true, true_and, exists_eq_left, exists_eq_left', exists_and_left, exists_and_right, decide_eq_true_eq, List.set_cons_zero, List.set_cons_succ, Bool.not_eq_true', decide_eq_false_iff_not, isi_NoneType_int, isi_NoneType_bool, isi_NoneType_tuple, isi_NoneType_str, isi_NoneType_list, isi_bool_int, isi_bool_bool, isi_bool_tuple, isi_bool_str, isi_bool_list, isi_int_int, isi_int_bool, isi_int_tuple, isi_int_str, isi_int_list, isi_str_int, isi_str_bool, isi_str_tuple, isi_str_str, isi_str_list, isi_list_int, isi_list_bool, isi_list_tuple, isi_list_str, isi_list_list, isi_tuple_int, isi_tuple_bool, isi_tuple_tuple, isi_tuple_str, isi_tuple_list, Bool.false_eq_true, if_true, if_false, reduceIte, Bool.not_true, Bool.not_false, reduceCtorEq, false_and, and_false, exists_false, exists_const, scal_int, scal_bl, scal_str, absE, ne_eq, not_true_eq_false, not_false_eq_true, Int.natCast_add, Int.cast_ofNat_Int, and_assoc, tChain3, tTupF, rTupOfF]
        exact ret
      | @bl _ b =>
        refine (Kn.bl _).isi (by decide) ?_
        simp only [tSeq, tAsg, gName, tRet, tRetN, tDrop, tIfS, tNext, tBreak, tCont, tTest, tB, tVar, tC, tCons, tNil, tCB, tCall, tCallK, tOp, tUn, rI0, rI, rU, rEq, rNe, tAnd, tOr, tNot, tAndV, tOrV, tNotV, tTup, tLst, tIf, gTup, gCons, gNil, tPar, tAug, ipI, gSub, L2.start, cxOf, Cx.nox, List.map_cons, List.map_nil, List.length_cons, List.length_nil, List.replicate, Nat.reduceAdd, Nat.reduceSub, List.cons_append, List.nil_append, List.append_nil, List.getElem?_cons_zero, List.getElem?_cons_succ, Option.some.injEq, V.int.injEq, V.bl.injEq, V.str.injEq, V.ref.injEq, V.ty.injEq, List.cons.injEq, and_true, true_and, exists_eq_left, exists_eq_left', exists_and_left, exists_and_right, decide_eq_true_eq, List.set_cons_zero, List.set_cons_succ, Bool.not_eq_true', decide_eq_false_iff_not, isi_NoneType_int, isi_NoneType_bool, isi_NoneType_tuple, isi_NoneType_str, isi_NoneType_list, isi_bool_int, isi_bool_bool, isi_bool_tuple, isi_bool_str, isi_bool_list, isi_int_int, isi_int_bool, isi_int_tuple, isi_int_str, isi_int_list, isi_str_int, isi_str_bool, isi_str_tuple, isi_str_str, isi_str_list, isi_list_int, isi_list_bool, isi_list_tuple, isi_list_str, isi_list_list, isi_tuple_int, isi_tuple_bool, isi_tuple_tuple, isi_tuple_str, isi_tuple_list, Bool.false_eq_true, if_true, if_false, reduceIte, Bool.not_true, Bool.not_false, reduceCtorEq, false_and, and_false, exists_false, exists_const, scal_int, scal_bl, scal_str, absE, ne_eq, not_true_eq_false, not_false_eq_true, Int.natCast_add, Int.cast_ofNat_Int, and_assoc, tChain3, tTupF, rTupOfF]
        cases b
        · refine .inl ?_
          rw [if_neg (by decide)]
          refine .inl ?_
          rw [if_pos rfl]
          exact .inl ret
        · refine .inl ?_
          rw [if_pos rfl]
          exact .inl ret
      | @tup _ a b xs ys ea eb hl hz hh =>
        refine (Kn.tup eb).isi (by decide) ?_
        simp only [tSeq, tAsg, gName, tRet, tRetN, tDrop, tIfS, tNext, tBreak, tCont, tTest, tB, tVar, tC, tCons, tNil, tCB, tCall, tCallK, tOp, tUn, rI0, rI, rU, rEq, rNe, tAnd, tOr, tNot, tAndV, tOrV, tNotV, tTup, tLst, tIf, gTup, gCons, gNil, tPar, tAug, ipI, gSub, L2.start, cxOf, Cx.nox, List.map_cons, List.map_nil, List.length_cons, List.length_nil, List.replicate, Nat.reduceAdd, Nat.reduceSub, List.cons_append, List.nil_append, List.append_nil, List.getElem?_cons_zero, List.getElem?_cons_succ, Option.some.injEq, V.int.injEq, V.bl.injEq, V.str.injEq, V.ref.injEq, V.ty.injEq, List.cons.injEq, and_true, true_and, exists_eq_left, exists_eq_left', exists_and_left, exists_and_right, decide_eq_true_eq, List.set_cons_zero, List.set_cons_succ, Bool.not_eq_true', decide_eq_false_iff_not, isi_NoneType_int, isi_NoneType_bool, isi_NoneType_tuple, isi_NoneType_str, isi_NoneType_list, isi_bool_int, isi_bool_bool, isi_bool_tuple, isi_bool_str, isi_bool_list, isi_int_int, isi_int_bool, isi_int_tuple, isi_int_str, isi_int_list, isi_str_int, isi_str_bool, isi_str_tuple, isi_str_str, isi_str_list, isi_list_int, isi_list_bool, isi_list_tuple, isi_list_str, isi_list_list, isi_tuple_int, isi_tuple_bool, isi_tuple_tuple, isi_tuple_str, isi_tuple_list, Bool.false_eq_true, if_true, if_false, reduceIte, Bool.not_true, Bool.not_false, reduceCtorEq, false_and, and_false, exists_false, exists_const, scal_int, scal_bl, scal_str, absE, ne_eq, not_true_eq_false, not_false_eq_true, Int.natCast_add, Int.cast_ofNat_Int, and_assoc, tChain3, tTupF, rTupOfF]
        refine (Kn.tup ea).isi (by decide) ?_
        simp only [tSeq, tAsg, gName, tRet, tRetN, tDrop, tIfS, tNext, tBreak, tCont, tTest, tB, tVar, tC, tCons, tNil, tCB, tCall, tCallK, tOp, tUn, rI0, rI, rU, rEq, rNe, tAnd, tOr, tNot, tAndV, tOrV, tNotV, tTup, tLst, tIf, gTup, gCons, gNil, tPar, tAug, ipI, gSub, L2.start, cxOf, Cx.nox, List.map_cons, List.map_nil, List.length_cons, List.length_nil, List.replicate, Nat.reduceAdd, Nat.reduceSub, List.cons_append, List.nil_append, List.append_nil, List.getElem?_cons_zero, List.getElem?_cons_succ, Option.some.injEq, V.int.injEq, V.bl.injEq, V.str.injEq, V.ref.injEq, V.ty.injEq, List.cons.injEq, and_true, true_and, exists_eq_left, exists_eq_left', exists_and_left, exists_and_right, decide_eq_true_eq, List.set_cons_zero, List.set_cons_succ, Bool.not_eq_true', decide_eq_false_iff_not, isi_NoneType_int, isi_NoneType_bool, isi_NoneType_tuple, isi_NoneType_str, isi_NoneType_list, isi_bool_int, isi_bool_bool, isi_bool_tuple, isi_bool_str, isi_bool_list, isi_int_int, isi_int_bool, isi_int_tuple, isi_int_str, isi_int_list, isi_str_int, isi_str_bool, isi_str_tuple, isi_str_str, isi_str_list, isi_list_int, isi_list_bool, isi_list_tuple, isi_list_str, isi_list_list, isi_tuple_int, isi_tuple_bool, isi_tuple_tuple, isi_tuple_str, isi_tuple_list, Bool.false_eq_true, if_true, if_false, reduceIte, Bool.not_true, Bool.not_false, reduceCtorEq, false_and, and_false, exists_false, exists_const, scal_int, scal_bl, scal_str, absE, ne_eq, not_true_eq_false, not_false_eq_true, Int.natCast_add, Int.cast_ofNat_Int, and_assoc, tChain3, tTupF, rTupOfF]
        refine ⟨_, .inr (SqT.of ea), _, .inr (SqT.of eb), ?_⟩
        rw [if_neg (by rw [hl]; simp)]
        refine for_rangeE (n := ys.length) (by omega) ?_ (fun i σ' H' => H' = H ∧ ∃ x2 : Option V, σ' = [some (.ref a), some (.ref b), x2]) ?_ ?_ ?_
        · intro Q' h
          simp only [tSeq, tAsg, gName, tRet, tRetN, tDrop, tIfS, tNext, tBreak, tCont, tTest, tB, tVar, tC, tCons, tNil, tCB, tCall, tCallK, tOp, tUn, rI0, rI, rU, rEq, rNe, tAnd, tOr, tNot, tAndV, tOrV, tNotV, tTup, tLst, tIf, gTup, gCons, gNil, tPar, tAug, ipI, gSub, L2.start, cxOf, Cx.nox, List.map_cons, List.map_nil, List.length_cons, List.length_nil, List.replicate, Nat.reduceAdd, Nat.reduceSub, List.cons_append, List.nil_append, List.append_nil, List.getElem?_cons_zero, List.getElem?_cons_succ, Option.some.injEq, V.int.injEq, V.bl.injEq, V.str.injEq, V.ref.injEq, V.ty.injEq, List.cons.injEq, and_true, true_and, exists_eq_left, exists_eq_left', exists_and_left, exists_and_right, decide_eq_true_eq, List.set_cons_zero, List.set_cons_succ, Bool.not_eq_true', decide_eq_false_iff_not, isi_NoneType_int, isi_NoneType_bool, isi_NoneType_tuple, isi_NoneType_str, isi_NoneType_list, isi_bool_int, isi_bool_bool, isi_bool_tuple, isi_bool_str, isi_bool_list, isi_int_int, isi_int_bool, isi_int_tuple, isi_int_str, isi_int_list, isi_str_int, isi_str_bool, isi_str_tuple, isi_str_str, isi_str_list, isi_list_int, isi_list_bool, isi_list_tuple, isi_list_str, isi_list_list, isi_tuple_int, isi_tuple_bool, isi_tuple_tuple, isi_tuple_str, isi_tuple_list, Bool.false_eq_true, if_true, if_false, reduceIte, Bool.not_true, Bool.not_false, reduceCtorEq, false_and, and_false, exists_false, exists_const, scal_int, scal_bl, scal_str, absE, ne_eq, not_true_eq_false, not_false_eq_true, Int.natCast_add, Int.cast_ofNat_Int, and_assoc, tChain3, tTupF, rTupOfF]
          exact ⟨_, .inr (SqT.of eb), h⟩
        · exact ⟨rfl, none, rfl⟩
        · rintro i σ' H' hi ⟨rfl, x2, rfl⟩
          obtain ⟨y, hy⟩ : ∃ y, ys[i]? = some y := ⟨_, List.getElem?_eq_getElem hi⟩
          obtain ⟨x, hx⟩ : ∃ x, xs[i]? = some x := ⟨_, List.getElem?_eq_getElem (by omega)⟩
          simp only [tSeq, tAsg, gName, tRet, tRetN, tDrop, tIfS, tNext, tBreak, tCont, tTest, tB, tVar, tC, tCons, tNil, tCB, tCall, tCallK, tOp, tUn, rI0, rI, rU, rEq, rNe, tAnd, tOr, tNot, tAndV, tOrV, tNotV, tTup, tLst, tIf, gTup, gCons, gNil, tPar, tAug, ipI, gSub, L2.start, cxOf, Cx.nox, List.map_cons, List.map_nil, List.length_cons, List.length_nil, List.replicate, Nat.reduceAdd, Nat.reduceSub, List.cons_append, List.nil_append, List.append_nil, List.getElem?_cons_zero, List.getElem?_cons_succ, Option.some.injEq, V.int.injEq, V.bl.injEq, V.str.injEq, V.ref.injEq, V.ty.injEq, List.cons.injEq, and_true, true_and, exists_eq_left, exists_eq_left', exists_and_left, exists_and_right, decide_eq_true_eq, List.set_cons_zero, List.set_cons_succ, Bool.not_eq_true', decide_eq_false_iff_not, isi_NoneType_int, isi_NoneType_bool, isi_NoneType_tuple, isi_NoneType_str, isi_NoneType_list, isi_bool_int, isi_bool_bool, isi_bool_tuple, isi_bool_str, isi_bool_list, isi_int_int, isi_int_bool, isi_int_tuple, isi_int_str, isi_int_list, isi_str_int, isi_str_bool, isi_str_tuple, isi_str_str, isi_str_list, isi_list_int, isi_list_bool, isi_list_tuple, isi_list_str, isi_list_list, isi_tuple_int, isi_tuple_bool, isi_tuple_tuple, isi_tuple_str, isi_tuple_list, Bool.false_eq_true, if_true, if_false, reduceIte, Bool.not_true, Bool.not_false, reduceCtorEq, false_and, and_false, exists_false, exists_const, scal_int, scal_bl, scal_str, absE, ne_eq, not_true_eq_false, not_false_eq_true, Int.natCast_add, Int.cast_ofNat_Int, and_assoc, tChain3, tTupF, rTupOfF, rIxT, Int.zero_add]
          refine ⟨_, SqT.of ea, _, atI_nat hx, _, SqT.of eb, _, atI_nat hy, _, _, rfl, hh i x y hx hy, ?_⟩
          exact ⟨_, rfl, rfl, _, rfl⟩
        · rintro σ' H' ⟨rfl, x2, rfl⟩
          simp only [tSeq, tAsg, gName, tRet, tRetN, tDrop, tIfS, tNext, tBreak, tCont, tTest, tB, tVar, tC, tCons, tNil, tCB, tCall, tCallK, tOp, tUn, rI0, rI, rU, rEq, rNe, tAnd, tOr, tNot, tAndV, tOrV, tNotV, tTup, tLst, tIf, gTup, gCons, gNil, tPar, tAug, ipI, gSub, L2.start, cxOf, Cx.nox, List.map_cons, List.map_nil, List.length_cons, List.length_nil, List.replicate, Nat.reduceAdd, Nat.reduceSub, List.cons_append, List.nil_append, List.append_nil, List.getElem?_cons_zero, List.getElem?_cons_succ, Option.some.injEq, V.int.injEq, V.bl.injEq, V.str.injEq, V.ref.injEq, V.ty.injEq, List.cons.injEq, and_true, true_and, exists_eq_left, exists_eq_left', exists_and_left, exists_and_right, decide_eq_true_eq, List.set_cons_zero, List.set_cons_succ, Bool.not_eq_true', decide_eq_false_iff_not, isi_NoneType_int, isi_NoneType_bool, isi_NoneType_tuple, isi_NoneType_str, isi_NoneType_list, isi_bool_int, isi_bool_bool, isi_bool_tuple, isi_bool_str, isi_bool_list, isi_int_int, isi_int_bool, isi_int_tuple, isi_int_str, isi_int_list, isi_str_int, isi_str_bool, isi_str_tuple, isi_str_str, isi_str_list, isi_list_int, isi_list_bool, isi_list_tuple, isi_list_str, isi_list_list, isi_tuple_int, isi_tuple_bool, isi_tuple_tuple, isi_tuple_str, isi_tuple_list, Bool.false_eq_true, if_true, if_false, reduceIte, Bool.not_true, Bool.not_false, reduceCtorEq, false_and, and_false, exists_false, exists_const, scal_int, scal_bl, scal_str, absE, ne_eq, not_true_eq_false, not_false_eq_true, Int.natCast_add, Int.cast_ofNat_Int, and_assoc, tChain3, tTupF, rTupOfF]
          exact ret
def spSameA : Sp := spSame 4
theorem ok__law_same (T : Txt K mg) : Keeps P w K mg base CX0 6 d_s__law_same ["_law_got", "_law_due_here"] spSameA := same_all T 4
def spRoom : Sp := fun vs H Q _ => ∃ p, vs = [.ref p] ∧ Pool H p ∧ ∀ d H', 1 ≤ d → d ≤ 10 ^ 30 → Ch p H H' → Q (.int d) H'
theorem ok__law_room (T : Txt K mg) : Keeps P w K mg base CX0 3 d_s__law_room ["_law_pool_here"] spRoom := by
  obtain ⟨fd, F⟩ := f__law_room T
  obtain ⟨fd__law_great, D__law_great⟩ := ok__law_great (P := P) (w := w) (base := base) T
  obtain ⟨fd__law_take, D__law_take⟩ := ok__law_take (P := P) (w := w) (base := base) T
  refine ⟨fd, F, F.ok sc__law_room (fun vs H Q E h => ?_) (fun cdv A outer s H vs Q E hr h => ⟨_, PSs.nox
    (pss_cons (ps_set (i := 1) sc__law_room.nd rfl (Or.inl rfl) (pe_call D__law_take.2 (hr.mono (by decide)) rfl (g__law_take T) D__law_take.1.kp (b__law_take D__law_take.1) .nil pass0 (pa_cons (pv 0) (pa_cons pe_int pa_nil))))
      (pss_cons (ps_if (pt_cmpR op_eq (pv 1) pe_int (nomark _)) (pss_one (ps_ret (pe_op op_add pe_int (pe_call D__law_great.2 (hr.mono (by decide)) rfl (g__law_great T) D__law_great.1.kp (b__law_great D__law_great.1) .nil pass0 (pa_cons (pv 0) pa_nil))))) pss_nil)
      (pss_cons (ps_if (pt_cmpR op_eq (pv 1) pe_int (nomark _)) (pss_one (ps_ret (pe_op op_add pe_int (pe_call D__law_take.2 (hr.mono (by decide)) rfl (g__law_take T) D__law_take.1.kp (b__law_take D__law_take.1) .nil pass0 (pa_cons (pv 0) (pa_cons pe_int pa_nil)))))) pss_nil)
      (pss_one (ps_ret (pe_op op_add pe_int (pe_call D__law_take.2 (hr.mono (by decide)) rfl (g__law_take T) D__law_take.1.kp (b__law_take D__law_take.1) .nil pass0 (pa_cons (pv 0) (pa_cons pe_int pa_nil))))))))), ?_⟩)⟩
  · obtain ⟨p, rfl, _⟩ := h
    rfl
  · obtain ⟨p, rfl, hp, ret⟩ := h
    simp only [tSeq, tAsg, gName, tRet, tRetN, tDrop, tIfS, tNext, tBreak, tCont, tTest, tB, tVar, tC, tCons, tNil, tCB, tCall, tCallK, tOp, tUn, rI0, rI, rU, rEq, rNe, tAnd, tOr, tNot, tAndV, tOrV, tNotV, tTup, tLst, tIf, gTup, gCons, gNil, tPar, tAug, ipI, gSub, L2.start, cxOf, Cx.nox, List.map_cons, List.map_nil, List.length_cons, List.length_nil, List.replicate, Nat.reduceAdd, Nat.reduceSub, List.cons_append, List.nil_append, List.append_nil, List.getElem?_cons_zero, List.getElem?_cons_succ, Option.some.injEq, V.int.injEq, V.bl.injEq, V.str.injEq, V.ref.injEq, V.ty.injEq, List.cons.injEq, and_true, true_and, exists_eq_left, exists_eq_left', exists_and_left, exists_and_right, decide_eq_true_eq, List.set_cons_zero, List.set_cons_succ, Bool.not_eq_true', decide_eq_false_iff_not, isi_NoneType_int, isi_NoneType_bool, isi_NoneType_tuple, isi_NoneType_str, isi_NoneType_list, isi_bool_int, isi_bool_bool, isi_bool_tuple, isi_bool_str, isi_bool_list, isi_int_int, isi_int_bool, isi_int_tuple, isi_int_str, isi_int_list, isi_str_int, isi_str_bool, isi_str_tuple, isi_str_str, isi_str_list, isi_list_int, isi_list_bool, isi_list_tuple, isi_list_str, isi_list_list, isi_tuple_int, isi_tuple_bool, isi_tuple_tuple, isi_tuple_str, isi_tuple_list, Bool.false_eq_true, if_true, if_false, reduceIte, Bool.not_true, Bool.not_false, reduceCtorEq, false_and, and_false, exists_false, exists_const, scal_int, scal_bl, scal_str, absE, ne_eq, not_true_eq_false, not_false_eq_true, Int.natCast_add, Int.cast_ofNat_Int, and_assoc, tChain3, tTupF, rTupOfF]
    refine ⟨_, _, rfl, hp, by decide, fun d H1 d0 d1 c1 => ?_⟩
    simp only [tSeq, tAsg, gName, tRet, tRetN, tDrop, tIfS, tNext, tBreak, tCont, tTest, tB, tVar, tC, tCons, tNil, tCB, tCall, tCallK, tOp, tUn, rI0, rI, rU, rEq, rNe, tAnd, tOr, tNot, tAndV, tOrV, tNotV, tTup, tLst, tIf, gTup, gCons, gNil, tPar, tAug, ipI, gSub, L2.start, cxOf, Cx.nox, List.map_cons, List.map_nil, List.length_cons, List.length_nil, List.replicate, Nat.reduceAdd, Nat.reduceSub, List.cons_append, List.nil_append, List.append_nil, List.getElem?_cons_zero, List.getElem?_cons_succ, Option.some.injEq, V.int.injEq, V.bl.injEq, V.str.injEq, V.ref.injEq, V.ty.injEq, List.cons.injEq, and_true, true_and, exists_eq_left, exists_eq_left', exists_and_left, exists_and_right, decide_eq_true_eq, List.set_cons_zero, List.set_cons_succ, Bool.not_eq_true', decide_eq_false_iff_not, isi_NoneType_int, isi_NoneType_bool, isi_NoneType_tuple, isi_NoneType_str, isi_NoneType_list, isi_bool_int, isi_bool_bool, isi_bool_tuple, isi_bool_str, isi_bool_list, isi_int_int, isi_int_bool, isi_int_tuple, isi_int_str, isi_int_list, isi_str_int, isi_str_bool, isi_str_tuple, isi_str_str, isi_str_list, isi_list_int, isi_list_bool, isi_list_tuple, isi_list_str, isi_list_list, isi_tuple_int, isi_tuple_bool, isi_tuple_tuple, isi_tuple_str, isi_tuple_list, Bool.false_eq_true, if_true, if_false, reduceIte, Bool.not_true, Bool.not_false, reduceCtorEq, false_and, and_false, exists_false, exists_const, scal_int, scal_bl, scal_str, absE, ne_eq, not_true_eq_false, not_false_eq_true, Int.natCast_add, Int.cast_ofNat_Int, and_assoc, tChain3, tTupF, rTupOfF]
    refine ite2 (fun h => ?_) (fun h => ite2 (fun h' => ?_) (fun h' => ?_))
    · refine ⟨_, rfl, c1.st, fun d H2 d0 d1 c2 => ?_⟩
      exact ⟨d, rfl, ret _ _ (by omega) (by omega) (c1.trans c2)⟩
    · refine ⟨_, _, rfl, c1.st, by decide, fun d H2 d0 d1 c2 => ?_⟩
      exact ⟨d, rfl, ret _ _ (by omega) (by omega) (c1.trans c2)⟩
    · refine ⟨_, _, rfl, c1.st, by decide, fun d H2 d0 d1 c2 => ?_⟩
      exact ⟨d, rfl, ret _ _ (by omega) (by omega) (c1.trans c2)⟩
end
end K00
end
section
set_option Elab.async false
set_option linter.all false
set_option maxRecDepth 100000
set_option maxHeartbeats 4000000
namespace K00
open PySem PySem.Spec PyProof.Rows L2 Pour
theorem for_rngG {ta : TA} {g : TG} {tb : TS} {D : Ends} {σ : L2.St} {H : Hp}
    (h : ∀ R : List V → Hp → Prop, (∀ (n : Nat) (H1 : Hp) (Pv : Nat → L2.St → Hp → Prop), n ≤ 100000 → Pv 0 σ H1 →
      (∀ i σ H, i < n → Pv i σ H → g (.int (0 + i)) σ H fun σ2 H2 => tb { D with nx := Pv (i + 1), ct := Pv (i + 1), bk := D.nx } σ2 H2) → (∀ σ H, Pv n σ H → D.nx σ H) → R [.int n] H1) → ta σ H R) : tFor (iRng1 ta) g tb D σ H :=
  h _ fun n H1 Pv hn h0 hs hd => ⟨n, rfl, by omega, by omega, by
    rw [Int.toNat_natCast]
    exact for_range Pv h0 hs hd⟩
theorem chN {p q : Addr} {H H' : Hp} {xs : List V} (h : TupN H q xs) (a : Ch p H H') (hs : Pool H p) : TupN H' q xs := by
  obtain ⟨o, c, e⟩ := h
  refine ⟨o, c, a.keep _ _ ?_ e⟩
  rintro rfl
  obtain ⟨_, z, _⟩ := hs
  rw [e] at z
  cases z
theorem Pool.ne_N {p q : Addr} {H : Hp} {xs : List V} (hs : Pool H p) (h : TupN H q xs) : q ≠ p := by
  rintro rfl
  obtain ⟨_, e, _⟩ := hs
  obtain ⟨o, _, z⟩ := h
  rw [e] at z
  cases z
abbrev R3 := Int × Int × Int
def RowAt (H : Hp) (v : V) (x : R3) : Prop := ∃ t, v = .ref t ∧ TupN H t [.int x.1, .int x.2.1, .int x.2.2]
def RowsIs (H : Hp) : List V → List R3 → Prop
  | [], [] => True
  | v :: vs, x :: xs => RowAt H v x ∧ RowsIs H vs xs
  | _, _ => False
theorem RowsIs.ch {p : Addr} {H H' : Hp} (c : Ch p H H') (hp : Pool H p) : ∀ {vs : List V} {xs : List R3}, RowsIs H vs xs → RowsIs H' vs xs
  | [], [], _ => True.intro
  | _ :: vs, _ :: xs, ⟨⟨t, e, h⟩, r⟩ => ⟨⟨t, e, chN h c hp⟩, RowsIs.ch c hp (vs := vs) (xs := xs) r⟩
theorem RowsIs.tk {H H' : Hp} (c : ∀ b xs, TupN H b xs → TupN H' b xs) : ∀ {vs : List V} {xs : List R3}, RowsIs H vs xs → RowsIs H' vs xs
  | [], [], _ => True.intro
  | _ :: vs, _ :: xs, ⟨⟨t, e, h⟩, r⟩ => ⟨⟨t, e, c _ _ h⟩, RowsIs.tk c (vs := vs) (xs := xs) r⟩
theorem RowsIs.len {H : Hp} : ∀ {vs : List V} {xs : List R3}, RowsIs H vs xs → vs.length = xs.length
  | [], [], _ => rfl
  | _ :: vs, _ :: xs, ⟨_, r⟩ => congrArg (· + 1) (RowsIs.len (vs := vs) (xs := xs) r)
theorem RowsIs.get {H : Hp} : ∀ {vs : List V} {xs : List R3} {i : Nat} {x : R3}, RowsIs H vs xs → xs[i]? = some x → ∃ t : Addr, vs[i]? = some (V.ref t) ∧ TupN H t [.int x.1, .int x.2.1, .int x.2.2]
  | [], [], _, _, _, h => by simp at h
  | v :: vs, y :: xs, 0, x, ⟨⟨t, e, h⟩, _⟩, hx => by
    simp at hx
    subst hx
    exact ⟨t, by rw [e]; rfl, h⟩
  | v :: vs, y :: xs, i + 1, x, ⟨_, r⟩, hx => by
    obtain ⟨t, h1, h2⟩ := RowsIs.get (vs := vs) (xs := xs) (i := i) (x := x) r (by simpa using hx)
    exact ⟨t, by simpa using h1, h2⟩
theorem RowsIs.snoc {H : Hp} : ∀ {vs : List V} {xs : List R3} {v : V} {x : R3}, RowsIs H vs xs → RowAt H v x → RowsIs H (vs ++ [v]) (xs ++ [x])
  | [], [], _, _, _, h => ⟨h, True.intro⟩
  | _ :: vs, _ :: xs, _, _, ⟨a, r⟩, h => ⟨a, RowsIs.snoc (vs := vs) (xs := xs) r h⟩
structure RowOk (n : Int) (x : R3) : Prop where
  a : 0 ≤ x.1
  b : x.1 < x.2.1
  c : x.2.1 < n
  d : 1 ≤ x.2.2
  e : x.2.2 ≤ 10 ^ 30
def rowD (x : R3) : PyData := .tuple [.int x.1, .int x.2.1, .int x.2.2]
def netD (n : Int) (xs : List R3) : PyData := .tuple [.int n, .tuple (xs.map rowD)]
theorem rows_dt {p : Addr} {H : Hp} {n : Int} (hp : Pool H p) (hn : n ≤ 100) : ∀ {vs : List V} {xs : List R3}, RowsIs H vs xs → (∀ x ∈ xs, RowOk n x) → DtAll (· = p) big H (xs.map rowD) vs
  | [], [], _, _ => True.intro
  | _ :: vs, x :: xs, ⟨⟨t, e, h⟩, r⟩, ok => by
    obtain ⟨o1, o2, o3, o4, o5⟩ := ok x List.mem_cons_self
    have b1 : (100 : Int) ≤ big := by decide
    have b2 : (10 : Int) ^ 30 ≤ big := by decide
    have b3 : -big ≤ 0 := by decide
    subst e
    exact ⟨⟨t, _, rfl, hp.ne_N h, h, by show 3 ≤ 2000; decide, ⟨rfl, by omega, by omega⟩, ⟨rfl, by omega, by omega⟩, ⟨rfl, by omega, by omega⟩, True.intro⟩, rows_dt hp hn (vs := vs) (xs := xs) r fun y hy => ok y (List.mem_cons_of_mem _ hy)⟩
section
variable {P : Program} {w : World} {K : PySem.W.Frag} {mg : Str → Option Value} {base : Heap}
/-- the law's web stands at a -/
structure Net (p : Addr) (H : Hp) (a : Addr) (n : Int) (rows : List R3) : Prop where
  n1 : 1 ≤ n
  n2 : n ≤ 8
  len : rows.length ≤ 14
  ok : ∀ x ∈ rows, RowOk n x
  is : ∃ (l : Addr) (rs : List V), TupN H a [.int n, .ref l] ∧ TupN H l rs ∧ RowsIs H rs rows
theorem Net.ch {p : Addr} {H H' : Hp} {a : Addr} {n : Int} {rows : List R3} (N : Net p H a n rows) (c : Ch p H H') (hp : Pool H p) : Net p H' a n rows := by
  obtain ⟨n1, n2, len, ok, l, rs, h1, h2, h3⟩ := N
  exact ⟨n1, n2, len, ok, l, rs, chN h1 c hp, chN h2 c hp, h3.ch c hp⟩
theorem Net.netIs {p : Addr} {H : Hp} {a : Addr} {n : Int} {rows : List R3} (N : Net p H a n rows) : NetIs H (.ref a) n rows := by
  obtain ⟨n1, n2, len, ok, l, rs, h1, h2, h3⟩ := N
  exact ⟨a, l, rs, rfl, h1, h2, h3.len, fun i x hx => h3.get hx⟩
theorem Net.dt {p : Addr} {H : Hp} {a : Addr} {n : Int} {rows : List R3} (N : Net p H a n rows) (hp : Pool H p) : Dt (· = p) big H (netD n rows) (.ref a) := by
  obtain ⟨n1, n2, len, ok, l, rs, h1, h2, h3⟩ := N
  have b1 : (100 : Int) ≤ big := by decide
  have b3 : -big ≤ 0 := by decide
  exact ⟨a, _, rfl, hp.ne_N h1, h1, by show 2 ≤ 2000; decide, ⟨rfl, by omega, by omega⟩, ⟨l, rs, rfl, hp.ne_N h2, h2, by rw [h3.len]; omega, rows_dt hp (by omega) h3 ok⟩, True.intro⟩
def spNet : Sp := fun vs H Q _ => ∃ p, vs = [.ref p] ∧ Pool H p ∧ ∀ a H' n rows, Ch p H H' → Net p H' a n rows → Q (.ref a) H'
theorem ok__law_net (T : Txt K mg) : Keeps P w K mg base CX0 4 d_s__law_net ["_law_pool_here"] spNet := by
  obtain ⟨fd, F⟩ := f__law_net T
  obtain ⟨fd__law_room, D__law_room⟩ := ok__law_room (P := P) (w := w) (base := base) T
  obtain ⟨fd__law_take, D__law_take⟩ := ok__law_take (P := P) (w := w) (base := base) T
  refine ⟨fd, F, F.ok sc__law_net (fun vs H Q E h => ?_) (fun cdv A outer s H vs Q E hr h => ⟨_, PSs.nox
    (pss_cons (ps_set (i := 1) sc__law_net.nd rfl (Or.inl rfl) (pe_ix ix_list (pe_lst (pa_cons pe_int (pa_cons pe_int (pa_cons pe_int (pa_cons pe_int (pa_cons pe_int (pa_cons pe_int (pa_cons pe_int (pa_cons pe_int pa_nil))))))))) (pe_call D__law_take.2 (hr.mono (by decide)) rfl (g__law_take T) D__law_take.1.kp (b__law_take D__law_take.1) .nil pass0 (pa_cons (pv 0) (pa_cons pe_int pa_nil))) (fun _ _ => rfl)))
      (pss_cons (ps_set (i := 2) sc__law_net.nd rfl (Or.inl rfl) (pe_lst pa_nil))
      (pss_cons (ps_if (pt_cmpR op_gt (pv 1) pe_int (nomark _)) (pss_one (ps_for PassesOwn.never rfl (pi_range1 rfl (n_range T) (pa_cons (pe_ix ix_list (pe_lst (pa_cons pe_int (pa_cons pe_int (pa_cons pe_int (pa_cons pe_int (pa_cons pe_int (pa_cons pe_int (pa_cons pe_int (pa_cons pe_int pa_nil))))))))) (pe_call D__law_take.2 (hr.mono (by decide)) rfl (g__law_take T) D__law_take.1.kp (b__law_take D__law_take.1) .nil pass0 (pa_cons (pv 0) (pa_cons pe_int pa_nil))) (fun _ _ => rfl)) pa_nil)) (pg_name (i := 3) sc__law_net.nd rfl (Or.inl rfl)) (pss_cons (ps_set (i := 4) sc__law_net.nd rfl (Or.inl rfl) (pe_call D__law_take.2 (hr.mono (by decide)) rfl (g__law_take T) D__law_take.1.kp (b__law_take D__law_take.1) .nil pass0 (pa_cons (pv 0) (pa_cons (pe_op op_sub (pv 1) pe_int) pa_nil))))
      (pss_cons (ps_set (i := 5) sc__law_net.nd rfl (Or.inl rfl) (pe_op op_add (pe_op op_add (pv 4) pe_int) (pe_call D__law_take.2 (hr.mono (by decide)) rfl (g__law_take T) D__law_take.1.kp (b__law_take D__law_take.1) .nil pass0 (pa_cons (pv 0) (pa_cons (pe_op op_sub (pe_op op_sub (pv 1) pe_int) (pv 4)) pa_nil)))))
      (pss_one (ps_expr (pe_bm PySem.F.plainAttrs_list PySem.F.slot_list_append PySem.F.type_list_append mt_append (pv 2) (pa_cons (pe_tupF (pa_cons (pv 4) (pa_cons (pv 5) (pa_cons (pe_call D__law_room.2 (hr.mono (by decide)) rfl (g__law_room T) D__law_room.1.kp (b__law_room D__law_room.1) .nil pass0 (pa_cons (pv 0) pa_nil)) pa_nil)))) pa_nil)))))))) pss_nil)
      (pss_one (ps_ret (pe_tupF (pa_cons (pv 1) (pa_cons (pe_callTy call_tupF rfl (n_tuple T) (by decide +kernel) (pa_cons (pv 2) pa_nil)) pa_nil)))))))), ?_⟩)⟩
  · obtain ⟨p, rfl, _⟩ := h
    rfl
  · obtain ⟨p, rfl, hp, ret⟩ := h
    simp only [tSeq, tAsg, gName, tRet, tRetN, tDrop, tIfS, tNext, tBreak, tCont, tTest, tB, tVar, tC, tCons, tNil, tCB, tCall, tCallK, tOp, tUn, rI0, rI, rU, rEq, rNe, tAnd, tOr, tNot, tAndV, tOrV, tNotV, tTup, tLst, tIf, gTup, gCons, gNil, tPar, tAug, ipI, gSub, L2.start, cxOf, Cx.nox, List.map_cons, List.map_nil, List.length_cons, List.length_nil, List.replicate, Nat.reduceAdd, Nat.reduceSub, List.cons_append, List.nil_append, List.append_nil, List.getElem?_cons_zero, List.getElem?_cons_succ, Option.some.injEq, V.int.injEq, V.bl.injEq, V.str.injEq, V.ref.injEq, V.ty.injEq, List.cons.injEq, and_true, true_and, exists_eq_left, exists_eq_left', exists_and_left, exists_and_right, decide_eq_true_eq, List.set_cons_zero, List.set_cons_succ, Bool.not_eq_true', decide_eq_false_iff_not, isi_NoneType_int, isi_NoneType_bool, isi_NoneType_tuple, isi_NoneType_str, isi_NoneType_list, isi_bool_int, isi_bool_bool, isi_bool_tuple, isi_bool_str, isi_bool_list, isi_int_int, isi_int_bool, isi_int_tuple, isi_int_str, isi_int_list, isi_str_int, isi_str_bool, isi_str_tuple, isi_str_str, isi_str_list, isi_list_int, isi_list_bool, isi_list_tuple, isi_list_str, isi_list_list, isi_tuple_int, isi_tuple_bool, isi_tuple_tuple, isi_tuple_str, isi_tuple_list, Bool.false_eq_true, if_true, if_false, reduceIte, Bool.not_true, Bool.not_false, reduceCtorEq, false_and, and_false, exists_false, exists_const, scal_int, scal_bl, scal_str, absE, ne_eq, not_true_eq_false, not_false_eq_true, Int.natCast_add, Int.cast_ofNat_Int, and_assoc, tChain3, tTupF, rTupOfF, rIxL]
    refine ⟨by decide, fun l1 h1 => ?_⟩
    have ne1 := hp.ne_new h1
    have e1 := Evl.Ex.new (o := HO.lst [V.int 3, V.int 1, V.int 2, V.int 4, V.int 5, V.int 8, V.int 2, V.int 3]) h1
    have hp1 := hp.ex e1
    have at1 : upd H l1 (HO.lst [V.int 3, V.int 1, V.int 2, V.int 4, V.int 5, V.int 8, V.int 2, V.int 3]) l1 = some (.lst [V.int 3, V.int 1, V.int 2, V.int 4, V.int 5, V.int 8, V.int 2, V.int 3]) := upd_same
    generalize upd H l1 (HO.lst [V.int 3, V.int 1, V.int 2, V.int 4, V.int 5, V.int 8, V.int 2, V.int 3]) = H1 at *
    refine ⟨_, _, rfl, hp1, by decide, fun d H2 d0 d1 c2 => ?_⟩
    have c02 := (Ch.of hp e1).trans c2
    obtain ⟨n, hn, n1, n8⟩ : ∃ n : Int, atI [V.int 3, V.int 1, V.int 2, V.int 4, V.int 5, V.int 8, V.int 2, V.int 3] d = some (V.int n) ∧ 1 ≤ n ∧ n ≤ 8 := by
      obtain rfl | rfl | rfl | rfl | rfl | rfl | rfl | rfl : d = 0 ∨ d = 1 ∨ d = 2 ∨ d = 3 ∨ d = 4 ∨ d = 5 ∨ d = 6 ∨ d = 7 := by omega
      all_goals exact ⟨_, rfl, by decide, by decide⟩
    refine ⟨_, d, rfl, SqL.of (c2.keep _ _ ne1 at1), _, hn, by decide, fun l hl => ?_⟩
    have hlH : H l = none := c02.fresh hl hp
    have nel := c2.st.ne_new hl
    have e3 := Evl.Ex.new (o := HO.lst []) hl
    have at3 : upd H2 l (HO.lst []) l = some (.lst []) := upd_same
    generalize upd H2 l (HO.lst []) = H3 at *
    have c03 := c02.ex e3
    -- what stands at the end
    have fin : ∀ {H' : Hp} {rs : List V} {rows : List R3}, Ch p H H' → H' l = some (.lst rs) → RowsIs H' rs rows → rows.length ≤ 14 → (∀ x ∈ rows, RowOk n x) →
      ∃ x, SqL K H' l x ∧ ∀ q Hq, H' q = none → Evl.Ex H' Hq → TupN Hq q x → 2 ≤ sizeLine ∧ ∀ a Ha, Hq a = none → Evl.Ex Hq Ha → TupN Ha a [.int n, .ref q] → Q (.ref a) Ha := by
      intro H' rs rows c hl' hr hlen hok
      refine ⟨rs, SqL.of hl', fun q Hq hq f1 tq => ⟨by decide, fun a Ha ha f2 ta => ?_⟩⟩
      exact ret a _ n rows ((c.ex f1).ex f2) ⟨n1, n8, hlen, hok, q, rs, ta, tq.ex f2, hr.tk fun b xs hb => hb.ex (f1.trans f2)⟩
    refine ⟨n, rfl, ite2 (fun hgt => ?_) (fun _ => fin c03 at3 (show RowsIs H3 [] [] from True.intro) (by decide) (fun x hx => by cases hx))⟩
    refine for_rngG fun R hR => ?_
    simp only [tSeq, tAsg, gName, tRet, tRetN, tDrop, tIfS, tNext, tBreak, tCont, tTest, tB, tVar, tC, tCons, tNil, tCB, tCall, tCallK, tOp, tUn, rI0, rI, rU, rEq, rNe, tAnd, tOr, tNot, tAndV, tOrV, tNotV, tTup, tLst, tIf, gTup, gCons, gNil, tPar, tAug, ipI, gSub, L2.start, cxOf, Cx.nox, List.map_cons, List.map_nil, List.length_cons, List.length_nil, List.replicate, Nat.reduceAdd, Nat.reduceSub, List.cons_append, List.nil_append, List.append_nil, List.getElem?_cons_zero, List.getElem?_cons_succ, Option.some.injEq, V.int.injEq, V.bl.injEq, V.str.injEq, V.ref.injEq, V.ty.injEq, List.cons.injEq, and_true, true_and, exists_eq_left, exists_eq_left', exists_and_left, exists_and_right, decide_eq_true_eq, List.set_cons_zero, List.set_cons_succ, Bool.not_eq_true', decide_eq_false_iff_not, isi_NoneType_int, isi_NoneType_bool, isi_NoneType_tuple, isi_NoneType_str, isi_NoneType_list, isi_bool_int, isi_bool_bool, isi_bool_tuple, isi_bool_str, isi_bool_list, isi_int_int, isi_int_bool, isi_int_tuple, isi_int_str, isi_int_list, isi_str_int, isi_str_bool, isi_str_tuple, isi_str_str, isi_str_list, isi_list_int, isi_list_bool, isi_list_tuple, isi_list_str, isi_list_list, isi_tuple_int, isi_tuple_bool, isi_tuple_tuple, isi_tuple_str, isi_tuple_list, Bool.false_eq_true, if_true, if_false, reduceIte, Bool.not_true, Bool.not_false, reduceCtorEq, false_and, and_false, exists_false, exists_const, scal_int, scal_bl, scal_str, absE, ne_eq, not_true_eq_false, not_false_eq_true, Int.natCast_add, Int.cast_ofNat_Int, and_assoc, tChain3, tTupF, rTupOfF, rIxL]
    refine ⟨by decide, fun l2 h2 => ?_⟩
    have ne2 := c03.st.ne_new h2
    have e4 := Evl.Ex.new (o := HO.lst [V.int 2, V.int 0, V.int 1, V.int 3, V.int 4, V.int 5, V.int 14, V.int 3]) h2
    have hp4 := c03.st.ex e4
    have at4 : upd H3 l2 (HO.lst [V.int 2, V.int 0, V.int 1, V.int 3, V.int 4, V.int 5, V.int 14, V.int 3]) l2 = some (.lst [V.int 2, V.int 0, V.int 1, V.int 3, V.int 4, V.int 5, V.int 14, V.int 3]) := upd_same
    generalize upd H3 l2 (HO.lst [V.int 2, V.int 0, V.int 1, V.int 3, V.int 4, V.int 5, V.int 14, V.int 3]) = H4 at *
    refine ⟨_, _, rfl, hp4, by decide, fun d H5 d0 d1 c5 => ?_⟩
    obtain ⟨m, hm, hm14⟩ : ∃ m : Nat, atI [V.int 2, V.int 0, V.int 1, V.int 3, V.int 4, V.int 5, V.int 14, V.int 3] d = some (V.int m) ∧ m ≤ 14 := by
      obtain rfl | rfl | rfl | rfl | rfl | rfl | rfl | rfl : d = 0 ∨ d = 1 ∨ d = 2 ∨ d = 3 ∨ d = 4 ∨ d = 5 ∨ d = 6 ∨ d = 7 := by omega
      · exact ⟨2, rfl, by decide⟩
      · exact ⟨0, rfl, by decide⟩
      · exact ⟨1, rfl, by decide⟩
      · exact ⟨3, rfl, by decide⟩
      · exact ⟨4, rfl, by decide⟩
      · exact ⟨5, rfl, by decide⟩
      · exact ⟨14, rfl, by decide⟩
      · exact ⟨3, rfl, by decide⟩
    refine ⟨_, d, rfl, SqL.of (c5.keep _ _ ne2 at4), _, hm, ?_⟩
    have c05 := (c03.ex e4).trans c5
    refine hR m H5 (fun i σ' H' => Ch p H H' ∧ ∃ (rs : List V) (rows : List R3) (x3 x4 x5 : Option V), σ' = [some (.ref p), some (.int n), some (.ref l), x3, x4, x5] ∧ H' l = some (.lst rs) ∧ RowsIs H' rs rows ∧ rows.length = i ∧ ∀ x ∈ rows, RowOk n x) (by omega) ?_ ?_ ?_
    · exact ⟨c05, [], [], none, none, none, rfl, c5.keep _ _ nel (e4 _ _ at3), True.intro, rfl, fun x hx => by cases hx⟩
    · rintro i σ' H' hi ⟨c, rs, rows, x3, x4, x5, rfl, hl', hr, hlen, hok⟩
      simp only [tSeq, tAsg, gName, tRet, tRetN, tDrop, tIfS, tNext, tBreak, tCont, tTest, tB, tVar, tC, tCons, tNil, tCB, tCall, tCallK, tOp, tUn, rI0, rI, rU, rEq, rNe, tAnd, tOr, tNot, tAndV, tOrV, tNotV, tTup, tLst, tIf, gTup, gCons, gNil, tPar, tAug, ipI, gSub, L2.start, cxOf, Cx.nox, List.map_cons, List.map_nil, List.length_cons, List.length_nil, List.replicate, Nat.reduceAdd, Nat.reduceSub, List.cons_append, List.nil_append, List.append_nil, List.getElem?_cons_zero, List.getElem?_cons_succ, Option.some.injEq, V.int.injEq, V.bl.injEq, V.str.injEq, V.ref.injEq, V.ty.injEq, List.cons.injEq, and_true, true_and, exists_eq_left, exists_eq_left', exists_and_left, exists_and_right, decide_eq_true_eq, List.set_cons_zero, List.set_cons_succ, Bool.not_eq_true', decide_eq_false_iff_not, isi_NoneType_int, isi_NoneType_bool, isi_NoneType_tuple, isi_NoneType_str, isi_NoneType_list, isi_bool_int, isi_bool_bool, isi_bool_tuple, isi_bool_str, isi_bool_list, isi_int_int, isi_int_bool, isi_int_tuple, isi_int_str, isi_int_list, isi_str_int, isi_str_bool, isi_str_tuple, isi_str_str, isi_str_list, isi_list_int, isi_list_bool, isi_list_tuple, isi_list_str, isi_list_list, isi_tuple_int, isi_tuple_bool, isi_tuple_tuple, isi_tuple_str, isi_tuple_list, Bool.false_eq_true, if_true, if_false, reduceIte, Bool.not_true, Bool.not_false, reduceCtorEq, false_and, and_false, exists_false, exists_const, scal_int, scal_bl, scal_str, absE, ne_eq, not_true_eq_false, not_false_eq_true, Int.natCast_add, Int.cast_ofNat_Int, and_assoc, tChain3, tTupF, rTupOfF, tBM, rAppend]
      refine ⟨_, _, rfl, c.st, by omega, fun a H6 a0 a1 c6 => ⟨a, rfl, ?_⟩⟩
      refine ⟨a, rfl, _, _, rfl, c6.st, by omega, fun b H7 b0 b1 c7 => ⟨b, rfl, ?_⟩⟩
      have l7 := c7.keep _ _ nel (c6.keep _ _ nel hl')
      refine ⟨.inl ⟨rfl, _, SqL.of l7⟩, ?_⟩
      refine ⟨_, rfl, c7.st, fun r H8 r0 r1 c8 => ⟨by decide, fun t H9 ht f1 t9 => ?_⟩⟩
      have c08 := ((c.trans c6).trans c7).trans c8
      have l8 := c8.keep _ _ nel l7
      have r8 := ((hr.ch c6 c.st).ch c7 c6.st).ch c8 c7.st
      have l9 := f1 _ _ l8
      have c09 := c08.ex f1
      have r9 := r8.tk (fun b xs hb => hb.ex f1)
      have tk : ∀ q xs, TupN H9 q xs → TupN (upd H9 l (.lst (rs ++ [V.ref t]))) q xs := fun q xs hq => by
        obtain ⟨o, oc, hq⟩ := hq
        refine ⟨o, oc, ?_⟩
        have ne : q ≠ l := by
          rintro rfl
          rw [l9] at hq
          cases hq
        rw [upd_ne ne]
        exact hq
      refine ⟨rs, l9, by rw [r9.len, sizeLine_eq]; omega, ⟨fun q o nq hq => ?_, ?_⟩, _, upd_same, rows ++ [(a, a + 1 + b, r)], RowsIs.snoc (r9.tk tk) ⟨t, rfl, tk _ _ t9⟩, by rw [List.length_append, hlen]; rfl, fun x hx => ?_⟩
      · have ne : q ≠ l := by
          rintro rfl
          rw [hlH] at hq
          cases hq
        rw [upd_ne ne]
        exact c09.keep _ _ nq hq
      · obtain ⟨ms, hm1, hm2⟩ := c09.st
        exact ⟨ms, by rw [upd_ne (Ne.symm nel)]; exact hm1, hm2⟩
      · rcases List.mem_append.mp hx with h | h
        · exact hok x h
        · rw [List.mem_singleton] at h
          subst h
          exact ⟨a0, by show a < a + 1 + b; omega, by show a + 1 + b < n; omega, r0, r1⟩
    · rintro σ' H' ⟨c, rs, rows, x3, x4, x5, rfl, hl', hr, hlen, hok⟩
      simp only [tSeq, tAsg, gName, tRet, tRetN, tDrop, tIfS, tNext, tBreak, tCont, tTest, tB, tVar, tC, tCons, tNil, tCB, tCall, tCallK, tOp, tUn, rI0, rI, rU, rEq, rNe, tAnd, tOr, tNot, tAndV, tOrV, tNotV, tTup, tLst, tIf, gTup, gCons, gNil, tPar, tAug, ipI, gSub, L2.start, cxOf, Cx.nox, List.map_cons, List.map_nil, List.length_cons, List.length_nil, List.replicate, Nat.reduceAdd, Nat.reduceSub, List.cons_append, List.nil_append, List.append_nil, List.getElem?_cons_zero, List.getElem?_cons_succ, Option.some.injEq, V.int.injEq, V.bl.injEq, V.str.injEq, V.ref.injEq, V.ty.injEq, List.cons.injEq, and_true, true_and, exists_eq_left, exists_eq_left', exists_and_left, exists_and_right, decide_eq_true_eq, List.set_cons_zero, List.set_cons_succ, Bool.not_eq_true', decide_eq_false_iff_not, isi_NoneType_int, isi_NoneType_bool, isi_NoneType_tuple, isi_NoneType_str, isi_NoneType_list, isi_bool_int, isi_bool_bool, isi_bool_tuple, isi_bool_str, isi_bool_list, isi_int_int, isi_int_bool, isi_int_tuple, isi_int_str, isi_int_list, isi_str_int, isi_str_bool, isi_str_tuple, isi_str_str, isi_str_list, isi_list_int, isi_list_bool, isi_list_tuple, isi_list_str, isi_list_list, isi_tuple_int, isi_tuple_bool, isi_tuple_tuple, isi_tuple_str, isi_tuple_list, Bool.false_eq_true, if_true, if_false, reduceIte, Bool.not_true, Bool.not_false, reduceCtorEq, false_and, and_false, exists_false, exists_const, scal_int, scal_bl, scal_str, absE, ne_eq, not_true_eq_false, not_false_eq_true, Int.natCast_add, Int.cast_ofNat_Int, and_assoc, tChain3, tTupF, rTupOfF]
      exact fin c hl' hr (by omega) hok
end
end K00
end
section
set_option Elab.async false
set_option linter.all false
set_option maxRecDepth 100000
set_option maxHeartbeats 4000000
namespace K00
open PySem PySem.Spec PyProof.Rows L2 Pour
def lawW (d : PyData) : Str × Int := (word d).getD ("", cnt d)
theorem num_of_int {d : PyData} (h : isInt d = false) : isNum d = false := by
  cases d <;> first | rfl | (simp [isInt] at h)
section
variable {P : Program} {w : World} {K : PySem.W.Frag} {mg : Str → Option Value} {base : Heap}
def spWord : Sp := fun vs H Q _ => ∃ (p : Addr → Prop) (B : Int) (d : PyData) (v : V), vs = [v] ∧ Dt p B H d v ∧ ∀ a, H a = none → Q (.ref a) (upd H a (.tup [.str (lawW d).1, .int (lawW d).2]))
theorem ok__law_word (T : Txt K mg) : Keeps P w K mg base CX0 2 d_s__law_word ["_law_value"] spWord := by
  obtain ⟨fd, F⟩ := f__law_word T
  obtain ⟨fd__law_int, D__law_int⟩ := ok__law_int (P := P) (w := w) (base := base) T
  refine ⟨fd, F, F.ok sc__law_word (fun vs H Q E h => ?_) (fun cdv A outer s H vs Q E hr h => ⟨_, PSs.nox
    (pss_cons (ps_if (PW.pt (pw_or (pt_not (pt_val (pe_callB call_isi rfl (n_isinstance T) (by decide +kernel) (pa_cons (pv 0) (pa_cons (pe_bltn (v := .ty "tuple") rfl (n_tuple T) (by decide +kernel) rfl) pa_nil))))) (pw_or1 (pt_cmpR op_ne (pe_callB call_len_seq rfl (n_len T) (by decide +kernel) (pa_cons (pv 0) pa_nil)) pe_int (nomark _))))) (pss_one (ps_ret (pe_tup (pa_cons pe_str (pa_cons (pe_un un_neg pe_int) pa_nil))))) pss_nil)
      (pss_cons (ps_if (PW.pt (pw_or (pt_not (pt_val (pe_call D__law_int.2 (hr.mono (by omega)) rfl (g__law_int T) D__law_int.1.kp (b__law_int D__law_int.1) .nil pass0 (pa_cons (pe_ix ix_tup (pv 0) pe_int (fun _ _ => rfl)) pa_nil)))) (pw_or1 (pt_cmpR op_lt (pe_ix ix_tup (pv 0) pe_int (fun _ _ => rfl)) pe_int (nomark _))))) (pss_one (ps_ret (pe_tup (pa_cons pe_str (pa_cons (pe_un un_neg pe_int) pa_nil))))) pss_nil)
      (pss_cons (ps_if (pt_not (pt_val (pe_callB call_isi rfl (n_isinstance T) (by decide +kernel) (pa_cons (pe_ix ix_tup (pv 0) pe_int (fun _ _ => rfl)) (pa_cons (pe_bltn (v := .ty "tuple") rfl (n_tuple T) (by decide +kernel) rfl) pa_nil))))) (pss_one (ps_ret (pe_tup (pa_cons pe_str (pa_cons (pe_un un_neg pe_int) pa_nil))))) pss_nil)
      (pss_cons (ps_for PassesOwn.never rfl (pi_range1 rfl (n_range T) (pa_cons (pe_callB call_len_seq rfl (n_len T) (by decide +kernel) (pa_cons (pe_ix ix_tup (pv 0) pe_int (fun _ _ => rfl)) pa_nil)) pa_nil)) (pg_name (i := 1) sc__law_word.nd rfl (Or.inl rfl)) (pss_cons (ps_set (i := 2) sc__law_word.nd rfl (Or.inl rfl) (pe_ix ix_tup (pe_ix ix_tup (pv 0) pe_int (fun _ _ => rfl)) (pv 1) (fun _ _ => rfl)))
      (pss_cons (ps_if (PW.pt (pw_or (pt_not (pt_val (pe_callB call_isi rfl (n_isinstance T) (by decide +kernel) (pa_cons (pv 2) (pa_cons (pe_bltn (v := .ty "tuple") rfl (n_tuple T) (by decide +kernel) rfl) pa_nil))))) (pw_or1 (pt_cmpR op_ne (pe_callB call_len_seq rfl (n_len T) (by decide +kernel) (pa_cons (pv 2) pa_nil)) pe_int (nomark _))))) (pss_one (ps_ret (pe_tup (pa_cons pe_str (pa_cons (pv 1) pa_nil))))) pss_nil)
      (pss_cons (ps_if (PW.pt (pw_or (pt_not (pt_val (pe_call D__law_int.2 (hr.mono (by omega)) rfl (g__law_int T) D__law_int.1.kp (b__law_int D__law_int.1) .nil pass0 (pa_cons (pe_ix ix_tup (pv 2) pe_int (fun _ _ => rfl)) pa_nil)))) (pw_or (pt_not (pt_val (pe_call D__law_int.2 (hr.mono (by omega)) rfl (g__law_int T) D__law_int.1.kp (b__law_int D__law_int.1) .nil pass0 (pa_cons (pe_ix ix_tup (pv 2) pe_int (fun _ _ => rfl)) pa_nil)))) (pw_or1 (pt_not (pt_chain3 op_le op_lt op_lt pe_int (pe_ix ix_tup (pv 2) pe_int (fun _ _ => rfl)) (pe_ix ix_tup (pv 2) pe_int (fun _ _ => rfl)) (pe_ix ix_tup (pv 0) pe_int (fun _ _ => rfl)))))))) (pss_one (ps_ret (pe_tup (pa_cons pe_str (pa_cons (pv 1) pa_nil))))) pss_nil)
      (pss_one (ps_if (PW.pt (pw_or (pt_not (pt_val (pe_call D__law_int.2 (hr.mono (by omega)) rfl (g__law_int T) D__law_int.1.kp (b__law_int D__law_int.1) .nil pass0 (pa_cons (pe_ix ix_tup (pv 2) pe_int (fun _ _ => rfl)) pa_nil)))) (pw_or1 (pt_cmpR op_lt (pe_ix ix_tup (pv 2) pe_int (fun _ _ => rfl)) pe_int (nomark _))))) (pss_one (ps_ret (pe_tup (pa_cons pe_str (pa_cons (pv 1) pa_nil))))) pss_nil))))))
      (pss_one (ps_ret (pe_tup (pa_cons pe_str (pa_cons (pe_callB call_len_seq rfl (n_len T) (by decide +kernel) (pa_cons (pe_ix ix_tup (pv 0) pe_int (fun _ _ => rfl)) pa_nil)) pa_nil))))))))), ?_⟩)⟩
  · obtain ⟨p, B, d, v, rfl, _⟩ := h
    rfl
  · obtain ⟨p, B, d, v, rfl, hd, q⟩ := h
    simp only [tSeq, tAsg, gName, tRet, tRetN, tDrop, tIfS, tNext, tBreak, tCont, tTest, tB, tVar, tC, tCons, tNil, tCB, tCall, tCallK, tOp, tUn, rI0, rI, rU, rEq, rNe, tAnd, tOr, tNot, tAndV, tOrV, tNotV, tTup, tLst, tIf, gTup, gCons, gNil, tPar, tAug, ipI, gSub, L2.start, cxOf, Cx.nox, List.map_cons, List.map_nil, List.length_cons, List.length_nil, List.replicate, Nat.reduceAdd, Nat.reduceSub, List.cons_append, List.nil_append, List.append_nil, List.getElem?_cons_zero, List.getElem?_cons_succ, Option.some.injEq, V.int.injEq, V.bl.injEq, V.str.injEq, V.ref.injEq, V.ty.injEq, List.cons.injEq, and_true, true_and, exists_eq_left, exists_eq_left', exists_and_left, exists_and_right, decide_eq_true_eq, List.set_cons_zero, List.set_cons_succ, Bool.not_eq_true', decide_eq_false_iff_not, isi_NoneType_int, isi_NoneType_bool, isi_NoneType_tuple, isi_NoneType_str, isi_NoneType_list, isi_bool_int, isi_bool_bool, isi_bool_tuple, isi_bool_str, isi_bool_list, isi_int_int, isi_int_bool, isi_int_tuple, isi_int_str, isi_int_list, isi_str_int, isi_str_bool, isi_str_tuple, isi_str_str, isi_str_list, isi_list_int, isi_list_bool, isi_list_tuple, isi_list_str, isi_list_list, isi_tuple_int, isi_tuple_bool, isi_tuple_tuple, isi_tuple_str, isi_tuple_list, Bool.false_eq_true, if_true, if_false, reduceIte, Bool.not_true, Bool.not_false, reduceCtorEq, false_and, and_false, exists_false, exists_const, scal_int, scal_bl, scal_str, absE, ne_eq, not_true_eq_false, not_false_eq_true, Int.natCast_add, Int.cast_ofNat_Int, and_assoc, tChain3, tTupF, rTupOfF, rIxT]
    have fin : ∀ {s : Str} {i : Int}, word d = some (s, i) → ∀ a, H a = none → Q (.ref a) (upd H a (.tup [.str s, .int i])) := fun {s i} hw a ha => by
      have e : lawW d = (s, i) := by
        unfold lawW
        rw [hw]
        rfl
      have q2 := q a ha
      rw [e] at q2
      exact q2
    refine hd.kn.isi (by decide) ?_
    cases d with
    | tuple ds =>
      obtain ⟨a, xs, rfl, ne, ha, hl, hs⟩ := hd
      simp only [tSeq, tAsg, gName, tRet, tRetN, tDrop, tIfS, tNext, tBreak, tCont, tTest, tB, tVar, tC, tCons, tNil, tCB, tCall, tCallK, tOp, tUn, rI0, rI, rU, rEq, rNe, tAnd, tOr, tNot, tAndV, tOrV, tNotV, tTup, tLst, tIf, gTup, gCons, gNil, tPar, tAug, ipI, gSub, L2.start, cxOf, Cx.nox, List.map_cons, List.map_nil, List.length_cons, List.length_nil, List.replicate, Nat.reduceAdd, Nat.reduceSub, List.cons_append, List.nil_append, List.append_nil, List.getElem?_cons_zero, List.getElem?_cons_succ, Option.some.injEq, V.int.injEq, V.bl.injEq, V.str.injEq, V.ref.injEq, V.ty.injEq, List.cons.injEq, and_true, true_and, exists_eq_left, exists_eq_left', exists_and_left, exists_and_right, decide_eq_true_eq, List.set_cons_zero, List.set_cons_succ, Bool.not_eq_true', decide_eq_false_iff_not, isi_NoneType_int, isi_NoneType_bool, isi_NoneType_tuple, isi_NoneType_str, isi_NoneType_list, isi_bool_int, isi_bool_bool, isi_bool_tuple, isi_bool_str, isi_bool_list, isi_int_int, isi_int_bool, isi_int_tuple, isi_int_str, isi_int_list, isi_str_int, isi_str_bool, isi_str_tuple, isi_str_str, isi_str_list, isi_list_int, isi_list_bool, isi_list_tuple, isi_list_str, isi_list_list, isi_tuple_int, isi_tuple_bool, isi_tuple_tuple, isi_tuple_str, isi_tuple_list, Bool.false_eq_true, if_true, if_false, reduceIte, Bool.not_true, Bool.not_false, reduceCtorEq, false_and, and_false, exists_false, exists_const, scal_int, scal_bl, scal_str, absE, ne_eq, not_true_eq_false, not_false_eq_true, Int.natCast_add, Int.cast_ofNat_Int, and_assoc, tChain3, tTupF, rTupOfF, kindOf]
      refine ⟨_, .inr (TupN.sq ha), ?_⟩
      rw [← hs.len]
      refine ite2 (fun h => ?_) (fun h => ?_)
      · exact ⟨by decide, fin (word_len h)⟩
      obtain ⟨d1, d2, rfl⟩ := two h
      obtain ⟨v1, v2, rfl⟩ : ∃ u v, xs = [u, v] := by
        have := hs.len
        match xs, this with
        | [u, v], _ => exact ⟨u, v, rfl⟩
      obtain ⟨h1, h2, _⟩ := hs
      have sqa := TupN.sq (K := K) ha
      refine ⟨_, sqa, v1, rfl, ?_⟩
      refine ⟨_, _, rfl, h1.kn, ?_⟩
      rw [h1.isInt]
      cases hi : isInt d1 with
      | false =>
        simp only [tSeq, tAsg, gName, tRet, tRetN, tDrop, tIfS, tNext, tBreak, tCont, tTest, tB, tVar, tC, tCons, tNil, tCB, tCall, tCallK, tOp, tUn, rI0, rI, rU, rEq, rNe, tAnd, tOr, tNot, tAndV, tOrV, tNotV, tTup, tLst, tIf, gTup, gCons, gNil, tPar, tAug, ipI, gSub, L2.start, cxOf, Cx.nox, List.map_cons, List.map_nil, List.length_cons, List.length_nil, List.replicate, Nat.reduceAdd, Nat.reduceSub, List.cons_append, List.nil_append, List.append_nil, List.getElem?_cons_zero, List.getElem?_cons_succ, Option.some.injEq, V.int.injEq, V.bl.injEq, V.str.injEq, V.ref.injEq, V.ty.injEq, List.cons.injEq, and_true, true_and, exists_eq_left, exists_eq_left', exists_and_left, exists_and_right, decide_eq_true_eq, List.set_cons_zero, List.set_cons_succ, Bool.not_eq_true', decide_eq_false_iff_not, isi_NoneType_int, isi_NoneType_bool, isi_NoneType_tuple, isi_NoneType_str, isi_NoneType_list, isi_bool_int, isi_bool_bool, isi_bool_tuple, isi_bool_str, isi_bool_list, isi_int_int, isi_int_bool, isi_int_tuple, isi_int_str, isi_int_list, isi_str_int, isi_str_bool, isi_str_tuple, isi_str_str, isi_str_list, isi_list_int, isi_list_bool, isi_list_tuple, isi_list_str, isi_list_list, isi_tuple_int, isi_tuple_bool, isi_tuple_tuple, isi_tuple_str, isi_tuple_list, Bool.false_eq_true, if_true, if_false, reduceIte, Bool.not_true, Bool.not_false, reduceCtorEq, false_and, and_false, exists_false, exists_const, scal_int, scal_bl, scal_str, absE, ne_eq, not_true_eq_false, not_false_eq_true, Int.natCast_add, Int.cast_ofNat_Int, and_assoc, tChain3, tTupF, rTupOfF]
        exact ⟨by decide, fin (by cases d1 <;> first | rfl | (simp [isInt] at hi))⟩
      | true =>
        obtain ⟨n, rfl⟩ := isInt_int hi
        obtain ⟨rfl, _⟩ := h1
        simp only [tSeq, tAsg, gName, tRet, tRetN, tDrop, tIfS, tNext, tBreak, tCont, tTest, tB, tVar, tC, tCons, tNil, tCB, tCall, tCallK, tOp, tUn, rI0, rI, rU, rEq, rNe, tAnd, tOr, tNot, tAndV, tOrV, tNotV, tTup, tLst, tIf, gTup, gCons, gNil, tPar, tAug, ipI, gSub, L2.start, cxOf, Cx.nox, List.map_cons, List.map_nil, List.length_cons, List.length_nil, List.replicate, Nat.reduceAdd, Nat.reduceSub, List.cons_append, List.nil_append, List.append_nil, List.getElem?_cons_zero, List.getElem?_cons_succ, Option.some.injEq, V.int.injEq, V.bl.injEq, V.str.injEq, V.ref.injEq, V.ty.injEq, List.cons.injEq, and_true, true_and, exists_eq_left, exists_eq_left', exists_and_left, exists_and_right, decide_eq_true_eq, List.set_cons_zero, List.set_cons_succ, Bool.not_eq_true', decide_eq_false_iff_not, isi_NoneType_int, isi_NoneType_bool, isi_NoneType_tuple, isi_NoneType_str, isi_NoneType_list, isi_bool_int, isi_bool_bool, isi_bool_tuple, isi_bool_str, isi_bool_list, isi_int_int, isi_int_bool, isi_int_tuple, isi_int_str, isi_int_list, isi_str_int, isi_str_bool, isi_str_tuple, isi_str_str, isi_str_list, isi_list_int, isi_list_bool, isi_list_tuple, isi_list_str, isi_list_list, isi_tuple_int, isi_tuple_bool, isi_tuple_tuple, isi_tuple_str, isi_tuple_list, Bool.false_eq_true, if_true, if_false, reduceIte, Bool.not_true, Bool.not_false, reduceCtorEq, false_and, and_false, exists_false, exists_const, scal_int, scal_bl, scal_str, absE, ne_eq, not_true_eq_false, not_false_eq_true, Int.natCast_add, Int.cast_ofNat_Int, and_assoc, tChain3, tTupF, rTupOfF]
        refine ⟨_, sqa, _, rfl, n, rfl, ?_⟩
        refine ite2 (fun hn => ?_) (fun hn => ?_)
        · exact ⟨by decide, fin (by simp only [word]; rw [if_pos hn])⟩
        refine ⟨_, sqa, v2, rfl, ?_⟩
        refine h2.kn.isi (by decide) ?_
        cases d2 with
        | tuple ls =>
          obtain ⟨l, ys, rfl, _, hla, hll, hls⟩ := h2
          have ew : word (.tuple [.int n, .tuple ls]) = wordFrom n 0 ls := by
            simp only [word]
            rw [if_neg hn]
          rw [ew] at fin
          simp only [tSeq, tAsg, gName, tRet, tRetN, tDrop, tIfS, tNext, tBreak, tCont, tTest, tB, tVar, tC, tCons, tNil, tCB, tCall, tCallK, tOp, tUn, rI0, rI, rU, rEq, rNe, tAnd, tOr, tNot, tAndV, tOrV, tNotV, tTup, tLst, tIf, gTup, gCons, gNil, tPar, tAug, ipI, gSub, L2.start, cxOf, Cx.nox, List.map_cons, List.map_nil, List.length_cons, List.length_nil, List.replicate, Nat.reduceAdd, Nat.reduceSub, List.cons_append, List.nil_append, List.append_nil, List.getElem?_cons_zero, List.getElem?_cons_succ, Option.some.injEq, V.int.injEq, V.bl.injEq, V.str.injEq, V.ref.injEq, V.ty.injEq, List.cons.injEq, and_true, true_and, exists_eq_left, exists_eq_left', exists_and_left, exists_and_right, decide_eq_true_eq, List.set_cons_zero, List.set_cons_succ, Bool.not_eq_true', decide_eq_false_iff_not, isi_NoneType_int, isi_NoneType_bool, isi_NoneType_tuple, isi_NoneType_str, isi_NoneType_list, isi_bool_int, isi_bool_bool, isi_bool_tuple, isi_bool_str, isi_bool_list, isi_int_int, isi_int_bool, isi_int_tuple, isi_int_str, isi_int_list, isi_str_int, isi_str_bool, isi_str_tuple, isi_str_str, isi_str_list, isi_list_int, isi_list_bool, isi_list_tuple, isi_list_str, isi_list_list, isi_tuple_int, isi_tuple_bool, isi_tuple_tuple, isi_tuple_str, isi_tuple_list, Bool.false_eq_true, if_true, if_false, reduceIte, Bool.not_true, Bool.not_false, reduceCtorEq, false_and, and_false, exists_false, exists_const, scal_int, scal_bl, scal_str, absE, ne_eq, not_true_eq_false, not_false_eq_true, Int.natCast_add, Int.cast_ofNat_Int, and_assoc, tChain3, tTupF, rTupOfF, kindOf]
          refine for_rangeE (n := ls.length) (by rw [hls.len]; omega) ?_ (fun i σ' H' => H' = H ∧ ∃ (x1 x2 : Option V), σ' = [some (.ref a), x1, x2] ∧ wordFrom n i (ls.drop i) = wordFrom n 0 ls) ?_ ?_ ?_
          · intro Q' h
            simp only [tSeq, tAsg, gName, tRet, tRetN, tDrop, tIfS, tNext, tBreak, tCont, tTest, tB, tVar, tC, tCons, tNil, tCB, tCall, tCallK, tOp, tUn, rI0, rI, rU, rEq, rNe, tAnd, tOr, tNot, tAndV, tOrV, tNotV, tTup, tLst, tIf, gTup, gCons, gNil, tPar, tAug, ipI, gSub, L2.start, cxOf, Cx.nox, List.map_cons, List.map_nil, List.length_cons, List.length_nil, List.replicate, Nat.reduceAdd, Nat.reduceSub, List.cons_append, List.nil_append, List.append_nil, List.getElem?_cons_zero, List.getElem?_cons_succ, Option.some.injEq, V.int.injEq, V.bl.injEq, V.str.injEq, V.ref.injEq, V.ty.injEq, List.cons.injEq, and_true, true_and, exists_eq_left, exists_eq_left', exists_and_left, exists_and_right, decide_eq_true_eq, List.set_cons_zero, List.set_cons_succ, Bool.not_eq_true', decide_eq_false_iff_not, isi_NoneType_int, isi_NoneType_bool, isi_NoneType_tuple, isi_NoneType_str, isi_NoneType_list, isi_bool_int, isi_bool_bool, isi_bool_tuple, isi_bool_str, isi_bool_list, isi_int_int, isi_int_bool, isi_int_tuple, isi_int_str, isi_int_list, isi_str_int, isi_str_bool, isi_str_tuple, isi_str_str, isi_str_list, isi_list_int, isi_list_bool, isi_list_tuple, isi_list_str, isi_list_list, isi_tuple_int, isi_tuple_bool, isi_tuple_tuple, isi_tuple_str, isi_tuple_list, Bool.false_eq_true, if_true, if_false, reduceIte, Bool.not_true, Bool.not_false, reduceCtorEq, false_and, and_false, exists_false, exists_const, scal_int, scal_bl, scal_str, absE, ne_eq, not_true_eq_false, not_false_eq_true, Int.natCast_add, Int.cast_ofNat_Int, and_assoc, tChain3, tTupF, rTupOfF, rIxT]
            refine ⟨_, sqa, _, rfl, l, rfl, _, .inr (TupN.sq hla), ?_⟩
            rw [← hls.len]
            exact h
          · exact ⟨rfl, none, none, rfl, rfl⟩
          · rintro i σ' H' hi2 ⟨rfl, x1, x2, rfl, hj⟩
            obtain ⟨x, hx⟩ : ∃ x, ys[i]? = some x := ⟨_, List.getElem?_eq_getElem (by rw [← hls.len]; exact hi2)⟩
            obtain ⟨e, he, hde⟩ := hls.get hx
            rw [drop_cons he] at hj
            have no : ∀ {s : Str}, lineWord n e = some s → wordFrom n 0 ls = some (s, (i : Int)) := fun {s} hf => by
              rw [← hj]
              simp only [wordFrom, hf]
            have yes : lineWord n e = none → wordFrom n (i + 1) (ls.drop (i + 1)) = wordFrom n 0 ls := fun hf => by
              rw [← hj]
              simp only [wordFrom, hf]
            simp only [tSeq, tAsg, gName, tRet, tRetN, tDrop, tIfS, tNext, tBreak, tCont, tTest, tB, tVar, tC, tCons, tNil, tCB, tCall, tCallK, tOp, tUn, rI0, rI, rU, rEq, rNe, tAnd, tOr, tNot, tAndV, tOrV, tNotV, tTup, tLst, tIf, gTup, gCons, gNil, tPar, tAug, ipI, gSub, L2.start, cxOf, Cx.nox, List.map_cons, List.map_nil, List.length_cons, List.length_nil, List.replicate, Nat.reduceAdd, Nat.reduceSub, List.cons_append, List.nil_append, List.append_nil, List.getElem?_cons_zero, List.getElem?_cons_succ, Option.some.injEq, V.int.injEq, V.bl.injEq, V.str.injEq, V.ref.injEq, V.ty.injEq, List.cons.injEq, and_true, true_and, exists_eq_left, exists_eq_left', exists_and_left, exists_and_right, decide_eq_true_eq, List.set_cons_zero, List.set_cons_succ, Bool.not_eq_true', decide_eq_false_iff_not, isi_NoneType_int, isi_NoneType_bool, isi_NoneType_tuple, isi_NoneType_str, isi_NoneType_list, isi_bool_int, isi_bool_bool, isi_bool_tuple, isi_bool_str, isi_bool_list, isi_int_int, isi_int_bool, isi_int_tuple, isi_int_str, isi_int_list, isi_str_int, isi_str_bool, isi_str_tuple, isi_str_str, isi_str_list, isi_list_int, isi_list_bool, isi_list_tuple, isi_list_str, isi_list_list, isi_tuple_int, isi_tuple_bool, isi_tuple_tuple, isi_tuple_str, isi_tuple_list, Bool.false_eq_true, if_true, if_false, reduceIte, Bool.not_true, Bool.not_false, reduceCtorEq, false_and, and_false, exists_false, exists_const, scal_int, scal_bl, scal_str, absE, ne_eq, not_true_eq_false, not_false_eq_true, Int.natCast_add, Int.cast_ofNat_Int, and_assoc, tChain3, tTupF, rTupOfF, rIxT, Int.zero_add]
            refine ⟨_, sqa, _, rfl, l, rfl, _, TupN.sq hla, x, atI_nat hx, ?_⟩
            refine hde.kn.isi (by decide) ?_
            cases e with
            | tuple es =>
              obtain ⟨b, zs, rfl, _, hb, hbl, hbs⟩ := hde
              simp only [tSeq, tAsg, gName, tRet, tRetN, tDrop, tIfS, tNext, tBreak, tCont, tTest, tB, tVar, tC, tCons, tNil, tCB, tCall, tCallK, tOp, tUn, rI0, rI, rU, rEq, rNe, tAnd, tOr, tNot, tAndV, tOrV, tNotV, tTup, tLst, tIf, gTup, gCons, gNil, tPar, tAug, ipI, gSub, L2.start, cxOf, Cx.nox, List.map_cons, List.map_nil, List.length_cons, List.length_nil, List.replicate, Nat.reduceAdd, Nat.reduceSub, List.cons_append, List.nil_append, List.append_nil, List.getElem?_cons_zero, List.getElem?_cons_succ, Option.some.injEq, V.int.injEq, V.bl.injEq, V.str.injEq, V.ref.injEq, V.ty.injEq, List.cons.injEq, and_true, true_and, exists_eq_left, exists_eq_left', exists_and_left, exists_and_right, decide_eq_true_eq, List.set_cons_zero, List.set_cons_succ, Bool.not_eq_true', decide_eq_false_iff_not, isi_NoneType_int, isi_NoneType_bool, isi_NoneType_tuple, isi_NoneType_str, isi_NoneType_list, isi_bool_int, isi_bool_bool, isi_bool_tuple, isi_bool_str, isi_bool_list, isi_int_int, isi_int_bool, isi_int_tuple, isi_int_str, isi_int_list, isi_str_int, isi_str_bool, isi_str_tuple, isi_str_str, isi_str_list, isi_list_int, isi_list_bool, isi_list_tuple, isi_list_str, isi_list_list, isi_tuple_int, isi_tuple_bool, isi_tuple_tuple, isi_tuple_str, isi_tuple_list, Bool.false_eq_true, if_true, if_false, reduceIte, Bool.not_true, Bool.not_false, reduceCtorEq, false_and, and_false, exists_false, exists_const, scal_int, scal_bl, scal_str, absE, ne_eq, not_true_eq_false, not_false_eq_true, Int.natCast_add, Int.cast_ofNat_Int, and_assoc, tChain3, tTupF, rTupOfF, kindOf]
              refine ⟨_, .inr (TupN.sq hb), ?_⟩
              rw [← hbs.len]
              refine ite2 (fun h => ?_) (fun h => ?_)
              · exact ⟨by decide, fin (no (lw_len h))⟩
              obtain ⟨f1, f2, f3, rfl⟩ := three h
              obtain ⟨u1, u2, u3, rfl⟩ : ∃ u v w, zs = [u, v, w] := by
                have := hbs.len
                match zs, this with
                | [u, v, w], _ => exact ⟨u, v, w, rfl⟩
              obtain ⟨k1, k2, k3, _⟩ := hbs
              have sqb := TupN.sq (K := K) hb
              refine ⟨_, sqb, u1, rfl, ?_⟩
              refine ⟨_, _, rfl, k1.kn, ?_⟩
              rw [k1.isInt]
              cases hi1 : isInt f1 with
              | false =>
                simp only [tSeq, tAsg, gName, tRet, tRetN, tDrop, tIfS, tNext, tBreak, tCont, tTest, tB, tVar, tC, tCons, tNil, tCB, tCall, tCallK, tOp, tUn, rI0, rI, rU, rEq, rNe, tAnd, tOr, tNot, tAndV, tOrV, tNotV, tTup, tLst, tIf, gTup, gCons, gNil, tPar, tAug, ipI, gSub, L2.start, cxOf, Cx.nox, List.map_cons, List.map_nil, List.length_cons, List.length_nil, List.replicate, Nat.reduceAdd, Nat.reduceSub, List.cons_append, List.nil_append, List.append_nil, List.getElem?_cons_zero, List.getElem?_cons_succ, Option.some.injEq, V.int.injEq, V.bl.injEq, V.str.injEq, V.ref.injEq, V.ty.injEq, List.cons.injEq, and_true, true_and, exists_eq_left, exists_eq_left', exists_and_left, exists_and_right, decide_eq_true_eq, List.set_cons_zero, List.set_cons_succ, Bool.not_eq_true', decide_eq_false_iff_not, isi_NoneType_int, isi_NoneType_bool, isi_NoneType_tuple, isi_NoneType_str, isi_NoneType_list, isi_bool_int, isi_bool_bool, isi_bool_tuple, isi_bool_str, isi_bool_list, isi_int_int, isi_int_bool, isi_int_tuple, isi_int_str, isi_int_list, isi_str_int, isi_str_bool, isi_str_tuple, isi_str_str, isi_str_list, isi_list_int, isi_list_bool, isi_list_tuple, isi_list_str, isi_list_list, isi_tuple_int, isi_tuple_bool, isi_tuple_tuple, isi_tuple_str, isi_tuple_list, Bool.false_eq_true, if_true, if_false, reduceIte, Bool.not_true, Bool.not_false, reduceCtorEq, false_and, and_false, exists_false, exists_const, scal_int, scal_bl, scal_str, absE, ne_eq, not_true_eq_false, not_false_eq_true, Int.natCast_add, Int.cast_ofNat_Int, and_assoc, tChain3, tTupF, rTupOfF]
                exact ⟨by decide, fin (no (lw_a (num_of_int hi1)))⟩
              | true =>
                obtain ⟨z1, rfl⟩ := isInt_int hi1
                obtain ⟨rfl, _⟩ := k1
                simp only [tSeq, tAsg, gName, tRet, tRetN, tDrop, tIfS, tNext, tBreak, tCont, tTest, tB, tVar, tC, tCons, tNil, tCB, tCall, tCallK, tOp, tUn, rI0, rI, rU, rEq, rNe, tAnd, tOr, tNot, tAndV, tOrV, tNotV, tTup, tLst, tIf, gTup, gCons, gNil, tPar, tAug, ipI, gSub, L2.start, cxOf, Cx.nox, List.map_cons, List.map_nil, List.length_cons, List.length_nil, List.replicate, Nat.reduceAdd, Nat.reduceSub, List.cons_append, List.nil_append, List.append_nil, List.getElem?_cons_zero, List.getElem?_cons_succ, Option.some.injEq, V.int.injEq, V.bl.injEq, V.str.injEq, V.ref.injEq, V.ty.injEq, List.cons.injEq, and_true, true_and, exists_eq_left, exists_eq_left', exists_and_left, exists_and_right, decide_eq_true_eq, List.set_cons_zero, List.set_cons_succ, Bool.not_eq_true', decide_eq_false_iff_not, isi_NoneType_int, isi_NoneType_bool, isi_NoneType_tuple, isi_NoneType_str, isi_NoneType_list, isi_bool_int, isi_bool_bool, isi_bool_tuple, isi_bool_str, isi_bool_list, isi_int_int, isi_int_bool, isi_int_tuple, isi_int_str, isi_int_list, isi_str_int, isi_str_bool, isi_str_tuple, isi_str_str, isi_str_list, isi_list_int, isi_list_bool, isi_list_tuple, isi_list_str, isi_list_list, isi_tuple_int, isi_tuple_bool, isi_tuple_tuple, isi_tuple_str, isi_tuple_list, Bool.false_eq_true, if_true, if_false, reduceIte, Bool.not_true, Bool.not_false, reduceCtorEq, false_and, and_false, exists_false, exists_const, scal_int, scal_bl, scal_str, absE, ne_eq, not_true_eq_false, not_false_eq_true, Int.natCast_add, Int.cast_ofNat_Int, and_assoc, tChain3, tTupF, rTupOfF]
                refine ⟨_, sqb, u2, rfl, ?_⟩
                refine ⟨_, _, rfl, k2.kn, ?_⟩
                rw [k2.isInt]
                cases hi2 : isInt f2 with
                | false =>
                  simp only [tSeq, tAsg, gName, tRet, tRetN, tDrop, tIfS, tNext, tBreak, tCont, tTest, tB, tVar, tC, tCons, tNil, tCB, tCall, tCallK, tOp, tUn, rI0, rI, rU, rEq, rNe, tAnd, tOr, tNot, tAndV, tOrV, tNotV, tTup, tLst, tIf, gTup, gCons, gNil, tPar, tAug, ipI, gSub, L2.start, cxOf, Cx.nox, List.map_cons, List.map_nil, List.length_cons, List.length_nil, List.replicate, Nat.reduceAdd, Nat.reduceSub, List.cons_append, List.nil_append, List.append_nil, List.getElem?_cons_zero, List.getElem?_cons_succ, Option.some.injEq, V.int.injEq, V.bl.injEq, V.str.injEq, V.ref.injEq, V.ty.injEq, List.cons.injEq, and_true, true_and, exists_eq_left, exists_eq_left', exists_and_left, exists_and_right, decide_eq_true_eq, List.set_cons_zero, List.set_cons_succ, Bool.not_eq_true', decide_eq_false_iff_not, isi_NoneType_int, isi_NoneType_bool, isi_NoneType_tuple, isi_NoneType_str, isi_NoneType_list, isi_bool_int, isi_bool_bool, isi_bool_tuple, isi_bool_str, isi_bool_list, isi_int_int, isi_int_bool, isi_int_tuple, isi_int_str, isi_int_list, isi_str_int, isi_str_bool, isi_str_tuple, isi_str_str, isi_str_list, isi_list_int, isi_list_bool, isi_list_tuple, isi_list_str, isi_list_list, isi_tuple_int, isi_tuple_bool, isi_tuple_tuple, isi_tuple_str, isi_tuple_list, Bool.false_eq_true, if_true, if_false, reduceIte, Bool.not_true, Bool.not_false, reduceCtorEq, false_and, and_false, exists_false, exists_const, scal_int, scal_bl, scal_str, absE, ne_eq, not_true_eq_false, not_false_eq_true, Int.natCast_add, Int.cast_ofNat_Int, and_assoc, tChain3, tTupF, rTupOfF]
                  exact ⟨by decide, fin (no (lw_b (num_of_int hi2)))⟩
                | true =>
                  obtain ⟨z2, rfl⟩ := isInt_int hi2
                  obtain ⟨rfl, _⟩ := k2
                  simp only [tSeq, tAsg, gName, tRet, tRetN, tDrop, tIfS, tNext, tBreak, tCont, tTest, tB, tVar, tC, tCons, tNil, tCB, tCall, tCallK, tOp, tUn, rI0, rI, rU, rEq, rNe, tAnd, tOr, tNot, tAndV, tOrV, tNotV, tTup, tLst, tIf, gTup, gCons, gNil, tPar, tAug, ipI, gSub, L2.start, cxOf, Cx.nox, List.map_cons, List.map_nil, List.length_cons, List.length_nil, List.replicate, Nat.reduceAdd, Nat.reduceSub, List.cons_append, List.nil_append, List.append_nil, List.getElem?_cons_zero, List.getElem?_cons_succ, Option.some.injEq, V.int.injEq, V.bl.injEq, V.str.injEq, V.ref.injEq, V.ty.injEq, List.cons.injEq, and_true, true_and, exists_eq_left, exists_eq_left', exists_and_left, exists_and_right, decide_eq_true_eq, List.set_cons_zero, List.set_cons_succ, Bool.not_eq_true', decide_eq_false_iff_not, isi_NoneType_int, isi_NoneType_bool, isi_NoneType_tuple, isi_NoneType_str, isi_NoneType_list, isi_bool_int, isi_bool_bool, isi_bool_tuple, isi_bool_str, isi_bool_list, isi_int_int, isi_int_bool, isi_int_tuple, isi_int_str, isi_int_list, isi_str_int, isi_str_bool, isi_str_tuple, isi_str_str, isi_str_list, isi_list_int, isi_list_bool, isi_list_tuple, isi_list_str, isi_list_list, isi_tuple_int, isi_tuple_bool, isi_tuple_tuple, isi_tuple_str, isi_tuple_list, Bool.false_eq_true, if_true, if_false, reduceIte, Bool.not_true, Bool.not_false, reduceCtorEq, false_and, and_false, exists_false, exists_const, scal_int, scal_bl, scal_str, absE, ne_eq, not_true_eq_false, not_false_eq_true, Int.natCast_add, Int.cast_ofNat_Int, and_assoc, tChain3, tTupF, rTupOfF]
                  refine ⟨_, sqb, _, rfl, z1, rfl, ?_⟩
                  refine ite2 (fun g1 => ?_) (fun g1 => ⟨by decide, fin (no (lw_ab (by omega)))⟩)
                  refine ⟨_, sqb, _, rfl, z1, rfl, z2, rfl, ?_⟩
                  refine ite2 (fun g2 => ?_) (fun g2 => ⟨by decide, fin (no (lw_ab (by omega)))⟩)
                  refine ⟨_, sqa, _, rfl, z2, rfl, n, rfl, ?_⟩
                  refine ite2 (fun g3 => ⟨by decide, fin (no (lw_ab (by omega)))⟩) (fun g3 => ?_)
                  have hab : 0 ≤ z1 ∧ 0 ≤ z2 ∧ z1 < z2 ∧ z2 < n := by omega
                  refine ⟨_, sqb, u3, rfl, ?_⟩
                  refine ⟨_, _, rfl, k3.kn, ?_⟩
                  rw [k3.isInt]
                  cases hi3 : isInt f3 with
                  | false =>
                    simp only [tSeq, tAsg, gName, tRet, tRetN, tDrop, tIfS, tNext, tBreak, tCont, tTest, tB, tVar, tC, tCons, tNil, tCB, tCall, tCallK, tOp, tUn, rI0, rI, rU, rEq, rNe, tAnd, tOr, tNot, tAndV, tOrV, tNotV, tTup, tLst, tIf, gTup, gCons, gNil, tPar, tAug, ipI, gSub, L2.start, cxOf, Cx.nox, List.map_cons, List.map_nil, List.length_cons, List.length_nil, List.replicate, Nat.reduceAdd, Nat.reduceSub, List.cons_append, List.nil_append, List.append_nil, List.getElem?_cons_zero, List.getElem?_cons_succ, Option.some.injEq, V.int.injEq, V.bl.injEq, V.str.injEq, V.ref.injEq, V.ty.injEq, List.cons.injEq, and_true, true_and, exists_eq_left, exists_eq_left', exists_and_left, exists_and_right, decide_eq_true_eq, List.set_cons_zero, List.set_cons_succ, Bool.not_eq_true', decide_eq_false_iff_not, isi_NoneType_int, isi_NoneType_bool, isi_NoneType_tuple, isi_NoneType_str, isi_NoneType_list, isi_bool_int, isi_bool_bool, isi_bool_tuple, isi_bool_str, isi_bool_list, isi_int_int, isi_int_bool, isi_int_tuple, isi_int_str, isi_int_list, isi_str_int, isi_str_bool, isi_str_tuple, isi_str_str, isi_str_list, isi_list_int, isi_list_bool, isi_list_tuple, isi_list_str, isi_list_list, isi_tuple_int, isi_tuple_bool, isi_tuple_tuple, isi_tuple_str, isi_tuple_list, Bool.false_eq_true, if_true, if_false, reduceIte, Bool.not_true, Bool.not_false, reduceCtorEq, false_and, and_false, exists_false, exists_const, scal_int, scal_bl, scal_str, absE, ne_eq, not_true_eq_false, not_false_eq_true, Int.natCast_add, Int.cast_ofNat_Int, and_assoc, tChain3, tTupF, rTupOfF]
                    exact ⟨by decide, fin (no (lw_c hab hi3))⟩
                  | true =>
                    obtain ⟨z3, rfl⟩ := isInt_int hi3
                    obtain ⟨rfl, _⟩ := k3
                    simp only [tSeq, tAsg, gName, tRet, tRetN, tDrop, tIfS, tNext, tBreak, tCont, tTest, tB, tVar, tC, tCons, tNil, tCB, tCall, tCallK, tOp, tUn, rI0, rI, rU, rEq, rNe, tAnd, tOr, tNot, tAndV, tOrV, tNotV, tTup, tLst, tIf, gTup, gCons, gNil, tPar, tAug, ipI, gSub, L2.start, cxOf, Cx.nox, List.map_cons, List.map_nil, List.length_cons, List.length_nil, List.replicate, Nat.reduceAdd, Nat.reduceSub, List.cons_append, List.nil_append, List.append_nil, List.getElem?_cons_zero, List.getElem?_cons_succ, Option.some.injEq, V.int.injEq, V.bl.injEq, V.str.injEq, V.ref.injEq, V.ty.injEq, List.cons.injEq, and_true, true_and, exists_eq_left, exists_eq_left', exists_and_left, exists_and_right, decide_eq_true_eq, List.set_cons_zero, List.set_cons_succ, Bool.not_eq_true', decide_eq_false_iff_not, isi_NoneType_int, isi_NoneType_bool, isi_NoneType_tuple, isi_NoneType_str, isi_NoneType_list, isi_bool_int, isi_bool_bool, isi_bool_tuple, isi_bool_str, isi_bool_list, isi_int_int, isi_int_bool, isi_int_tuple, isi_int_str, isi_int_list, isi_str_int, isi_str_bool, isi_str_tuple, isi_str_str, isi_str_list, isi_list_int, isi_list_bool, isi_list_tuple, isi_list_str, isi_list_list, isi_tuple_int, isi_tuple_bool, isi_tuple_tuple, isi_tuple_str, isi_tuple_list, Bool.false_eq_true, if_true, if_false, reduceIte, Bool.not_true, Bool.not_false, reduceCtorEq, false_and, and_false, exists_false, exists_const, scal_int, scal_bl, scal_str, absE, ne_eq, not_true_eq_false, not_false_eq_true, Int.natCast_add, Int.cast_ofNat_Int, and_assoc, tChain3, tTupF, rTupOfF]
                    refine ⟨_, sqb, _, rfl, z3, rfl, ?_⟩
                    refine ite2 (fun g4 => ?_) (fun g4 => ?_)
                    · exact ⟨by decide, fin (no (by rw [lw_r hab, if_neg (by omega)]))⟩
                    · exact yes (by rw [lw_r hab, if_pos (by omega)])
            | _ =>
              simp only [tSeq, tAsg, gName, tRet, tRetN, tDrop, tIfS, tNext, tBreak, tCont, tTest, tB, tVar, tC, tCons, tNil, tCB, tCall, tCallK, tOp, tUn, rI0, rI, rU, rEq, rNe, tAnd, tOr, tNot, tAndV, tOrV, tNotV, tTup, tLst, tIf, gTup, gCons, gNil, tPar, tAug, ipI, gSub, L2.start, cxOf, Cx.nox, List.map_cons, List.map_nil, List.length_cons, List.length_nil, List.replicate, Nat.reduceAdd, Nat.reduceSub, List.cons_append, List.nil_append, List.append_nil, List.getElem?_cons_zero, List.getElem?_cons_succ, Option.some.injEq, V.int.injEq, V.bl.injEq, V.str.injEq, V.ref.injEq, V.ty.injEq, List.cons.injEq, and_true, true_and, exists_eq_left, exists_eq_left', exists_and_left, exists_and_right, decide_eq_true_eq, List.set_cons_zero, List.set_cons_succ, Bool.not_eq_true', decide_eq_false_iff_not, isi_NoneType_int, isi_NoneType_bool, isi_NoneType_tuple, isi_NoneType_str, isi_NoneType_list, isi_bool_int, isi_bool_bool, isi_bool_tuple, isi_bool_str, isi_bool_list, isi_int_int, isi_int_bool, isi_int_tuple, isi_int_str, isi_int_list, isi_str_int, isi_str_bool, isi_str_tuple, isi_str_str, isi_str_list, isi_list_int, isi_list_bool, isi_list_tuple, isi_list_str, isi_list_list, isi_tuple_int, isi_tuple_bool, isi_tuple_tuple, isi_tuple_str, isi_tuple_list, Bool.false_eq_true, if_true, if_false, reduceIte, Bool.not_true, Bool.not_false, reduceCtorEq, false_and, and_false, exists_false, exists_const, scal_int, scal_bl, scal_str, absE, ne_eq, not_true_eq_false, not_false_eq_true, Int.natCast_add, Int.cast_ofNat_Int, and_assoc, tChain3, tTupF, rTupOfF, kindOf]
              exact ⟨by decide, fin (no rfl)⟩
          · rintro σ' H' ⟨rfl, x1, x2, rfl, hj⟩
            rw [List.drop_length] at hj
            simp only [tSeq, tAsg, gName, tRet, tRetN, tDrop, tIfS, tNext, tBreak, tCont, tTest, tB, tVar, tC, tCons, tNil, tCB, tCall, tCallK, tOp, tUn, rI0, rI, rU, rEq, rNe, tAnd, tOr, tNot, tAndV, tOrV, tNotV, tTup, tLst, tIf, gTup, gCons, gNil, tPar, tAug, ipI, gSub, L2.start, cxOf, Cx.nox, List.map_cons, List.map_nil, List.length_cons, List.length_nil, List.replicate, Nat.reduceAdd, Nat.reduceSub, List.cons_append, List.nil_append, List.append_nil, List.getElem?_cons_zero, List.getElem?_cons_succ, Option.some.injEq, V.int.injEq, V.bl.injEq, V.str.injEq, V.ref.injEq, V.ty.injEq, List.cons.injEq, and_true, true_and, exists_eq_left, exists_eq_left', exists_and_left, exists_and_right, decide_eq_true_eq, List.set_cons_zero, List.set_cons_succ, Bool.not_eq_true', decide_eq_false_iff_not, isi_NoneType_int, isi_NoneType_bool, isi_NoneType_tuple, isi_NoneType_str, isi_NoneType_list, isi_bool_int, isi_bool_bool, isi_bool_tuple, isi_bool_str, isi_bool_list, isi_int_int, isi_int_bool, isi_int_tuple, isi_int_str, isi_int_list, isi_str_int, isi_str_bool, isi_str_tuple, isi_str_str, isi_str_list, isi_list_int, isi_list_bool, isi_list_tuple, isi_list_str, isi_list_list, isi_tuple_int, isi_tuple_bool, isi_tuple_tuple, isi_tuple_str, isi_tuple_list, Bool.false_eq_true, if_true, if_false, reduceIte, Bool.not_true, Bool.not_false, reduceCtorEq, false_and, and_false, exists_false, exists_const, scal_int, scal_bl, scal_str, absE, ne_eq, not_true_eq_false, not_false_eq_true, Int.natCast_add, Int.cast_ofNat_Int, and_assoc, tChain3, tTupF, rTupOfF, rIxT]
            refine ⟨_, sqa, _, rfl, l, rfl, _, .inr (TupN.sq hla), by decide, fun c hc => ?_⟩
            have e : lawW (.tuple [.int n, .tuple ls]) = (("" : Str), (ls.length : Int)) := by
              unfold lawW
              rw [ew, ← hj]
              rfl
            have q2 := q c hc
            rw [e] at q2
            rw [← hls.len]
            exact q2
        | _ =>
          simp only [tSeq, tAsg, gName, tRet, tRetN, tDrop, tIfS, tNext, tBreak, tCont, tTest, tB, tVar, tC, tCons, tNil, tCB, tCall, tCallK, tOp, tUn, rI0, rI, rU, rEq, rNe, tAnd, tOr, tNot, tAndV, tOrV, tNotV, tTup, tLst, tIf, gTup, gCons, gNil, tPar, tAug, ipI, gSub, L2.start, cxOf, Cx.nox, List.map_cons, List.map_nil, List.length_cons, List.length_nil, List.replicate, Nat.reduceAdd, Nat.reduceSub, List.cons_append, List.nil_append, List.append_nil, List.getElem?_cons_zero, List.getElem?_cons_succ, Option.some.injEq, V.int.injEq, V.bl.injEq, V.str.injEq, V.ref.injEq, V.ty.injEq, List.cons.injEq, and_true, true_and, exists_eq_left, exists_eq_left', exists_and_left, exists_and_right, decide_eq_true_eq, List.set_cons_zero, List.set_cons_succ, Bool.not_eq_true', decide_eq_false_iff_not, isi_NoneType_int, isi_NoneType_bool, isi_NoneType_tuple, isi_NoneType_str, isi_NoneType_list, isi_bool_int, isi_bool_bool, isi_bool_tuple, isi_bool_str, isi_bool_list, isi_int_int, isi_int_bool, isi_int_tuple, isi_int_str, isi_int_list, isi_str_int, isi_str_bool, isi_str_tuple, isi_str_str, isi_str_list, isi_list_int, isi_list_bool, isi_list_tuple, isi_list_str, isi_list_list, isi_tuple_int, isi_tuple_bool, isi_tuple_tuple, isi_tuple_str, isi_tuple_list, Bool.false_eq_true, if_true, if_false, reduceIte, Bool.not_true, Bool.not_false, reduceCtorEq, false_and, and_false, exists_false, exists_const, scal_int, scal_bl, scal_str, absE, ne_eq, not_true_eq_false, not_false_eq_true, Int.natCast_add, Int.cast_ofNat_Int, and_assoc, tChain3, tTupF, rTupOfF, kindOf]
          exact ⟨by decide, fin (by simp only [word]; rw [if_neg hn])⟩
    | _ =>
      simp only [tSeq, tAsg, gName, tRet, tRetN, tDrop, tIfS, tNext, tBreak, tCont, tTest, tB, tVar, tC, tCons, tNil, tCB, tCall, tCallK, tOp, tUn, rI0, rI, rU, rEq, rNe, tAnd, tOr, tNot, tAndV, tOrV, tNotV, tTup, tLst, tIf, gTup, gCons, gNil, tPar, tAug, ipI, gSub, L2.start, cxOf, Cx.nox, List.map_cons, List.map_nil, List.length_cons, List.length_nil, List.replicate, Nat.reduceAdd, Nat.reduceSub, List.cons_append, List.nil_append, List.append_nil, List.getElem?_cons_zero, List.getElem?_cons_succ, Option.some.injEq, V.int.injEq, V.bl.injEq, V.str.injEq, V.ref.injEq, V.ty.injEq, List.cons.injEq, and_true, true_and, exists_eq_left, exists_eq_left', exists_and_left, exists_and_right, decide_eq_true_eq, List.set_cons_zero, List.set_cons_succ, Bool.not_eq_true', decide_eq_false_iff_not, isi_NoneType_int, isi_NoneType_bool, isi_NoneType_tuple, isi_NoneType_str, isi_NoneType_list, isi_bool_int, isi_bool_bool, isi_bool_tuple, isi_bool_str, isi_bool_list, isi_int_int, isi_int_bool, isi_int_tuple, isi_int_str, isi_int_list, isi_str_int, isi_str_bool, isi_str_tuple, isi_str_str, isi_str_list, isi_list_int, isi_list_bool, isi_list_tuple, isi_list_str, isi_list_list, isi_tuple_int, isi_tuple_bool, isi_tuple_tuple, isi_tuple_str, isi_tuple_list, Bool.false_eq_true, if_true, if_false, reduceIte, Bool.not_true, Bool.not_false, reduceCtorEq, false_and, and_false, exists_false, exists_const, scal_int, scal_bl, scal_str, absE, ne_eq, not_true_eq_false, not_false_eq_true, Int.natCast_add, Int.cast_ofNat_Int, and_assoc, tChain3, tTupF, rTupOfF, kindOf]
      exact ⟨by decide, fin rfl⟩
end
end K00
end
section
set_option Elab.async false
set_option linter.all false
set_option maxRecDepth 100000
set_option maxHeartbeats 4000000
namespace K00
open PySem PySem.Spec PyProof.Rows L2 Pour
def gi (a b : Int) : Nat := Nat.gcd a.natAbs b.natAbs
theorem gi_turn {a b : Int} : gi b (a % b) = gi a b := by
  have h : Int.gcd b (a % b) = Int.gcd a b := by
    rw [Int.gcd_comm a b, Int.emod_def, Int.gcd_sub_mul_left_right]
  exact h
theorem half_mod {l r : Int} (hr : 0 < r) (h : r ≤ l) : 2 * (l % r) ≤ l := by
  have h1 := Int.emod_lt_of_pos l hr
  have h0 := Int.emod_nonneg l (b := r) (by omega)
  by_cases h2 : 2 * r ≤ l
  · omega
  · have e : l % r = l - r := by
      rw [← Int.sub_emod_right]
      exact Int.emod_eq_of_lt (by omega) (by omega)
    omega
/-- one turn of the law's own common divisor -/
theorem turn_half {l r : Int} {i : Nat} (hl : 0 < l) (hr : 0 < r) (hi : 0 < i → r < l) (hP : l * r * 2 ^ i ≤ 2 ^ 395) (h0 : i = 0 → l * r ≤ 2 ^ 394) : r * (l % r) * 2 ^ (i + 1) ≤ 2 ^ 395 := by
  have m0 := Int.emod_nonneg l (b := r) (by omega)
  have m1 := Int.emod_lt_of_pos l hr
  have p0 : (0 : Int) < 2 ^ i := Int.pow_pos (by decide)
  rcases Nat.eq_zero_or_pos i with h | h
  · subst h
    have ml : l % r ≤ l := by
      by_cases h2 : r ≤ l
      · omega
      · rw [Int.emod_eq_of_lt (by omega) (by omega)]
        exact Int.le_refl _
    have : r * (l % r) ≤ r * l := Int.mul_le_mul_of_nonneg_left ml (by omega)
    have h1 := h0 rfl
    have e : r * l = l * r := Int.mul_comm ..
    have e2 : (2 : Int) ^ (0 + 1) = 2 := rfl
    have e3 : (2 : Int) ^ 395 = 2 ^ 394 * 2 := Int.pow_succ ..
    rw [e2, e3]
    omega
  · have hm := half_mod hr (Int.le_of_lt (hi h))
    have : r * (2 * (l % r)) ≤ r * l := Int.mul_le_mul_of_nonneg_left hm (by omega)
    have h2 : r * (2 * (l % r)) * 2 ^ i ≤ r * l * 2 ^ i := Int.mul_le_mul_of_nonneg_right this (by omega)
    have e1 : r * (l % r) * 2 ^ (i + 1) = r * (2 * (l % r)) * 2 ^ i := by
      rw [Int.pow_succ]
      grind
    have e2 : r * l * 2 ^ i = l * r * 2 ^ i := by rw [Int.mul_comm r l]
    rw [e1]
    omega
def numsD : PyData → Bool
  | .tuple ds => ds.all isNum
  | _ => false
theorem cnt_zip {α β : Type} {f : β → Bool} : ∀ {xs : List α} {ds : List β}, xs.length = ds.length → ((xs.zip ds).filter fun e => f e.2).length = (ds.filter f).length
  | [], [], _ => rfl
  | x :: xs, d :: ds, h => by
    have ih := cnt_zip (f := f) (xs := xs) (ds := ds) (by simpa using h)
    simp only [List.zip_cons_cons, List.filter_cons]
    split <;> simp [ih]
theorem all_cnt (ds : List PyData) : ds.all isNum = decide (((ds.filter isNum).length : Int) = ds.length) := by
  rw [Bool.eq_iff_iff, List.all_eq_true, decide_eq_true_iff]
  constructor
  · intro h
    rw [List.filter_eq_self.mpr h]
  · intro h
    exact List.filter_eq_self.mp (List.Sublist.eq_of_length List.filter_sublist (by exact_mod_cast h))
section
variable {P : Program} {w : World} {K : PySem.W.Frag} {mg : Str → Option Value} {base : Heap}
def spLow : Sp := fun vs H Q _ => ∃ (p : Addr → Prop) (d : PyData) (v : V), vs = [v] ∧ Dt p (2 ^ 197) H d v ∧ Q (.bl (isQuot d)) H
theorem ok__law_lowest (T : Txt K mg) : Keeps P w K mg base CX0 2 d_s__law_lowest ["_law_value"] spLow := by
  obtain ⟨fd, F⟩ := f__law_lowest T
  obtain ⟨fd__law_int, D__law_int⟩ := ok__law_int (P := P) (w := w) (base := base) T
  refine ⟨fd, F, F.ok sc__law_lowest (fun vs H Q E h => ?_) (fun cdv A outer s H vs Q E hr h => ⟨_, PSs.nox
    (pss_cons (ps_if (PW.pt (pw_or (pt_not (pt_val (pe_callB call_isi rfl (n_isinstance T) (by decide +kernel) (pa_cons (pv 0) (pa_cons (pe_bltn (v := .ty "tuple") rfl (n_tuple T) (by decide +kernel) rfl) pa_nil))))) (pw_or (pt_cmpR op_ne (pe_callB call_len_seq rfl (n_len T) (by decide +kernel) (pa_cons (pv 0) pa_nil)) pe_int (nomark _)) (pw_or (pt_not (pt_val (pe_call D__law_int.2 (hr.mono (by omega)) rfl (g__law_int T) D__law_int.1.kp (b__law_int D__law_int.1) .nil pass0 (pa_cons (pe_ix ix_tup (pv 0) pe_int (fun _ _ => rfl)) pa_nil)))) (pw_or1 (pt_not (pt_val (pe_call D__law_int.2 (hr.mono (by omega)) rfl (g__law_int T) D__law_int.1.kp (b__law_int D__law_int.1) .nil pass0 (pa_cons (pe_ix ix_tup (pv 0) pe_int (fun _ _ => rfl)) pa_nil))))))))) (pss_one (ps_ret pe_bl)) pss_nil)
      (pss_cons (ps_if (pt_cmpR op_lt (pe_ix ix_tup (pv 0) pe_int (fun _ _ => rfl)) pe_int (nomark _)) (pss_one (ps_ret pe_bl)) pss_nil)
      (pss_cons (ps_set (i := 1) sc__law_lowest.nd rfl (Or.inl rfl) (pe_ix ix_tup (pv 0) pe_int (fun _ _ => rfl)))
      (pss_cons (ps_set (i := 2) sc__law_lowest.nd rfl (Or.inl rfl) (pe_callB call_abs rfl (n_abs T) (by decide +kernel) (pa_cons (pe_ix ix_tup (pv 0) pe_int (fun _ _ => rfl)) pa_nil)))
      (pss_cons (ps_for PassesOwn.never rfl (pi_range1 rfl (n_range T) (pa_cons pe_int pa_nil)) (pg_name (i := 3) sc__law_lowest.nd rfl (Or.inl rfl)) (pss_cons (ps_if (pt_cmpR op_eq (pv 2) pe_int (nomark _)) (pss_one ps_break) pss_nil)
      (pss_cons (ps_set (i := 4) sc__law_lowest.nd rfl (Or.inl rfl) (pe_op op_sub (pv 1) (pe_op op_mulW (pe_op op_fdivW (pv 1) (pv 2)) (pv 2))))
      (pss_cons (ps_set (i := 1) sc__law_lowest.nd rfl (Or.inl rfl) (pv 2))
      (pss_one (ps_set (i := 2) sc__law_lowest.nd rfl (Or.inl rfl) (pv 4)))))))
      (pss_one (ps_ret (pe_cmpR op_eq (pv 1) pe_int (nomark _))))))))), ?_⟩)⟩
  · obtain ⟨p, d, v, rfl, _⟩ := h
    rfl
  · obtain ⟨p, d, v, rfl, hd, q⟩ := h
    simp only [tSeq, tAsg, gName, tRet, tRetN, tDrop, tIfS, tNext, tBreak, tCont, tTest, tB, tVar, tC, tCons, tNil, tCB, tCall, tCallK, tOp, tUn, rI0, rI, rU, rEq, rNe, tAnd, tOr, tNot, tAndV, tOrV, tNotV, tTup, tLst, tIf, gTup, gCons, gNil, tPar, tAug, ipI, gSub, L2.start, cxOf, Cx.nox, List.map_cons, List.map_nil, List.length_cons, List.length_nil, List.replicate, Nat.reduceAdd, Nat.reduceSub, List.cons_append, List.nil_append, List.append_nil, List.getElem?_cons_zero, List.getElem?_cons_succ, Option.some.injEq, V.int.injEq, V.bl.injEq, V.str.injEq, V.ref.injEq, V.ty.injEq, List.cons.injEq, and_true, true_and, exists_eq_left, exists_eq_left', exists_and_left, exists_and_right, decide_eq_true_eq, List.set_cons_zero, List.set_cons_succ, Bool.not_eq_true', decide_eq_false_iff_not, isi_NoneType_int, isi_NoneType_bool, isi_NoneType_tuple, isi_NoneType_str, isi_NoneType_list, isi_bool_int, isi_bool_bool, isi_bool_tuple, isi_bool_str, isi_bool_list, isi_int_int, isi_int_bool, isi_int_tuple, isi_int_str, isi_int_list, isi_str_int, isi_str_bool, isi_str_tuple, isi_str_str, isi_str_list, isi_list_int, isi_list_bool, isi_list_tuple, isi_list_str, isi_list_list, isi_tuple_int, isi_tuple_bool, isi_tuple_tuple, isi_tuple_str, isi_tuple_list, Bool.false_eq_true, if_true, if_false, reduceIte, Bool.not_true, Bool.not_false, reduceCtorEq, false_and, and_false, exists_false, exists_const, scal_int, scal_bl, scal_str, absE, ne_eq, not_true_eq_false, not_false_eq_true, Int.natCast_add, Int.cast_ofNat_Int, and_assoc, tChain3, tTupF, rTupOfF, rIxT]
    refine hd.kn.isi (by decide) ?_
    have q2 : Q (.bl (isQuot d)) H := q
    cases d with
    | tuple ds =>
      obtain ⟨a, xs, rfl, ne, ha, hl, hs⟩ := hd
      simp only [tSeq, tAsg, gName, tRet, tRetN, tDrop, tIfS, tNext, tBreak, tCont, tTest, tB, tVar, tC, tCons, tNil, tCB, tCall, tCallK, tOp, tUn, rI0, rI, rU, rEq, rNe, tAnd, tOr, tNot, tAndV, tOrV, tNotV, tTup, tLst, tIf, gTup, gCons, gNil, tPar, tAug, ipI, gSub, L2.start, cxOf, Cx.nox, List.map_cons, List.map_nil, List.length_cons, List.length_nil, List.replicate, Nat.reduceAdd, Nat.reduceSub, List.cons_append, List.nil_append, List.append_nil, List.getElem?_cons_zero, List.getElem?_cons_succ, Option.some.injEq, V.int.injEq, V.bl.injEq, V.str.injEq, V.ref.injEq, V.ty.injEq, List.cons.injEq, and_true, true_and, exists_eq_left, exists_eq_left', exists_and_left, exists_and_right, decide_eq_true_eq, List.set_cons_zero, List.set_cons_succ, Bool.not_eq_true', decide_eq_false_iff_not, isi_NoneType_int, isi_NoneType_bool, isi_NoneType_tuple, isi_NoneType_str, isi_NoneType_list, isi_bool_int, isi_bool_bool, isi_bool_tuple, isi_bool_str, isi_bool_list, isi_int_int, isi_int_bool, isi_int_tuple, isi_int_str, isi_int_list, isi_str_int, isi_str_bool, isi_str_tuple, isi_str_str, isi_str_list, isi_list_int, isi_list_bool, isi_list_tuple, isi_list_str, isi_list_list, isi_tuple_int, isi_tuple_bool, isi_tuple_tuple, isi_tuple_str, isi_tuple_list, Bool.false_eq_true, if_true, if_false, reduceIte, Bool.not_true, Bool.not_false, reduceCtorEq, false_and, and_false, exists_false, exists_const, scal_int, scal_bl, scal_str, absE, ne_eq, not_true_eq_false, not_false_eq_true, Int.natCast_add, Int.cast_ofNat_Int, and_assoc, tChain3, tTupF, rTupOfF, kindOf]
      refine ⟨_, .inr (TupN.sq ha), ?_⟩
      rw [← hs.len]
      refine ite2 (fun h => ?_) (fun h => ?_)
      · rw [quot_len h] at q2
        exact q2
      obtain ⟨d1, d2, rfl⟩ := two h
      obtain ⟨v1, v2, rfl⟩ : ∃ u v, xs = [u, v] := by
        have := hs.len
        match xs, this with
        | [u, v], _ => exact ⟨u, v, rfl⟩
      obtain ⟨h1, h2, _⟩ := hs
      have sqa := TupN.sq (K := K) ha
      refine ⟨_, sqa, v1, rfl, ?_⟩
      refine ⟨_, _, rfl, h1.kn, ?_⟩
      rw [h1.isInt]
      cases hi : isInt d1 with
      | false =>
        rw [quot_a hi] at q2
        simp only [tSeq, tAsg, gName, tRet, tRetN, tDrop, tIfS, tNext, tBreak, tCont, tTest, tB, tVar, tC, tCons, tNil, tCB, tCall, tCallK, tOp, tUn, rI0, rI, rU, rEq, rNe, tAnd, tOr, tNot, tAndV, tOrV, tNotV, tTup, tLst, tIf, gTup, gCons, gNil, tPar, tAug, ipI, gSub, L2.start, cxOf, Cx.nox, List.map_cons, List.map_nil, List.length_cons, List.length_nil, List.replicate, Nat.reduceAdd, Nat.reduceSub, List.cons_append, List.nil_append, List.append_nil, List.getElem?_cons_zero, List.getElem?_cons_succ, Option.some.injEq, V.int.injEq, V.bl.injEq, V.str.injEq, V.ref.injEq, V.ty.injEq, List.cons.injEq, and_true, true_and, exists_eq_left, exists_eq_left', exists_and_left, exists_and_right, decide_eq_true_eq, List.set_cons_zero, List.set_cons_succ, Bool.not_eq_true', decide_eq_false_iff_not, isi_NoneType_int, isi_NoneType_bool, isi_NoneType_tuple, isi_NoneType_str, isi_NoneType_list, isi_bool_int, isi_bool_bool, isi_bool_tuple, isi_bool_str, isi_bool_list, isi_int_int, isi_int_bool, isi_int_tuple, isi_int_str, isi_int_list, isi_str_int, isi_str_bool, isi_str_tuple, isi_str_str, isi_str_list, isi_list_int, isi_list_bool, isi_list_tuple, isi_list_str, isi_list_list, isi_tuple_int, isi_tuple_bool, isi_tuple_tuple, isi_tuple_str, isi_tuple_list, Bool.false_eq_true, if_true, if_false, reduceIte, Bool.not_true, Bool.not_false, reduceCtorEq, false_and, and_false, exists_false, exists_const, scal_int, scal_bl, scal_str, absE, ne_eq, not_true_eq_false, not_false_eq_true, Int.natCast_add, Int.cast_ofNat_Int, and_assoc, tChain3, tTupF, rTupOfF]
        exact q2
      | true =>
        obtain ⟨x, rfl⟩ := isInt_int hi
        obtain ⟨rfl, x0, x1⟩ := h1
        simp only [tSeq, tAsg, gName, tRet, tRetN, tDrop, tIfS, tNext, tBreak, tCont, tTest, tB, tVar, tC, tCons, tNil, tCB, tCall, tCallK, tOp, tUn, rI0, rI, rU, rEq, rNe, tAnd, tOr, tNot, tAndV, tOrV, tNotV, tTup, tLst, tIf, gTup, gCons, gNil, tPar, tAug, ipI, gSub, L2.start, cxOf, Cx.nox, List.map_cons, List.map_nil, List.length_cons, List.length_nil, List.replicate, Nat.reduceAdd, Nat.reduceSub, List.cons_append, List.nil_append, List.append_nil, List.getElem?_cons_zero, List.getElem?_cons_succ, Option.some.injEq, V.int.injEq, V.bl.injEq, V.str.injEq, V.ref.injEq, V.ty.injEq, List.cons.injEq, and_true, true_and, exists_eq_left, exists_eq_left', exists_and_left, exists_and_right, decide_eq_true_eq, List.set_cons_zero, List.set_cons_succ, Bool.not_eq_true', decide_eq_false_iff_not, isi_NoneType_int, isi_NoneType_bool, isi_NoneType_tuple, isi_NoneType_str, isi_NoneType_list, isi_bool_int, isi_bool_bool, isi_bool_tuple, isi_bool_str, isi_bool_list, isi_int_int, isi_int_bool, isi_int_tuple, isi_int_str, isi_int_list, isi_str_int, isi_str_bool, isi_str_tuple, isi_str_str, isi_str_list, isi_list_int, isi_list_bool, isi_list_tuple, isi_list_str, isi_list_list, isi_tuple_int, isi_tuple_bool, isi_tuple_tuple, isi_tuple_str, isi_tuple_list, Bool.false_eq_true, if_true, if_false, reduceIte, Bool.not_true, Bool.not_false, reduceCtorEq, false_and, and_false, exists_false, exists_const, scal_int, scal_bl, scal_str, absE, ne_eq, not_true_eq_false, not_false_eq_true, Int.natCast_add, Int.cast_ofNat_Int, and_assoc, tChain3, tTupF, rTupOfF]
        refine ⟨_, sqa, v2, rfl, ?_⟩
        refine ⟨_, _, rfl, h2.kn, ?_⟩
        rw [h2.isInt]
        cases hi2 : isInt d2 with
        | false =>
          rw [quot_b hi2] at q2
          simp only [tSeq, tAsg, gName, tRet, tRetN, tDrop, tIfS, tNext, tBreak, tCont, tTest, tB, tVar, tC, tCons, tNil, tCB, tCall, tCallK, tOp, tUn, rI0, rI, rU, rEq, rNe, tAnd, tOr, tNot, tAndV, tOrV, tNotV, tTup, tLst, tIf, gTup, gCons, gNil, tPar, tAug, ipI, gSub, L2.start, cxOf, Cx.nox, List.map_cons, List.map_nil, List.length_cons, List.length_nil, List.replicate, Nat.reduceAdd, Nat.reduceSub, List.cons_append, List.nil_append, List.append_nil, List.getElem?_cons_zero, List.getElem?_cons_succ, Option.some.injEq, V.int.injEq, V.bl.injEq, V.str.injEq, V.ref.injEq, V.ty.injEq, List.cons.injEq, and_true, true_and, exists_eq_left, exists_eq_left', exists_and_left, exists_and_right, decide_eq_true_eq, List.set_cons_zero, List.set_cons_succ, Bool.not_eq_true', decide_eq_false_iff_not, isi_NoneType_int, isi_NoneType_bool, isi_NoneType_tuple, isi_NoneType_str, isi_NoneType_list, isi_bool_int, isi_bool_bool, isi_bool_tuple, isi_bool_str, isi_bool_list, isi_int_int, isi_int_bool, isi_int_tuple, isi_int_str, isi_int_list, isi_str_int, isi_str_bool, isi_str_tuple, isi_str_str, isi_str_list, isi_list_int, isi_list_bool, isi_list_tuple, isi_list_str, isi_list_list, isi_tuple_int, isi_tuple_bool, isi_tuple_tuple, isi_tuple_str, isi_tuple_list, Bool.false_eq_true, if_true, if_false, reduceIte, Bool.not_true, Bool.not_false, reduceCtorEq, false_and, and_false, exists_false, exists_const, scal_int, scal_bl, scal_str, absE, ne_eq, not_true_eq_false, not_false_eq_true, Int.natCast_add, Int.cast_ofNat_Int, and_assoc, tChain3, tTupF, rTupOfF]
          exact q2
        | true =>
          obtain ⟨y, rfl⟩ := isInt_int hi2
          obtain ⟨rfl, y0, y1⟩ := h2
          have q3 : Q (.bl (decide (1 ≤ y) && decide (gi x y = 1))) H := q2
          simp only [tSeq, tAsg, gName, tRet, tRetN, tDrop, tIfS, tNext, tBreak, tCont, tTest, tB, tVar, tC, tCons, tNil, tCB, tCall, tCallK, tOp, tUn, rI0, rI, rU, rEq, rNe, tAnd, tOr, tNot, tAndV, tOrV, tNotV, tTup, tLst, tIf, gTup, gCons, gNil, tPar, tAug, ipI, gSub, L2.start, cxOf, Cx.nox, List.map_cons, List.map_nil, List.length_cons, List.length_nil, List.replicate, Nat.reduceAdd, Nat.reduceSub, List.cons_append, List.nil_append, List.append_nil, List.getElem?_cons_zero, List.getElem?_cons_succ, Option.some.injEq, V.int.injEq, V.bl.injEq, V.str.injEq, V.ref.injEq, V.ty.injEq, List.cons.injEq, and_true, true_and, exists_eq_left, exists_eq_left', exists_and_left, exists_and_right, decide_eq_true_eq, List.set_cons_zero, List.set_cons_succ, Bool.not_eq_true', decide_eq_false_iff_not, isi_NoneType_int, isi_NoneType_bool, isi_NoneType_tuple, isi_NoneType_str, isi_NoneType_list, isi_bool_int, isi_bool_bool, isi_bool_tuple, isi_bool_str, isi_bool_list, isi_int_int, isi_int_bool, isi_int_tuple, isi_int_str, isi_int_list, isi_str_int, isi_str_bool, isi_str_tuple, isi_str_str, isi_str_list, isi_list_int, isi_list_bool, isi_list_tuple, isi_list_str, isi_list_list, isi_tuple_int, isi_tuple_bool, isi_tuple_tuple, isi_tuple_str, isi_tuple_list, Bool.false_eq_true, if_true, if_false, reduceIte, Bool.not_true, Bool.not_false, reduceCtorEq, false_and, and_false, exists_false, exists_const, scal_int, scal_bl, scal_str, absE, ne_eq, not_true_eq_false, not_false_eq_true, Int.natCast_add, Int.cast_ofNat_Int, and_assoc, tChain3, tTupF, rTupOfF]
          refine ⟨_, sqa, _, rfl, y, rfl, ?_⟩
          refine ite2 (fun h => ?_) (fun h => ?_)
          · rw [decide_eq_false (by omega), Bool.false_and] at q3
            exact q3
          rw [decide_eq_true (show 1 ≤ y by omega), Bool.true_and] at q3
          refine ⟨_, sqa, _, rfl, _, sqa, _, rfl, x, rfl, ?_⟩
          have px : (x.natAbs : Int) ≤ 2 ^ 197 := by omega
          have p394 : y * x.natAbs ≤ 2 ^ 394 := by
            have : y * x.natAbs ≤ 2 ^ 197 * 2 ^ 197 := Int.mul_le_mul y1 px (by omega) (by decide)
            rw [← Int.pow_add] at this
            exact this
          refine for_rangeE (n := 400) (by decide) (fun Q' h => h) (fun i σ' H' => H' = H ∧ ∃ (l r : Int) (x3 x4 : Option V), σ' = [some (.ref a), some (.int l), some (.int r), x3, x4] ∧ 0 < l ∧ 0 ≤ r ∧ l ≤ 2 ^ 197 ∧ r ≤ 2 ^ 197 ∧ gi l r = gi x y ∧
            (0 < i → r < l) ∧ l * r * 2 ^ i ≤ 2 ^ 395 ∧ (i = 0 → l * r ≤ 2 ^ 394)) ?_ ?_ ?_
          · refine ⟨rfl, y, x.natAbs, none, none, rfl, by omega, by omega, y1, px, ?_, fun h => absurd h (by decide), ?_, fun _ => p394⟩
            · unfold gi
              rw [Int.natAbs_natCast, Nat.gcd_comm]
            · have e3 : (2 : Int) ^ 395 = 2 ^ 394 * 2 := Int.pow_succ ..
              have e4 : (2 : Int) ^ 0 = 1 := rfl
              have e5 : (0 : Int) < 2 ^ 394 := Int.pow_pos (by decide)
              rw [e4, e3]
              omega
          · rintro i σ' H' hi ⟨rfl, l, r, x3, x4, rfl, l0, r0, l1, r1, g, f1, f2, f3⟩
            simp only [tSeq, tAsg, gName, tRet, tRetN, tDrop, tIfS, tNext, tBreak, tCont, tTest, tB, tVar, tC, tCons, tNil, tCB, tCall, tCallK, tOp, tUn, rI0, rI, rU, rEq, rNe, tAnd, tOr, tNot, tAndV, tOrV, tNotV, tTup, tLst, tIf, gTup, gCons, gNil, tPar, tAug, ipI, gSub, L2.start, cxOf, Cx.nox, List.map_cons, List.map_nil, List.length_cons, List.length_nil, List.replicate, Nat.reduceAdd, Nat.reduceSub, List.cons_append, List.nil_append, List.append_nil, List.getElem?_cons_zero, List.getElem?_cons_succ, Option.some.injEq, V.int.injEq, V.bl.injEq, V.str.injEq, V.ref.injEq, V.ty.injEq, List.cons.injEq, and_true, true_and, exists_eq_left, exists_eq_left', exists_and_left, exists_and_right, decide_eq_true_eq, List.set_cons_zero, List.set_cons_succ, Bool.not_eq_true', decide_eq_false_iff_not, isi_NoneType_int, isi_NoneType_bool, isi_NoneType_tuple, isi_NoneType_str, isi_NoneType_list, isi_bool_int, isi_bool_bool, isi_bool_tuple, isi_bool_str, isi_bool_list, isi_int_int, isi_int_bool, isi_int_tuple, isi_int_str, isi_int_list, isi_str_int, isi_str_bool, isi_str_tuple, isi_str_str, isi_str_list, isi_list_int, isi_list_bool, isi_list_tuple, isi_list_str, isi_list_list, isi_tuple_int, isi_tuple_bool, isi_tuple_tuple, isi_tuple_str, isi_tuple_list, Bool.false_eq_true, if_true, if_false, reduceIte, Bool.not_true, Bool.not_false, reduceCtorEq, false_and, and_false, exists_false, exists_const, scal_int, scal_bl, scal_str, absE, ne_eq, not_true_eq_false, not_false_eq_true, Int.natCast_add, Int.cast_ofNat_Int, and_assoc, tChain3, tTupF, rTupOfF, tTest, tBreak]
            have done0 : r = 0 → Q (.bl (decide (l = 1))) H' := fun h => by
              subst h
              have e : gi l 0 = l.natAbs := by
                unfold gi
                rw [show (0 : Int).natAbs = 0 from rfl, Nat.gcd_zero_right]
              rw [e] at g
              rw [← g] at q3
              refine cast (congrArg (fun b => Q (.bl b) H') (decide_eq_decide.mpr ?_)) q3
              omega
            refine ite2 (fun h => done0 h) (fun h => ?_)
            have rp : 0 < r := by omega
            have e1 : l - l / r * r = l % r := by
              rw [Int.emod_def, Int.mul_comm]
            have m0 := Int.emod_nonneg l (b := r) (by omega)
            have m1 := Int.emod_lt_of_pos l rp
            have th := turn_half l0 rp f1 f2 f3
            have qb : l / r ≤ 2 ^ 197 := Int.le_trans (Int.ediv_le_self _ (by omega)) l1
            have qn : 0 ≤ l / r := Int.ediv_nonneg (by omega) (by omega)
            rw [e1]
            exact ⟨wide_div (b := 198) rp (by omega) (by decide) (by decide), wide_mul (a := 198) (b := 198) (by omega) (by omega) (by decide) (by decide) (by decide), rp, m0, r1, by omega, gi_turn.trans g, fun _ => m1, th, fun h => h.elim⟩
          · rintro σ' H' ⟨rfl, l, r, x3, x4, rfl, l0, r0, l1, r1, g, f1, f2, f3⟩
            have p400 : (2 : Int) ^ 400 = 2 ^ 395 * 32 := Int.pow_add 2 395 5
            have p5 : (0 : Int) < 2 ^ 395 := Int.pow_pos (by decide)
            have r00 : r = 0 := by
              rcases Int.lt_or_le 0 r with h | h
              · exfalso
                have : 1 ≤ l * r := Int.mul_pos l0 h
                have h2 : 1 * (2 : Int) ^ 400 ≤ l * r * 2 ^ 400 := Int.mul_le_mul_of_nonneg_right this (by omega)
                rw [p400] at h2 f2
                omega
              · omega
            subst r00
            have e : gi l 0 = l.natAbs := by
              unfold gi
              rw [show (0 : Int).natAbs = 0 from rfl, Nat.gcd_zero_right]
            rw [e] at g
            rw [← g] at q3
            simp only [tSeq, tAsg, gName, tRet, tRetN, tDrop, tIfS, tNext, tBreak, tCont, tTest, tB, tVar, tC, tCons, tNil, tCB, tCall, tCallK, tOp, tUn, rI0, rI, rU, rEq, rNe, tAnd, tOr, tNot, tAndV, tOrV, tNotV, tTup, tLst, tIf, gTup, gCons, gNil, tPar, tAug, ipI, gSub, L2.start, cxOf, Cx.nox, List.map_cons, List.map_nil, List.length_cons, List.length_nil, List.replicate, Nat.reduceAdd, Nat.reduceSub, List.cons_append, List.nil_append, List.append_nil, List.getElem?_cons_zero, List.getElem?_cons_succ, Option.some.injEq, V.int.injEq, V.bl.injEq, V.str.injEq, V.ref.injEq, V.ty.injEq, List.cons.injEq, and_true, true_and, exists_eq_left, exists_eq_left', exists_and_left, exists_and_right, decide_eq_true_eq, List.set_cons_zero, List.set_cons_succ, Bool.not_eq_true', decide_eq_false_iff_not, isi_NoneType_int, isi_NoneType_bool, isi_NoneType_tuple, isi_NoneType_str, isi_NoneType_list, isi_bool_int, isi_bool_bool, isi_bool_tuple, isi_bool_str, isi_bool_list, isi_int_int, isi_int_bool, isi_int_tuple, isi_int_str, isi_int_list, isi_str_int, isi_str_bool, isi_str_tuple, isi_str_str, isi_str_list, isi_list_int, isi_list_bool, isi_list_tuple, isi_list_str, isi_list_list, isi_tuple_int, isi_tuple_bool, isi_tuple_tuple, isi_tuple_str, isi_tuple_list, Bool.false_eq_true, if_true, if_false, reduceIte, Bool.not_true, Bool.not_false, reduceCtorEq, false_and, and_false, exists_false, exists_const, scal_int, scal_bl, scal_str, absE, ne_eq, not_true_eq_false, not_false_eq_true, Int.natCast_add, Int.cast_ofNat_Int, and_assoc, tChain3, tTupF, rTupOfF]
            refine cast (congrArg (fun b => Q (.bl b) H') (decide_eq_decide.mpr ?_)) q3
            omega
    | _ =>
      simp only [tSeq, tAsg, gName, tRet, tRetN, tDrop, tIfS, tNext, tBreak, tCont, tTest, tB, tVar, tC, tCons, tNil, tCB, tCall, tCallK, tOp, tUn, rI0, rI, rU, rEq, rNe, tAnd, tOr, tNot, tAndV, tOrV, tNotV, tTup, tLst, tIf, gTup, gCons, gNil, tPar, tAug, ipI, gSub, L2.start, cxOf, Cx.nox, List.map_cons, List.map_nil, List.length_cons, List.length_nil, List.replicate, Nat.reduceAdd, Nat.reduceSub, List.cons_append, List.nil_append, List.append_nil, List.getElem?_cons_zero, List.getElem?_cons_succ, Option.some.injEq, V.int.injEq, V.bl.injEq, V.str.injEq, V.ref.injEq, V.ty.injEq, List.cons.injEq, and_true, true_and, exists_eq_left, exists_eq_left', exists_and_left, exists_and_right, decide_eq_true_eq, List.set_cons_zero, List.set_cons_succ, Bool.not_eq_true', decide_eq_false_iff_not, isi_NoneType_int, isi_NoneType_bool, isi_NoneType_tuple, isi_NoneType_str, isi_NoneType_list, isi_bool_int, isi_bool_bool, isi_bool_tuple, isi_bool_str, isi_bool_list, isi_int_int, isi_int_bool, isi_int_tuple, isi_int_str, isi_int_list, isi_str_int, isi_str_bool, isi_str_tuple, isi_str_str, isi_str_list, isi_list_int, isi_list_bool, isi_list_tuple, isi_list_str, isi_list_list, isi_tuple_int, isi_tuple_bool, isi_tuple_tuple, isi_tuple_str, isi_tuple_list, Bool.false_eq_true, if_true, if_false, reduceIte, Bool.not_true, Bool.not_false, reduceCtorEq, false_and, and_false, exists_false, exists_const, scal_int, scal_bl, scal_str, absE, ne_eq, not_true_eq_false, not_false_eq_true, Int.natCast_add, Int.cast_ofNat_Int, and_assoc, tChain3, tTupF, rTupOfF, kindOf]
      exact q
def spNums : Sp := fun vs H Q _ => ∃ (p : Addr → Prop) (B : Int) (d : PyData) (v : V), vs = [v] ∧ Dt p B H d v ∧ ∀ H', Evl.Ex H H' → Q (.bl (numsD d)) H'
theorem ok__law_numbers (T : Txt K mg) : Keeps P w K mg base CX0 2 d_s__law_numbers ["_law_value"] spNums := by
  obtain ⟨fd, F⟩ := f__law_numbers T
  obtain ⟨fd__law_int, D__law_int⟩ := ok__law_int (P := P) (w := w) (base := base) T
  refine ⟨fd, F, F.ok sc__law_numbers (fun vs H Q E h => ?_) (fun cdv A outer s H vs Q E hr h => ⟨_, PSs.nox
    (pss_one (ps_ret (pe_and (pe_callB call_isi rfl (n_isinstance T) (by decide +kernel) (pa_cons (pv 0) (pa_cons (pe_bltn (v := .ty "tuple") rfl (n_tuple T) (by decide +kernel) rfl) pa_nil))) (pe_one (pe_cmpR op_eq (pe_callB call_len_seq rfl (n_len T) (by decide +kernel) (pa_cons (pe_lc (own := [("_law_x", 1)]) rfl sc__law_numbers.nd (pi_tup (pv 0)) (blkOk_by (own := [("_law_x", 1)]) (N := ["_law_value", "_law_x"]) (sc := defScope s__law_numbers) (by decide +kernel)) (fun _ _ _ _ _ => (pg_name (i := 1) sc__law_numbers.nd rfl (Or.inl rfl))) (fun _ _ _ _ _ => (pts_one (PW.pt (pw_and (pt_val (pe_call D__law_int.2 (hr.mono (by omega)) rfl (g__law_int T) D__law_int.1.kp (b__law_int D__law_int.1) .nil pass0 (pa_cons (pv 1) pa_nil))) (pw_and1 (pt_cmpR op_ge (pv 1) pe_int (nomark _))))))) (fun _ _ _ _ _ => (pv 1))) pa_nil)) (pe_callB call_len_seq rfl (n_len T) (by decide +kernel) (pa_cons (pv 0) pa_nil)) (nomark _)))))), ?_⟩)⟩
  · obtain ⟨p, B, d, v, rfl, _⟩ := h
    rfl
  · obtain ⟨p, B, d, v, rfl, hd, q⟩ := h
    simp only [tSeq, tAsg, gName, tRet, tRetN, tDrop, tIfS, tNext, tBreak, tCont, tTest, tB, tVar, tC, tCons, tNil, tCB, tCall, tCallK, tOp, tUn, rI0, rI, rU, rEq, rNe, tAnd, tOr, tNot, tAndV, tOrV, tNotV, tTup, tLst, tIf, gTup, gCons, gNil, tPar, tAug, ipI, gSub, L2.start, cxOf, Cx.nox, List.map_cons, List.map_nil, List.length_cons, List.length_nil, List.replicate, Nat.reduceAdd, Nat.reduceSub, List.cons_append, List.nil_append, List.append_nil, List.getElem?_cons_zero, List.getElem?_cons_succ, Option.some.injEq, V.int.injEq, V.bl.injEq, V.str.injEq, V.ref.injEq, V.ty.injEq, List.cons.injEq, and_true, true_and, exists_eq_left, exists_eq_left', exists_and_left, exists_and_right, decide_eq_true_eq, List.set_cons_zero, List.set_cons_succ, Bool.not_eq_true', decide_eq_false_iff_not, isi_NoneType_int, isi_NoneType_bool, isi_NoneType_tuple, isi_NoneType_str, isi_NoneType_list, isi_bool_int, isi_bool_bool, isi_bool_tuple, isi_bool_str, isi_bool_list, isi_int_int, isi_int_bool, isi_int_tuple, isi_int_str, isi_int_list, isi_str_int, isi_str_bool, isi_str_tuple, isi_str_str, isi_str_list, isi_list_int, isi_list_bool, isi_list_tuple, isi_list_str, isi_list_list, isi_tuple_int, isi_tuple_bool, isi_tuple_tuple, isi_tuple_str, isi_tuple_list, Bool.false_eq_true, if_true, if_false, reduceIte, Bool.not_true, Bool.not_false, reduceCtorEq, false_and, and_false, exists_false, exists_const, scal_int, scal_bl, scal_str, absE, ne_eq, not_true_eq_false, not_false_eq_true, Int.natCast_add, Int.cast_ofNat_Int, and_assoc, tChain3, tTupF, rTupOfF]
    refine hd.kn.isi (by decide) ?_
    have q2 : ∀ H', Evl.Ex H H' → Q (.bl (numsD d)) H' := q
    cases d with
    | tuple ds =>
      obtain ⟨a, xs, rfl, ne, ha, hl, hs⟩ := hd
      simp only [tSeq, tAsg, gName, tRet, tRetN, tDrop, tIfS, tNext, tBreak, tCont, tTest, tB, tVar, tC, tCons, tNil, tCB, tCall, tCallK, tOp, tUn, rI0, rI, rU, rEq, rNe, tAnd, tOr, tNot, tAndV, tOrV, tNotV, tTup, tLst, tIf, gTup, gCons, gNil, tPar, tAug, ipI, gSub, L2.start, cxOf, Cx.nox, List.map_cons, List.map_nil, List.length_cons, List.length_nil, List.replicate, Nat.reduceAdd, Nat.reduceSub, List.cons_append, List.nil_append, List.append_nil, List.getElem?_cons_zero, List.getElem?_cons_succ, Option.some.injEq, V.int.injEq, V.bl.injEq, V.str.injEq, V.ref.injEq, V.ty.injEq, List.cons.injEq, and_true, true_and, exists_eq_left, exists_eq_left', exists_and_left, exists_and_right, decide_eq_true_eq, List.set_cons_zero, List.set_cons_succ, Bool.not_eq_true', decide_eq_false_iff_not, isi_NoneType_int, isi_NoneType_bool, isi_NoneType_tuple, isi_NoneType_str, isi_NoneType_list, isi_bool_int, isi_bool_bool, isi_bool_tuple, isi_bool_str, isi_bool_list, isi_int_int, isi_int_bool, isi_int_tuple, isi_int_str, isi_int_list, isi_str_int, isi_str_bool, isi_str_tuple, isi_str_str, isi_str_list, isi_list_int, isi_list_bool, isi_list_tuple, isi_list_str, isi_list_list, isi_tuple_int, isi_tuple_bool, isi_tuple_tuple, isi_tuple_str, isi_tuple_list, Bool.false_eq_true, if_true, if_false, reduceIte, Bool.not_true, Bool.not_false, reduceCtorEq, false_and, and_false, exists_false, exists_const, scal_int, scal_bl, scal_str, absE, ne_eq, not_true_eq_false, not_false_eq_true, Int.natCast_add, Int.cast_ofNat_Int, and_assoc, tChain3, tTupF, rTupOfF, kindOf]
      refine lc_tupE (a := a) (xs := xs) (fun i => (((xs.zip ds).take i).filter fun e => isNum e.2).map (·.1)) rfl (fun i => ?_) (by omega) (fun Q' h => ⟨_, rfl, h⟩) ha.sq (fun x => rfl) ?_ ?_
      · rw [List.length_map]
        refine Nat.le_trans (List.length_filter_le _ _) ?_
        rw [List.length_take]
        omega
      · intro i x H1 Q1 Q0 hi e1 q1 q0
        obtain ⟨e, he, hde⟩ := hs.get hi
        have hz : (xs.zip ds).take (i + 1) = (xs.zip ds).take i ++ [(x, e)] := take_snoc (by
          rw [List.getElem?_zip_eq_some]
          exact ⟨hi, he⟩)
        have a1 : isNum e = true → (((xs.zip ds).take (i + 1)).filter fun e => isNum e.2).map (·.1) = (((xs.zip ds).take i).filter fun e => isNum e.2).map (·.1) ++ [x] := fun h => by
          rw [hz, List.filter_append, List.map_append]
          simp [h]
        have a0 : isNum e = false → (((xs.zip ds).take (i + 1)).filter fun e => isNum e.2).map (·.1) = (((xs.zip ds).take i).filter fun e => isNum e.2).map (·.1) := fun h => by
          rw [hz, List.filter_append, List.map_append]
          simp [h]
        simp only [tSeq, tAsg, gName, tRet, tRetN, tDrop, tIfS, tNext, tBreak, tCont, tTest, tB, tVar, tC, tCons, tNil, tCB, tCall, tCallK, tOp, tUn, rI0, rI, rU, rEq, rNe, tAnd, tOr, tNot, tAndV, tOrV, tNotV, tTup, tLst, tIf, gTup, gCons, gNil, tPar, tAug, ipI, gSub, L2.start, cxOf, Cx.nox, List.map_cons, List.map_nil, List.length_cons, List.length_nil, List.replicate, Nat.reduceAdd, Nat.reduceSub, List.cons_append, List.nil_append, List.append_nil, List.getElem?_cons_zero, List.getElem?_cons_succ, Option.some.injEq, V.int.injEq, V.bl.injEq, V.str.injEq, V.ref.injEq, V.ty.injEq, List.cons.injEq, and_true, true_and, exists_eq_left, exists_eq_left', exists_and_left, exists_and_right, decide_eq_true_eq, List.set_cons_zero, List.set_cons_succ, Bool.not_eq_true', decide_eq_false_iff_not, isi_NoneType_int, isi_NoneType_bool, isi_NoneType_tuple, isi_NoneType_str, isi_NoneType_list, isi_bool_int, isi_bool_bool, isi_bool_tuple, isi_bool_str, isi_bool_list, isi_int_int, isi_int_bool, isi_int_tuple, isi_int_str, isi_int_list, isi_str_int, isi_str_bool, isi_str_tuple, isi_str_str, isi_str_list, isi_list_int, isi_list_bool, isi_list_tuple, isi_list_str, isi_list_list, isi_tuple_int, isi_tuple_bool, isi_tuple_tuple, isi_tuple_str, isi_tuple_list, Bool.false_eq_true, if_true, if_false, reduceIte, Bool.not_true, Bool.not_false, reduceCtorEq, false_and, and_false, exists_false, exists_const, scal_int, scal_bl, scal_str, absE, ne_eq, not_true_eq_false, not_false_eq_true, Int.natCast_add, Int.cast_ofNat_Int, and_assoc, tChain3, tTupF, rTupOfF, wipe, tTest]
        have hde1 := hde.ex e1
        refine ⟨_, _, rfl, hde1.kn, ?_⟩
        rw [hde1.isInt]
        cases hi2 : isInt e with
        | false =>
          simp only [tSeq, tAsg, gName, tRet, tRetN, tDrop, tIfS, tNext, tBreak, tCont, tTest, tB, tVar, tC, tCons, tNil, tCB, tCall, tCallK, tOp, tUn, rI0, rI, rU, rEq, rNe, tAnd, tOr, tNot, tAndV, tOrV, tNotV, tTup, tLst, tIf, gTup, gCons, gNil, tPar, tAug, ipI, gSub, L2.start, cxOf, Cx.nox, List.map_cons, List.map_nil, List.length_cons, List.length_nil, List.replicate, Nat.reduceAdd, Nat.reduceSub, List.cons_append, List.nil_append, List.append_nil, List.getElem?_cons_zero, List.getElem?_cons_succ, Option.some.injEq, V.int.injEq, V.bl.injEq, V.str.injEq, V.ref.injEq, V.ty.injEq, List.cons.injEq, and_true, true_and, exists_eq_left, exists_eq_left', exists_and_left, exists_and_right, decide_eq_true_eq, List.set_cons_zero, List.set_cons_succ, Bool.not_eq_true', decide_eq_false_iff_not, isi_NoneType_int, isi_NoneType_bool, isi_NoneType_tuple, isi_NoneType_str, isi_NoneType_list, isi_bool_int, isi_bool_bool, isi_bool_tuple, isi_bool_str, isi_bool_list, isi_int_int, isi_int_bool, isi_int_tuple, isi_int_str, isi_int_list, isi_str_int, isi_str_bool, isi_str_tuple, isi_str_str, isi_str_list, isi_list_int, isi_list_bool, isi_list_tuple, isi_list_str, isi_list_list, isi_tuple_int, isi_tuple_bool, isi_tuple_tuple, isi_tuple_str, isi_tuple_list, Bool.false_eq_true, if_true, if_false, reduceIte, Bool.not_true, Bool.not_false, reduceCtorEq, false_and, and_false, exists_false, exists_const, scal_int, scal_bl, scal_str, absE, ne_eq, not_true_eq_false, not_false_eq_true, Int.natCast_add, Int.cast_ofNat_Int, and_assoc, tChain3, tTupF, rTupOfF]
          exact q0 _ (Evl.Ex.refl _) (a0 (num_of_int hi2))
        | true =>
          obtain ⟨z, rfl⟩ := isInt_int hi2
          obtain ⟨rfl, _⟩ := hde1
          simp only [tSeq, tAsg, gName, tRet, tRetN, tDrop, tIfS, tNext, tBreak, tCont, tTest, tB, tVar, tC, tCons, tNil, tCB, tCall, tCallK, tOp, tUn, rI0, rI, rU, rEq, rNe, tAnd, tOr, tNot, tAndV, tOrV, tNotV, tTup, tLst, tIf, gTup, gCons, gNil, tPar, tAug, ipI, gSub, L2.start, cxOf, Cx.nox, List.map_cons, List.map_nil, List.length_cons, List.length_nil, List.replicate, Nat.reduceAdd, Nat.reduceSub, List.cons_append, List.nil_append, List.append_nil, List.getElem?_cons_zero, List.getElem?_cons_succ, Option.some.injEq, V.int.injEq, V.bl.injEq, V.str.injEq, V.ref.injEq, V.ty.injEq, List.cons.injEq, and_true, true_and, exists_eq_left, exists_eq_left', exists_and_left, exists_and_right, decide_eq_true_eq, List.set_cons_zero, List.set_cons_succ, Bool.not_eq_true', decide_eq_false_iff_not, isi_NoneType_int, isi_NoneType_bool, isi_NoneType_tuple, isi_NoneType_str, isi_NoneType_list, isi_bool_int, isi_bool_bool, isi_bool_tuple, isi_bool_str, isi_bool_list, isi_int_int, isi_int_bool, isi_int_tuple, isi_int_str, isi_int_list, isi_str_int, isi_str_bool, isi_str_tuple, isi_str_str, isi_str_list, isi_list_int, isi_list_bool, isi_list_tuple, isi_list_str, isi_list_list, isi_tuple_int, isi_tuple_bool, isi_tuple_tuple, isi_tuple_str, isi_tuple_list, Bool.false_eq_true, if_true, if_false, reduceIte, Bool.not_true, Bool.not_false, reduceCtorEq, false_and, and_false, exists_false, exists_const, scal_int, scal_bl, scal_str, absE, ne_eq, not_true_eq_false, not_false_eq_true, Int.natCast_add, Int.cast_ofNat_Int, and_assoc, tChain3, tTupF, rTupOfF]
          refine ite2 (fun h => ?_) (fun h => ?_)
          · exact q1 _ _ (Evl.Ex.refl _) (a1 (decide_eq_true h))
          · exact q0 _ (Evl.Ex.refl _) (a0 (decide_eq_false h))
      · intro l H1 e1 hl1 el
        refine ⟨l, rfl, _, .inl (SqL.of el), _, .inr ((ha.ex e1).sq), ?_⟩
        have q3 := q2 H1 e1
        refine cast (congrArg (fun b => Q (.bl b) H1) ?_) q3
        show ds.all isNum = decide _
        have lz : (xs.zip ds).length = xs.length := by
          rw [List.length_zip, hs.len]
          omega
        rw [List.take_of_length_le (by omega), List.length_map, cnt_zip hs.len.symm, ← hs.len]
        exact all_cnt ds
    | _ =>
      simp only [tSeq, tAsg, gName, tRet, tRetN, tDrop, tIfS, tNext, tBreak, tCont, tTest, tB, tVar, tC, tCons, tNil, tCB, tCall, tCallK, tOp, tUn, rI0, rI, rU, rEq, rNe, tAnd, tOr, tNot, tAndV, tOrV, tNotV, tTup, tLst, tIf, gTup, gCons, gNil, tPar, tAug, ipI, gSub, L2.start, cxOf, Cx.nox, List.map_cons, List.map_nil, List.length_cons, List.length_nil, List.replicate, Nat.reduceAdd, Nat.reduceSub, List.cons_append, List.nil_append, List.append_nil, List.getElem?_cons_zero, List.getElem?_cons_succ, Option.some.injEq, V.int.injEq, V.bl.injEq, V.str.injEq, V.ref.injEq, V.ty.injEq, List.cons.injEq, and_true, true_and, exists_eq_left, exists_eq_left', exists_and_left, exists_and_right, decide_eq_true_eq, List.set_cons_zero, List.set_cons_succ, Bool.not_eq_true', decide_eq_false_iff_not, isi_NoneType_int, isi_NoneType_bool, isi_NoneType_tuple, isi_NoneType_str, isi_NoneType_list, isi_bool_int, isi_bool_bool, isi_bool_tuple, isi_bool_str, isi_bool_list, isi_int_int, isi_int_bool, isi_int_tuple, isi_int_str, isi_int_list, isi_str_int, isi_str_bool, isi_str_tuple, isi_str_str, isi_str_list, isi_list_int, isi_list_bool, isi_list_tuple, isi_list_str, isi_list_list, isi_tuple_int, isi_tuple_bool, isi_tuple_tuple, isi_tuple_str, isi_tuple_list, Bool.false_eq_true, if_true, if_false, reduceIte, Bool.not_true, Bool.not_false, reduceCtorEq, false_and, and_false, exists_false, exists_const, scal_int, scal_bl, scal_str, absE, ne_eq, not_true_eq_false, not_false_eq_true, Int.natCast_add, Int.cast_ofNat_Int, and_assoc, tChain3, tTupF, rTupOfF, kindOf]
      exact q H (Evl.Ex.refl H)
end
end K00
end
section
set_option Elab.async false
set_option linter.all false
set_option maxRecDepth 100000
set_option maxHeartbeats 4000000
namespace K00
open PySem PySem.Spec PyProof.Rows L2 Pour
/-! ### what the law asks of whole numbers, and what the kinds ask, are alike -/
theorem lotFrom_iff (N : Int) : ∀ (ns : List Int) (l : Int), lotFrom N l (ns.map PyData.int) = true ↔ (l :: ns).Pairwise (· < ·) ∧ ∀ y ∈ ns, y < N
  | [], l => by simp [lotFrom]
  | x :: ns, l => by
    have ih := lotFrom_iff N ns x
    simp only [List.map_cons, lotFrom, Bool.and_eq_true, decide_eq_true_eq, ih]
    constructor
    · rintro ⟨h1, h2, h3, h4⟩
      refine ⟨List.pairwise_cons.mpr ⟨fun y hy => ?_, h3⟩, fun y hy => ?_⟩
      · rcases List.mem_cons.mp hy with rfl | hy
        · exact h1
        · have := (List.pairwise_cons.mp h3).1 y hy
          omega
      · rcases List.mem_cons.mp hy with rfl | hy
        · exact h2
        · exact h4 y hy
    · rintro ⟨h1, h2⟩
      obtain ⟨h3, h4⟩ := List.pairwise_cons.mp h1
      exact ⟨h3 x List.mem_cons_self, h2 x List.mem_cons_self, h4, fun y hy => h2 y (List.mem_cons_of_mem _ hy)⟩
def lotL (N : Nat) (ns : List Int) : List Int := ((List.range N).filter fun k : Nat => decide ((k : Int) ∈ ns)).map fun k : Nat => (k : Int)
theorem lotL_pw (N : Nat) (ns : List Int) : (lotL N ns).Pairwise (· < ·) := by
  unfold lotL
  rw [List.pairwise_map]
  exact (List.pairwise_lt_range.filter _).imp fun h => by exact_mod_cast h
theorem lotL_mem {N : Nat} {ns : List Int} (nn : ∀ y ∈ ns, 0 ≤ y) {y : Int} : y ∈ lotL N ns ↔ y ∈ ns ∧ y < N := by
  unfold lotL
  rw [List.mem_map]
  constructor
  · rintro ⟨k, hk, rfl⟩
    obtain ⟨h1, h2⟩ := List.mem_filter.mp hk
    have := List.mem_range.mp h1
    exact ⟨of_decide_eq_true h2, by omega⟩
  · rintro ⟨h1, h2⟩
    have h0 := nn y h1
    refine ⟨y.toNat, List.mem_filter.mpr ⟨List.mem_range.mpr (by omega), ?_⟩, by omega⟩
    rw [decide_eq_true_iff, show ((y.toNat : Nat) : Int) = y by omega]
    exact h1
theorem lot_eq {N : Nat} {ns : List Int} (nn : ∀ y ∈ ns, 0 ≤ y) : isLot N (.tuple (ns.map PyData.int)) = decide (ns = lotL N ns) := by
  show lotFrom N (-1) (ns.map PyData.int) = _
  rw [Bool.eq_iff_iff, lotFrom_iff, decide_eq_true_iff]
  constructor
  · rintro ⟨h1, h2⟩
    have pw := (List.pairwise_cons.mp h1).2
    have nd1 : ns.Nodup := pw.imp fun h => Int.ne_of_lt h
    have nd2 : (lotL N ns).Nodup := (lotL_pw N ns).imp fun h => Int.ne_of_lt h
    have pm : ns.Perm (lotL N ns) := (List.perm_ext_iff_of_nodup nd1 nd2).mpr fun y => by
      rw [lotL_mem nn]
      exact ⟨fun h => ⟨h, h2 y h⟩, fun h => h.1⟩
    exact pm.eq_of_pairwise (le := (· < ·)) (fun a b _ _ h1 h2 => absurd h1 (by omega)) pw (lotL_pw N ns)
  · intro h
    rw [h]
    refine ⟨List.pairwise_cons.mpr ⟨fun y hy => ?_, lotL_pw N ns⟩, fun y hy => ((lotL_mem nn).mp hy).2⟩
    have := nn y ((lotL_mem nn).mp hy).1
    omega
def badK (ns : List Int) (k : Nat) : Bool := match ns[k]? with
  | some x => decide ((ns.idxOf x : Int) ≠ x)
  | none => false
theorem idx_first {ns : List Int} {x : Int} {j : Nat} (h : ns[j]? = some x) : ns.idxOf x ≤ j ∧ ns[ns.idxOf x]? = some x := by
  have hm : x ∈ ns := List.mem_of_getElem? h
  have lt := List.idxOf_lt_length_of_mem hm
  obtain ⟨hj, e⟩ := List.getElem?_eq_some_iff.mp h
  refine ⟨?_, by rw [List.getElem?_eq_getElem lt, List.getElem_idxOf]⟩
  rcases Nat.lt_or_ge j (ns.idxOf x) with h1 | h1
  · exfalso
    have h2 := List.not_of_lt_findIdx (p := (· == x)) (xs := ns) (i := j) h1
    rw [e] at h2
    simp at h2
  · exact h1
theorem join_eq {ns : List Int} (nn : ∀ y ∈ ns, 0 ≤ y) : (List.range ns.length).all (joinAt (ns.map PyData.int)) = decide ((((List.range ns.length).filter (badK ns)).length : Int) = 0) := by
  have at_ : ∀ (i : Nat) (x : Int), ns[i]? = some x → joinAt (ns.map PyData.int) i = (decide (0 ≤ x) && (decide (x ≤ i) && decide (ns[x.toNat]? = some x))) := fun i x h => by
    unfold joinAt
    rw [List.getElem?_map, h]
    simp only [Option.map_some]
    congr 2
    rw [List.getElem?_map]
    cases e : ns[x.toNat]? with
    | none => simp
    | some y => simp
  rw [Bool.eq_iff_iff, List.all_eq_true, decide_eq_true_iff]
  constructor
  · intro h
    have : (List.range ns.length).filter (badK ns) = [] := by
      rw [List.filter_eq_nil_iff]
      intro k hk
      have hlt := List.mem_range.mp hk
      have hx : ns[k]? = some ns[k] := List.getElem?_eq_getElem hlt
      have hj := h k hk
      rw [at_ k _ hx] at hj
      simp only [Bool.and_eq_true, decide_eq_true_eq] at hj
      obtain ⟨h0, h1, h2⟩ := hj
      unfold badK
      rw [hx]
      simp only [ne_eq, decide_not, Bool.not_eq_true', Bool.not_eq_true, decide_eq_false_iff_not, Classical.not_not, Bool.not_eq_false', decide_eq_true_eq]
      -- the first place with this number is the number
      obtain ⟨g1, g2⟩ := idx_first h2
      rcases Nat.lt_or_ge (ns.idxOf ns[k]) (ns[k]).toNat with h3 | h3
      · exfalso
        have h4 := h (ns.idxOf ns[k]) (List.mem_range.mpr (by omega))
        rw [at_ _ _ g2] at h4
        simp only [Bool.and_eq_true, decide_eq_true_eq] at h4
        omega
      · omega
    rw [this]
    rfl
  · intro h k hk
    have hlt := List.mem_range.mp hk
    have hx : ns[k]? = some ns[k] := List.getElem?_eq_getElem hlt
    have hb : badK ns k = false := by
      cases e : badK ns k with
      | false => rfl
      | true =>
        have : k ∈ (List.range ns.length).filter (badK ns) := List.mem_filter.mpr ⟨hk, e⟩
        have := List.length_pos_of_mem this
        omega
    unfold badK at hb
    rw [hx] at hb
    have hb : (ns.idxOf ns[k] : Int) = ns[k] := by simpa using hb
    obtain ⟨g1, g2⟩ := idx_first hx
    rw [at_ k _ hx, decide_eq_true (show 0 ≤ ns[k] by omega), decide_eq_true (show ns[k] ≤ k by omega)]
    simp only [Bool.true_and, decide_eq_true_eq]
    rw [show (ns[k]).toNat = ns.idxOf ns[k] by omega]
    exact g2
def fitK (ns rs : List Int) (k : Nat) : Bool := match ns[k]?, rs[k]? with
  | some x, some r => decide (x ≤ r)
  | _, _ => false
theorem split_eq {ns : List Int} (nn : ∀ y ∈ ns, 0 ≤ y) : ∀ {rs : List Int}, ns.length = rs.length → splitFrom rs (ns.map PyData.int) = decide ((((List.range ns.length).filter (fitK ns rs)).length : Int) = ns.length) := by
  intro rs hl
  have key : ∀ (rs ns : List Int), (∀ y ∈ ns, 0 ≤ y) → ns.length = rs.length → (splitFrom rs (ns.map PyData.int) = true ↔ ∀ k, k < ns.length → fitK ns rs k = true) := by
    intro rs
    induction rs with
    | nil =>
      intro ns _ h
      have : ns = [] := List.length_eq_zero_iff.mp h
      subst this
      exact ⟨fun _ k hk => absurd hk (by simp), fun _ => rfl⟩
    | cons r rs ih =>
      intro ns hn h
      match ns, h with
      | x :: ns, h =>
        have ih2 := ih ns (fun y hy => hn y (List.mem_cons_of_mem _ hy)) (by simpa using h)
        have x0 := hn x List.mem_cons_self
        simp only [List.map_cons, splitFrom, Bool.and_eq_true, decide_eq_true_eq, ih2]
        constructor
        · rintro ⟨_, h2, h3⟩ k hk
          match k, hk with
          | 0, _ => simpa [fitK] using h2
          | k + 1, hk => simpa [fitK] using h3 k (by simpa using hk)
        · intro h2
          refine ⟨x0, by simpa [fitK] using h2 0 (by simp), fun k hk => by simpa [fitK] using h2 (k + 1) (by simpa using hk)⟩
  rw [Bool.eq_iff_iff, key rs ns nn hl, decide_eq_true_iff]
  constructor
  · intro h
    rw [List.filter_eq_self.mpr fun k hk => h k (List.mem_range.mp hk), List.length_range]
  · intro h k hk
    have e : (List.range ns.length).filter (fitK ns rs) = List.range ns.length := List.Sublist.eq_of_length List.filter_sublist (by rw [List.length_range]; exact_mod_cast h)
    exact List.filter_eq_self.mp e k (List.mem_range.mpr hk)
theorem nums_of {ds : List PyData} (h : ds.all isNum = true) : ∃ ns : List Int, ds = ns.map PyData.int ∧ ∀ y ∈ ns, 0 ≤ y := by
  induction ds with
  | nil => exact ⟨[], rfl, fun y hy => by cases hy⟩
  | cons d ds ih =>
    rw [List.all_cons, Bool.and_eq_true] at h
    obtain ⟨z, rfl, z0⟩ := isNum_int h.1
    obtain ⟨ns, rfl, hn⟩ := ih h.2
    exact ⟨z :: ns, rfl, fun y hy => by
      rcases List.mem_cons.mp hy with rfl | hy
      · exact z0
      · exact hn y hy⟩
theorem not_nums {n : Int} {rs : List Int} {d : PyData} (h : numsD d = false) : isLot n d = false ∧ isPurses n d = false ∧ isJoin n d = false ∧ isSplit rs d = false := by
  cases d with
  | tuple ds =>
    have h : ds.all isNum = false := h
    obtain ⟨e, he, hn⟩ := List.all_eq_false.mp h
    have hn : isNum e = false := by simpa using hn
    refine ⟨?_, ?_, ?_, ?_⟩
    · have : ∀ (ds : List PyData) (l : Int), -1 ≤ l → e ∈ ds → lotFrom n l ds = false := by
        intro ds
        induction ds with
        | nil => intro l _ h; cases h
        | cons d ds ih =>
          intro l hl hm
          rcases List.mem_cons.mp hm with rfl | hm2
          · cases e with
            | int z =>
              have : ¬ 0 ≤ z := by simpa [isNum] using hn
              simp only [lotFrom]
              rw [decide_eq_false (by omega)]
              rfl
            | _ => rfl
          · cases d with
            | int z =>
              simp only [lotFrom]
              by_cases hz : l < z
              · rw [ih z (by omega) hm2]
                simp
              · rw [decide_eq_false hz]
                rfl
            | _ => rfl
      exact this ds (-1) (by omega) he
    · show (decide _ && ds.all isNum) = false
      rw [h, Bool.and_false]
    · show (decide _ && (List.range ds.length).all (joinAt ds)) = false
      have : (List.range ds.length).all (joinAt ds) = false := by
        obtain ⟨i, hi, ei⟩ := List.mem_iff_getElem.mp he
        rw [List.all_eq_false]
        refine ⟨i, List.mem_range.mpr hi, ?_⟩
        unfold joinAt
        rw [List.getElem?_eq_getElem hi, ei]
        cases e with
        | int z =>
          have : ¬ 0 ≤ z := by simpa [isNum] using hn
          simp [this]
        | _ => simp
      rw [this, Bool.and_false]
    · show splitFrom rs ds = false
      have : ∀ (ds : List PyData) (rs : List Int), e ∈ ds → splitFrom rs ds = false := by
        intro ds
        induction ds with
        | nil => intro rs h; cases h
        | cons d ds ih =>
          intro rs hm
          cases rs with
          | nil => rfl
          | cons r rs =>
            rw [split_cons]
            rcases List.mem_cons.mp hm with rfl | hm
            · rw [hn]
              rfl
            · rw [ih rs hm]
              simp
      exact this ds rs he
  | _ => exact ⟨rfl, rfl, rfl, rfl⟩
/-! ### the word of a web -/
theorem lineOk_word {n : Int} {d : PyData} : lineOk n d = (lineWord n d).isNone := by
  cases d with
  | tuple ds =>
    by_cases h : (ds.length : Int) = 3
    · obtain ⟨a, b, c, rfl⟩ := three (fun g => g h)
      cases ha : isNum a with
      | false => rw [line_a ha, lw_a ha]; rfl
      | true =>
        obtain ⟨x, rfl, x0⟩ := isNum_int ha
        cases hb : isNum b with
        | false => rw [line_b hb, lw_b hb]; rfl
        | true =>
          obtain ⟨y, rfl, y0⟩ := isNum_int hb
          by_cases hab : 0 ≤ x ∧ 0 ≤ y ∧ x < y ∧ y < n
          · cases hc : isInt c with
            | false =>
              rw [lw_c hab hc, line_c (num_of_int hc)]
              rfl
            | true =>
              obtain ⟨z, rfl⟩ := isInt_int hc
              rw [lw_r hab]
              show (decide (0 ≤ x) && (decide (x < y) && (decide (y < n) && decide (1 ≤ z)))) = _
              rw [decide_eq_true hab.1, decide_eq_true hab.2.2.1, decide_eq_true hab.2.2.2]
              by_cases hz : 1 ≤ z
              · rw [if_pos hz, decide_eq_true hz]
                rfl
              · rw [if_neg hz, decide_eq_false hz]
                rfl
          · rw [lw_ab hab]
            cases c <;> first | rfl | skip
            rename_i z
            show (decide (0 ≤ x) && (decide (x < y) && (decide (y < n) && decide (1 ≤ z)))) = _
            by_cases h1 : x < y
            · rw [decide_eq_false (show ¬ y < n by omega)]
              simp
            · rw [decide_eq_false h1]
              simp
    · rw [line_len h, lw_len h]
      rfl
  | _ => rfl
theorem wordFrom_none {n : Int} : ∀ (ls : List PyData) (i : Nat), (wordFrom n i ls).isNone = ls.all (lineOk n)
  | [], _ => rfl
  | d :: ls, i => by
    rw [List.all_cons, lineOk_word]
    simp only [wordFrom]
    cases e : lineWord n d with
    | none => simp [wordFrom_none ls (i + 1)]
    | some s => simp
theorem web_word (d : PyData) : isWeb d = (word d).isNone := by
  cases d with
  | tuple ds =>
    by_cases h : (ds.length : Int) = 2
    · obtain ⟨a, b, rfl⟩ := two (fun g => g h)
      cases ha : isInt a with
      | false =>
        rw [web_int ha]
        cases a <;> first | rfl | (simp [isInt] at ha)
      | true =>
        obtain ⟨n, rfl⟩ := isInt_int ha
        by_cases hn : n < 1
        · rw [web_low hn]
          simp only [word]
          rw [if_pos hn]
          rfl
        · cases b with
          | tuple ls =>
            simp only [word]
            rw [if_neg hn, wordFrom_none]
            show (decide (1 ≤ n) && _) = _
            rw [decide_eq_true (by omega), Bool.true_and]
          | _ =>
            simp only [word]
            rw [if_neg hn]
            rfl
    · rw [web_len h, word_len h]
      rfl
  | _ => rfl
theorem word_ne (d : PyData) : ∀ s i, word d = some (s, i) → s ≠ ("" : Str) := by
  intro s i h e
  subst e
  have lw : ∀ {n : Int} {d : PyData}, lineWord n d ≠ some ("" : Str) := by
    intro n d h
    unfold lineWord at h
    split at h
    · split at h
      · split at h
        · split at h
          · split at h <;> first | cases h | (injection h with h; exact absurd h (by decide))
          · injection h with h; exact absurd h (by decide)
        · injection h with h; exact absurd h (by decide)
      · injection h with h; exact absurd h (by decide)
    · injection h with h; exact absurd h (by decide)
  have wf : ∀ {n : Int} (ls : List PyData) (j : Nat), wordFrom n j ls ≠ some (("" : Str), i) := by
    intro n ls
    induction ls with
    | nil => intro j h; cases h
    | cons d ls ih =>
      intro j h
      simp only [wordFrom] at h
      split at h
      · exact ih _ h
      · rename_i w hw
        injection h with h
        injection h with h1 h2
        exact lw (h1 ▸ hw)
  unfold word at h
  split at h
  · split at h
    · split at h
      · injection h with h; injection h with h; exact absurd h (by decide)
      · split at h
        · exact wf _ _ h
        · injection h with h; injection h with h; exact absurd h (by decide)
    · injection h with h; injection h with h; exact absurd h (by decide)
  · injection h with h; injection h with h; exact absurd h (by decide)
theorem lawW_web (d : PyData) : decide ((lawW d).1 = ("" : Str)) = isWeb d := by
  rw [web_word]
  unfold lawW
  cases e : word d with
  | none => rfl
  | some x =>
    obtain ⟨s, i⟩ := x
    have := word_ne d s i e
    simpa using this
/-! ### equality of two tuples of whole numbers -/
theorem eqvAll_ints : ∀ ns ms : List Int, PyData.eqvAll (ns.map PyData.int) (ms.map PyData.int) = decide (ns = ms)
  | [], [] => by simp [PyData.eqvAll]
  | [], _ :: _ => by simp [PyData.eqvAll]
  | _ :: _, [] => by simp [PyData.eqvAll]
  | a :: ns, b :: ms => by
    simp only [List.map_cons, PyData.eqvAll, PyData.eqv, eqvAll_ints ns ms]
    by_cases h : a = b <;> by_cases h' : ns = ms <;> simp [h, h']
theorem eqv_ints (ns ms : List Int) : PyData.eqv (.tuple (ns.map PyData.int)) (.tuple (ms.map PyData.int)) = decide (ns = ms) := by
  simp only [PyData.eqv]
  exact eqvAll_ints ns ms
end K00
end
section
set_option Elab.async false
set_option linter.all false
set_option maxRecDepth 100000
set_option maxHeartbeats 4000000
namespace K00
open PySem PySem.Spec PyProof.Rows L2 Pour
theorem K_op_in_seq {X : Cx} {K : PySem.W.Frag} (h : X.K = K) : OpR X (compareOp .In) (rIn K false) := by
  subst h
  exact op_in_seq
theorem K_mt_idxT {X : Cx} {K : PySem.W.Frag} (h : X.K = K) : MtR X "tuple.index" (rIdxT K) := by
  subst h
  exact mt_idxT
theorem K_call_len_seq {X : Cx} {K : PySem.W.Frag} (h : X.K = K) : CallR X (.builtin "len") (fun xs H Q => ∃ p, xs = [V.ref p] ∧ ∃ ys, (SqL K H p ys ∨ SqT K H p ys) ∧ Q (.int (ys.length : Nat)) H) := by
  subst h
  intro pins s σ H xs us Q I r ⟨p, e, ys, hs, q⟩
  exact call_len_seq pins s σ H xs us Q I r ⟨p, ys, e, hs, q⟩
theorem pe_bmK {X : Cx} {K : PySem.W.Frag} (hK : X.K = K) {T : String} {name : Str} {id : String} {r : V → List V → Hp → VK → Prop} {o e : Expr} {es : List Expr} {to : TE} {t : TA} {apos cpos : Pos}
    (pa : PlainAttrs T) (slot : Slot T name id) (hty : typeOf (.builtin id) = pure (.type "method_descriptor")) (hm : MtR X id r) (ho : PE X o to) (ha : PA X (e :: es) t)
    (hb : attributeBase o name X.env (eval o X.env) = eval o X.env := by rfl)
    (hf : ((backTo cpos (starEach (e :: es) X.env)).all (fun x => !x.1) && (backToKw cpos (keywordEach [] X.env)).all (fun x => x.1.isSome) && decide ((e :: es).length + ([] : List Keyword).length + (if ([] : List Keyword).isEmpty then 0 else 1) < 30)) = true := by rfl)
    (hl : (apos.endLine == cpos.line) = true := by rfl) (hs : starEach (e :: es) X.env = (false, eval e X.env) :: starEach es X.env := by rfl) (hp : (backTo cpos (starEach es X.env)).any (·.1) = false := by rfl) :
    PE X (.Call (.Attribute o name apos) (e :: es) [] cpos) (tBM K T r to t) := by
  subst hK
  exact pe_bm pa slot hty hm ho ha hb hf hl hs hp
theorem dt_ints {p : Addr → Prop} {B : Int} {H : Hp} : ∀ {ns : List Int} {xs : List V}, DtAll p B H (ns.map PyData.int) xs → xs = ns.map V.int
  | [], [], _ => rfl
  | n :: ns, x :: xs, ⟨⟨e, _⟩, r⟩ => by
    rw [e, dt_ints (ns := ns) (xs := xs) r]
    rfl
theorem inV_ints {k : Int} {ns : List Int} : inV (V.int k) (ns.map V.int) = decide (k ∈ ns) := by
  unfold inV
  rw [List.any_map, Bool.eq_iff_iff, List.any_eq_true, decide_eq_true_iff]
  constructor
  · rintro ⟨x, hx, e⟩
    have : x = k := by simpa [eqV] using e
    rw [← this]
    exact hx
  · intro h
    exact ⟨k, h, by simp [eqV]⟩
def dueV (d : PyData) (n : Int) (rs : List Int) : List V := [.bl (isInt d), .bl (isNum d), .bl (isQuot d), .bl (isLot n d), .bl (isPurses n d), .bl (isJoin n d), .bl (isWeb d), .bl (isSplit rs d)]
section
variable {P : Program} {w : World} {K : PySem.W.Frag} {mg : Str → Option Value} {base : Heap}
def spDue : Sp := fun vs H Q _ => ∃ (p : Addr → Prop) (q : Addr) (d : PyData) (v : V) (n m : Int) (b : Addr) (rows : List R3), vs = [v, .int n, .ref b] ∧ Dt p (2 ^ 197) H d v ∧ 0 ≤ n ∧ n ≤ 100 ∧ Net q H b m rows ∧
  ∀ a H', Evl.Ex H H' → H' a = some (.tup (dueV d n (rows.map (·.2.2)))) → Q (.ref a) H'
theorem ok__law_due (T : Txt K mg) : Keeps P w K mg base CX0 3 d_s__law_due ["_law_value", "_law_n", "_law_net_here"] spDue := by
  obtain ⟨fd, F⟩ := f__law_due T
  obtain ⟨fd__law_int, D__law_int⟩ := ok__law_int (P := P) (w := w) (base := base) T
  obtain ⟨fd__law_lowest, D__law_lowest⟩ := ok__law_lowest (P := P) (w := w) (base := base) T
  obtain ⟨fd__law_numbers, D__law_numbers⟩ := ok__law_numbers (P := P) (w := w) (base := base) T
  obtain ⟨fd__law_word, D__law_word⟩ := ok__law_word (P := P) (w := w) (base := base) T
  refine ⟨fd, F, F.ok sc__law_due (fun vs H Q E h => ?_) (fun cdv A outer s H vs Q E hr h => ⟨_, PSs.nox
    (pss_cons (ps_set (i := 3) sc__law_due.nd rfl (Or.inl rfl) (pe_call D__law_numbers.2 (hr.mono (by decide)) rfl (g__law_numbers T) D__law_numbers.1.kp (b__law_numbers D__law_numbers.1) .nil pass0 (pa_cons (pv 0) pa_nil)))
      (pss_cons (ps_set (i := 4) sc__law_due.nd rfl (Or.inl rfl) pe_bl)
      (pss_cons (ps_set (i := 5) sc__law_due.nd rfl (Or.inl rfl) pe_bl)
      (pss_cons (ps_set (i := 6) sc__law_due.nd rfl (Or.inl rfl) pe_bl)
      (pss_cons (ps_set (i := 7) sc__law_due.nd rfl (Or.inl rfl) pe_bl)
      (Evl.pss_cut (ps_if (pt_val (pv 3)) (pss_cons (ps_set (i := 4) sc__law_due.nd rfl (Or.inl rfl) (pe_cmpR (op_eqD hr.units) (pv 0) (pe_callTy call_tuple_of rfl (n_tuple T) (by decide +kernel) (pa_cons (pe_lc (own := [("_law_k", 10)]) rfl sc__law_due.nd (pi_range1 rfl (n_range T) (pa_cons (pv 1) pa_nil)) (blkOk_by (own := [("_law_k", 10)]) (N := ["_law_value", "_law_n", "_law_net_here", "_law_whole", "_law_lot", "_law_purses", "_law_joins", "_law_halves", "_law_fits", "_law_number", "_law_k"]) (sc := defScope s__law_due) (by decide +kernel)) (fun _ _ _ _ _ => (pg_name (i := 10) sc__law_due.nd rfl (Or.inl rfl))) (fun _ _ _ _ _ => (pts_one (pt_cmpR (K_op_in_seq (K := K) rfl) (pv 10) (pv 0) (by rfl)))) (fun _ _ _ _ _ => (pv 10))) pa_nil)) (nomark _)))
      (pss_cons (ps_set (i := 5) sc__law_due.nd rfl (Or.inl rfl) (pe_cmpR op_eq (pe_callB call_len_seq rfl (n_len T) (by decide +kernel) (pa_cons (pv 0) pa_nil)) (pv 1) (nomark _)))
      (Evl.pss_cut (ps_set (i := 6) sc__law_due.nd rfl (Or.inl rfl) (pe_and (pe_cmpR op_eq (pe_callB call_len_seq rfl (n_len T) (by decide +kernel) (pa_cons (pv 0) pa_nil)) (pv 1) (nomark _)) (pe_one (pe_cmpR op_eq (pe_callB call_len_seq rfl (n_len T) (by decide +kernel) (pa_cons (pe_lc (own := [("_law_k", 10)]) rfl sc__law_due.nd (pi_range1 rfl (n_range T) (pa_cons (pv 1) pa_nil)) (blkOk_by (own := [("_law_k", 10)]) (N := ["_law_value", "_law_n", "_law_net_here", "_law_whole", "_law_lot", "_law_purses", "_law_joins", "_law_halves", "_law_fits", "_law_number", "_law_k"]) (sc := defScope s__law_due) (by decide +kernel)) (fun _ _ _ _ _ => (pg_name (i := 10) sc__law_due.nd rfl (Or.inl rfl))) (fun _ _ _ _ _ => (pts_one (pt_cmpR op_ne (pe_bmT (K := K) rfl PySem.F.slot_tuple_index PySem.F.type_tuple_index (K_mt_idxT (K := K) rfl) (pv 0) (pa_cons (pe_ix (ixK_tup (K := K) rfl) (pv 0) (pv 10) (fun _ _ => rfl)) pa_nil)) (pe_ix (ixK_tup (K := K) rfl) (pv 0) (pv 10) (fun _ _ => rfl)) (nomark _)))) (fun _ _ _ _ _ => (pv 10))) pa_nil)) pe_int (nomark _)))))
      (pss_cons (ps_setLc (i := 8) (own := [("_law_k", 10)]) rfl sc__law_due.nd rfl rfl (sw_true rfl rfl rfl (by decide +kernel)) (pi_range1 rfl (n_range T) (pa_cons (pe_callB (call_min2 rfl) rfl (n_min T) (by decide +kernel) (pa_cons (pe_callB call_len_seq rfl (n_len T) (by decide +kernel) (pa_cons (pv 0) pa_nil)) (pa_cons (pe_callB call_len_seq rfl (n_len T) (by decide +kernel) (pa_cons (pe_ix ix_tup (pv 2) pe_int (fun _ _ => rfl)) pa_nil)) pa_nil))) pa_nil)) (blkOk_by (own := [("_law_k", 10)]) (N := ["_law_value", "_law_n", "_law_net_here", "_law_whole", "_law_lot", "_law_purses", "_law_joins", "_law_halves", "_law_fits", "_law_number", "_law_k"]) (sc := defScope s__law_due) (by decide +kernel)) (fun _ _ _ _ _ => (pg_name (i := 10) sc__law_due.nd rfl (Or.inl rfl))) (fun _ _ _ _ _ => (pts_one (pt_cmpR op_le (pe_ix (ixK_tup (K := K) rfl) (pv 0) (pv 10) (fun _ _ => rfl)) (pe_ix (ixK_tup (K := K) rfl) (pe_ix (ixK_tup (K := K) rfl) (pe_ix (ixK_tup (K := K) rfl) (pv 2) pe_int (fun _ _ => rfl)) (pv 10) (fun _ _ => rfl)) pe_int (fun _ _ => rfl)) (nomark _)))) (fun _ _ _ _ _ => (pv 10)))
      (pss_one (ps_set (i := 7) sc__law_due.nd rfl (Or.inl rfl) (pe_and (pe_cmpR op_eq (pe_callB call_len_seq rfl (n_len T) (by decide +kernel) (pa_cons (pv 0) pa_nil)) (pe_callB call_len_seq rfl (n_len T) (by decide +kernel) (pa_cons (pe_ix ix_tup (pv 2) pe_int (fun _ _ => rfl)) pa_nil)) (nomark _)) (pe_one (pe_cmpR op_eq (pe_callB call_len_seq rfl (n_len T) (by decide +kernel) (pa_cons (pv 8) pa_nil)) (pe_callB call_len_seq rfl (n_len T) (by decide +kernel) (pa_cons (pv 0) pa_nil)) (nomark _)))))))))) pss_nil)
      (pss_cons (ps_set (i := 9) sc__law_due.nd rfl (Or.inl rfl) (pe_and (pe_call D__law_int.2 (hr.mono (by omega)) rfl (g__law_int T) D__law_int.1.kp (b__law_int D__law_int.1) .nil pass0 (pa_cons (pv 0) pa_nil)) (pe_one (pe_cmpR op_ge (pv 0) pe_int (nomark _)))))
      (pss_one (ps_ret (pe_tup (pa_cons (pe_call D__law_int.2 (hr.mono (by omega)) rfl (g__law_int T) D__law_int.1.kp (b__law_int D__law_int.1) .nil pass0 (pa_cons (pv 0) pa_nil)) (pa_cons (pv 9) (pa_cons (pe_call D__law_lowest.2 (hr.mono (by decide)) rfl (g__law_lowest T) D__law_lowest.1.kp (b__law_lowest D__law_lowest.1) .nil pass0 (pa_cons (pv 0) pa_nil)) (pa_cons (pv 4) (pa_cons (pv 5) (pa_cons (pv 6) (pa_cons (pe_cmpR op_eq (pe_ix ix_tup (pe_call D__law_word.2 (hr.mono (by decide)) rfl (g__law_word T) D__law_word.1.kp (b__law_word D__law_word.1) .nil pass0 (pa_cons (pv 0) pa_nil)) pe_int (fun _ _ => rfl)) pe_str (nomark _)) (pa_cons (pv 7) pa_nil)))))))))))))))))), ?_⟩)⟩
  · obtain ⟨p, q', d, v, n, m, b, rows, rfl, _⟩ := h
    rfl
  · obtain ⟨p, q', d, v, n, m, b, rows, rfl, hd, n0, n1, N, ret⟩ := h
    simp only [tSeq, tAsg, gName, tRet, tRetN, tDrop, tIfS, tNext, tBreak, tCont, tTest, tB, tVar, tC, tCons, tNil, tCB, tCall, tCallK, tOp, tUn, rI0, rI, rU, rEq, rNe, tAnd, tOr, tNot, tAndV, tOrV, tNotV, tTup, tLst, tIf, gTup, gCons, gNil, tPar, tAug, ipI, gSub, L2.start, cxOf, Cx.nox, List.map_cons, List.map_nil, List.length_cons, List.length_nil, List.replicate, Nat.reduceAdd, Nat.reduceSub, List.cons_append, List.nil_append, List.append_nil, List.getElem?_cons_zero, List.getElem?_cons_succ, Option.some.injEq, V.int.injEq, V.bl.injEq, V.str.injEq, V.ref.injEq, V.ty.injEq, List.cons.injEq, and_true, true_and, exists_eq_left, exists_eq_left', exists_and_left, exists_and_right, decide_eq_true_eq, List.set_cons_zero, List.set_cons_succ, Bool.not_eq_true', decide_eq_false_iff_not, isi_NoneType_int, isi_NoneType_bool, isi_NoneType_tuple, isi_NoneType_str, isi_NoneType_list, isi_bool_int, isi_bool_bool, isi_bool_tuple, isi_bool_str, isi_bool_list, isi_int_int, isi_int_bool, isi_int_tuple, isi_int_str, isi_int_list, isi_str_int, isi_str_bool, isi_str_tuple, isi_str_str, isi_str_list, isi_list_int, isi_list_bool, isi_list_tuple, isi_list_str, isi_list_list, isi_tuple_int, isi_tuple_bool, isi_tuple_tuple, isi_tuple_str, isi_tuple_list, Bool.false_eq_true, if_true, if_false, reduceIte, Bool.not_true, Bool.not_false, reduceCtorEq, false_and, and_false, exists_false, exists_const, scal_int, scal_bl, scal_str, absE, ne_eq, not_true_eq_false, not_false_eq_true, Int.natCast_add, Int.cast_ofNat_Int, and_assoc, tChain3, tTupF, rTupOfF, Evl.tCut]
    refine ⟨_, _, d, v, rfl, hd, fun H1 e1 => ?_⟩
    refine ⟨fun σ' H' => Evl.Ex H H' ∧ ∃ x8 : Option V, σ' = [some v, some (.int n), some (.ref b), some (.bl (numsD d)), some (.bl (isLot n d)), some (.bl (isPurses n d)), some (.bl (isJoin n d)), some (.bl (isSplit (rows.map (·.2.2)) d)), x8, none, none], ⟨_, rfl, ?_⟩, ?_⟩
    · cases hw : numsD d with
      | false =>
        obtain ⟨f1, f2, f3, f4⟩ := not_nums (n := n) (rs := rows.map (·.2.2)) hw
        rw [f1, f2, f3, f4]
        simp only [tSeq, tAsg, gName, tRet, tRetN, tDrop, tIfS, tNext, tBreak, tCont, tTest, tB, tVar, tC, tCons, tNil, tCB, tCall, tCallK, tOp, tUn, rI0, rI, rU, rEq, rNe, tAnd, tOr, tNot, tAndV, tOrV, tNotV, tTup, tLst, tIf, gTup, gCons, gNil, tPar, tAug, ipI, gSub, L2.start, cxOf, Cx.nox, List.map_cons, List.map_nil, List.length_cons, List.length_nil, List.replicate, Nat.reduceAdd, Nat.reduceSub, List.cons_append, List.nil_append, List.append_nil, List.getElem?_cons_zero, List.getElem?_cons_succ, Option.some.injEq, V.int.injEq, V.bl.injEq, V.str.injEq, V.ref.injEq, V.ty.injEq, List.cons.injEq, and_true, true_and, exists_eq_left, exists_eq_left', exists_and_left, exists_and_right, decide_eq_true_eq, List.set_cons_zero, List.set_cons_succ, Bool.not_eq_true', decide_eq_false_iff_not, isi_NoneType_int, isi_NoneType_bool, isi_NoneType_tuple, isi_NoneType_str, isi_NoneType_list, isi_bool_int, isi_bool_bool, isi_bool_tuple, isi_bool_str, isi_bool_list, isi_int_int, isi_int_bool, isi_int_tuple, isi_int_str, isi_int_list, isi_str_int, isi_str_bool, isi_str_tuple, isi_str_str, isi_str_list, isi_list_int, isi_list_bool, isi_list_tuple, isi_list_str, isi_list_list, isi_tuple_int, isi_tuple_bool, isi_tuple_tuple, isi_tuple_str, isi_tuple_list, Bool.false_eq_true, if_true, if_false, reduceIte, Bool.not_true, Bool.not_false, reduceCtorEq, false_and, and_false, exists_false, exists_const, scal_int, scal_bl, scal_str, absE, ne_eq, not_true_eq_false, not_false_eq_true, Int.natCast_add, Int.cast_ofNat_Int, and_assoc, tChain3, tTupF, rTupOfF]
        exact ⟨e1, none, rfl⟩
      | true =>
        obtain ⟨ds, rfl⟩ : ∃ ds, d = .tuple ds := by
          cases d <;> first | exact ⟨_, rfl⟩ | (simp [numsD] at hw)
        obtain ⟨a, xs, rfl, ne, ha, hl, hs⟩ := hd
        obtain ⟨ns, rfl, nn⟩ := nums_of (show ds.all isNum = true from hw)
        have exs := dt_ints hs
        subst exs
        obtain ⟨wl, rs, hb1, hb2, hrs⟩ := N.is
        obtain ⟨N', rfl⟩ : ∃ N' : Nat, n = N' := ⟨n.toNat, by omega⟩
        rw [List.length_map] at hl
        simp only [tSeq, tAsg, gName, tRet, tRetN, tDrop, tIfS, tNext, tBreak, tCont, tTest, tB, tVar, tC, tCons, tNil, tCB, tCall, tCallK, tOp, tUn, rI0, rI, rU, rEq, rNe, tAnd, tOr, tNot, tAndV, tOrV, tNotV, tTup, tLst, tIf, gTup, gCons, gNil, tPar, tAug, ipI, gSub, L2.start, cxOf, Cx.nox, List.map_cons, List.map_nil, List.length_cons, List.length_nil, List.replicate, Nat.reduceAdd, Nat.reduceSub, List.cons_append, List.nil_append, List.append_nil, List.getElem?_cons_zero, List.getElem?_cons_succ, Option.some.injEq, V.int.injEq, V.bl.injEq, V.str.injEq, V.ref.injEq, V.ty.injEq, List.cons.injEq, and_true, true_and, exists_eq_left, exists_eq_left', exists_and_left, exists_and_right, decide_eq_true_eq, List.set_cons_zero, List.set_cons_succ, Bool.not_eq_true', decide_eq_false_iff_not, isi_NoneType_int, isi_NoneType_bool, isi_NoneType_tuple, isi_NoneType_str, isi_NoneType_list, isi_bool_int, isi_bool_bool, isi_bool_tuple, isi_bool_str, isi_bool_list, isi_int_int, isi_int_bool, isi_int_tuple, isi_int_str, isi_int_list, isi_str_int, isi_str_bool, isi_str_tuple, isi_str_str, isi_str_list, isi_list_int, isi_list_bool, isi_list_tuple, isi_list_str, isi_list_list, isi_tuple_int, isi_tuple_bool, isi_tuple_tuple, isi_tuple_str, isi_tuple_list, Bool.false_eq_true, if_true, if_false, reduceIte, Bool.not_true, Bool.not_false, reduceCtorEq, false_and, and_false, exists_false, exists_const, scal_int, scal_bl, scal_str, absE, ne_eq, not_true_eq_false, not_false_eq_true, Int.natCast_add, Int.cast_ofNat_Int, and_assoc, tChain3, tTupF, rTupOfF]
        refine lc_rngE (n := N') (fun i => ((List.range i).filter fun k : Nat => decide ((k : Int) ∈ ns)).map fun k : Nat => V.int (k : Int)) rfl (fun i => ?_) (by omega) ?_ (fun x => rfl) ?_ ?_
        · rw [List.length_map]
          exact Nat.le_trans (List.length_filter_le _ _) (by rw [List.length_range]; omega)
        · intro Q' h
          simp only [tSeq, tAsg, gName, tRet, tRetN, tDrop, tIfS, tNext, tBreak, tCont, tTest, tB, tVar, tC, tCons, tNil, tCB, tCall, tCallK, tOp, tUn, rI0, rI, rU, rEq, rNe, tAnd, tOr, tNot, tAndV, tOrV, tNotV, tTup, tLst, tIf, gTup, gCons, gNil, tPar, tAug, ipI, gSub, L2.start, cxOf, Cx.nox, List.map_cons, List.map_nil, List.length_cons, List.length_nil, List.replicate, Nat.reduceAdd, Nat.reduceSub, List.cons_append, List.nil_append, List.append_nil, List.getElem?_cons_zero, List.getElem?_cons_succ, Option.some.injEq, V.int.injEq, V.bl.injEq, V.str.injEq, V.ref.injEq, V.ty.injEq, List.cons.injEq, and_true, true_and, exists_eq_left, exists_eq_left', exists_and_left, exists_and_right, decide_eq_true_eq, List.set_cons_zero, List.set_cons_succ, Bool.not_eq_true', decide_eq_false_iff_not, isi_NoneType_int, isi_NoneType_bool, isi_NoneType_tuple, isi_NoneType_str, isi_NoneType_list, isi_bool_int, isi_bool_bool, isi_bool_tuple, isi_bool_str, isi_bool_list, isi_int_int, isi_int_bool, isi_int_tuple, isi_int_str, isi_int_list, isi_str_int, isi_str_bool, isi_str_tuple, isi_str_str, isi_str_list, isi_list_int, isi_list_bool, isi_list_tuple, isi_list_str, isi_list_list, isi_tuple_int, isi_tuple_bool, isi_tuple_tuple, isi_tuple_str, isi_tuple_list, Bool.false_eq_true, if_true, if_false, reduceIte, Bool.not_true, Bool.not_false, reduceCtorEq, false_and, and_false, exists_false, exists_const, scal_int, scal_bl, scal_str, absE, ne_eq, not_true_eq_false, not_false_eq_true, Int.natCast_add, Int.cast_ofNat_Int, and_assoc, tChain3, tTupF, rTupOfF]
          exact h
        · intro i H2 Q1 Q0 hi e2 q1 q0
          simp only [tSeq, tAsg, gName, tRet, tRetN, tDrop, tIfS, tNext, tBreak, tCont, tTest, tB, tVar, tC, tCons, tNil, tCB, tCall, tCallK, tOp, tUn, rI0, rI, rU, rEq, rNe, tAnd, tOr, tNot, tAndV, tOrV, tNotV, tTup, tLst, tIf, gTup, gCons, gNil, tPar, tAug, ipI, gSub, L2.start, cxOf, Cx.nox, List.map_cons, List.map_nil, List.length_cons, List.length_nil, List.replicate, Nat.reduceAdd, Nat.reduceSub, List.cons_append, List.nil_append, List.append_nil, List.getElem?_cons_zero, List.getElem?_cons_succ, Option.some.injEq, V.int.injEq, V.bl.injEq, V.str.injEq, V.ref.injEq, V.ty.injEq, List.cons.injEq, and_true, true_and, exists_eq_left, exists_eq_left', exists_and_left, exists_and_right, decide_eq_true_eq, List.set_cons_zero, List.set_cons_succ, Bool.not_eq_true', decide_eq_false_iff_not, isi_NoneType_int, isi_NoneType_bool, isi_NoneType_tuple, isi_NoneType_str, isi_NoneType_list, isi_bool_int, isi_bool_bool, isi_bool_tuple, isi_bool_str, isi_bool_list, isi_int_int, isi_int_bool, isi_int_tuple, isi_int_str, isi_int_list, isi_str_int, isi_str_bool, isi_str_tuple, isi_str_str, isi_str_list, isi_list_int, isi_list_bool, isi_list_tuple, isi_list_str, isi_list_list, isi_tuple_int, isi_tuple_bool, isi_tuple_tuple, isi_tuple_str, isi_tuple_list, Bool.false_eq_true, if_true, if_false, reduceIte, Bool.not_true, Bool.not_false, reduceCtorEq, false_and, and_false, exists_false, exists_const, scal_int, scal_bl, scal_str, absE, ne_eq, not_true_eq_false, not_false_eq_true, Int.natCast_add, Int.cast_ofNat_Int, and_assoc, tChain3, tTupF, rTupOfF, wipe, tTest, rIn, Int.zero_add]
          have ha2 := (ha.ex e1).ex e2
          refine ⟨_, .inr ha2.sq, rfl, ?_, ?_⟩
          · rw [List.all_map, List.all_eq_true]
            intro _ _
            rfl
          have ein : inV (V.int (i : Int)) (ns.map V.int) = decide ((i : Int) ∈ ns) := inV_ints
          rw [ein]
          refine ite2 (fun h => ?_) (fun h => ?_)
          · refine q1 _ _ (Evl.Ex.refl _) ?_
            rw [List.range_succ, List.filter_append, List.map_append]
            simp [of_decide_eq_true h]
          · refine q0 _ (Evl.Ex.refl _) ?_
            have h' : ¬ (i : Int) ∈ ns := by simpa using h
            rw [List.range_succ, List.filter_append, List.map_append]
            simp [h']
        · intro l H2 e2 hl2 el
          have el' : H2 l = some (.lst ((lotL N' ns).map V.int)) := by
            rw [el]
            unfold lotL
            rw [List.map_map]
            rfl
          refine ⟨l, rfl, _, .inl ⟨SqL.of el', fun t ht => ?_⟩⟩
          have e3 := Evl.Ex.new (o := HO.tup ((lotL N' ns).map V.int)) ht
          have ht3 : upd H2 t (HO.tup ((lotL N' ns).map V.int)) t = some (.tup ((lotL N' ns).map V.int)) := upd_same
          generalize upd H2 t (HO.tup ((lotL N' ns).map V.int)) = H3 at *
          have e13 := (e1.trans e2).trans e3
          have ha3 := ha.ex e13
          have sqa := TupN.sq (K := K) ha3
          refine ⟨_, _, dp_tup sqa, dp_tup (SqT.of ht3), shT _, shT _, ?_⟩
          rw [eqv_ints, ← lot_eq nn]
          simp only [tSeq, tAsg, gName, tRet, tRetN, tDrop, tIfS, tNext, tBreak, tCont, tTest, tB, tVar, tC, tCons, tNil, tCB, tCall, tCallK, tOp, tUn, rI0, rI, rU, rEq, rNe, tAnd, tOr, tNot, tAndV, tOrV, tNotV, tTup, tLst, tIf, gTup, gCons, gNil, tPar, tAug, ipI, gSub, L2.start, cxOf, Cx.nox, List.map_cons, List.map_nil, List.length_cons, List.length_nil, List.replicate, Nat.reduceAdd, Nat.reduceSub, List.cons_append, List.nil_append, List.append_nil, List.getElem?_cons_zero, List.getElem?_cons_succ, Option.some.injEq, V.int.injEq, V.bl.injEq, V.str.injEq, V.ref.injEq, V.ty.injEq, List.cons.injEq, and_true, true_and, exists_eq_left, exists_eq_left', exists_and_left, exists_and_right, decide_eq_true_eq, List.set_cons_zero, List.set_cons_succ, Bool.not_eq_true', decide_eq_false_iff_not, isi_NoneType_int, isi_NoneType_bool, isi_NoneType_tuple, isi_NoneType_str, isi_NoneType_list, isi_bool_int, isi_bool_bool, isi_bool_tuple, isi_bool_str, isi_bool_list, isi_int_int, isi_int_bool, isi_int_tuple, isi_int_str, isi_int_list, isi_str_int, isi_str_bool, isi_str_tuple, isi_str_str, isi_str_list, isi_list_int, isi_list_bool, isi_list_tuple, isi_list_str, isi_list_list, isi_tuple_int, isi_tuple_bool, isi_tuple_tuple, isi_tuple_str, isi_tuple_list, Bool.false_eq_true, if_true, if_false, reduceIte, Bool.not_true, Bool.not_false, reduceCtorEq, false_and, and_false, exists_false, exists_const, scal_int, scal_bl, scal_str, absE, ne_eq, not_true_eq_false, not_false_eq_true, Int.natCast_add, Int.cast_ofNat_Int, and_assoc, tChain3, tTupF, rTupOfF]
          refine ⟨_, .inr sqa, ?_⟩
          rw [List.length_map]
          have ep : isPurses N' (.tuple (ns.map PyData.int)) = decide ((ns.length : Int) = N') := by
            show (decide (((ns.map PyData.int).length : Int) = N') && (ns.map PyData.int).all isNum) = _
            rw [show (ns.map PyData.int).all isNum = true from hw, Bool.and_true, List.length_map]
          rw [← ep]
          refine ⟨fun σ' H' => Evl.Ex H H' ∧ σ' = [some (.ref a), some (.int N'), some (.ref b), some (.bl true), some (.bl (isLot N' (.tuple (ns.map PyData.int)))), some (.bl (isPurses N' (.tuple (ns.map PyData.int)))), some (.bl (isJoin N' (.tuple (ns.map PyData.int)))), some (.bl false), none, none, none], ?_, ?_⟩
          · refine ⟨_, .inr sqa, ?_⟩
            rw [List.length_map]
            refine ite2 (fun hN => ?_) (fun hN => ?_)
            · refine lc_rngE (n := N') (fun i => ((List.range i).filter (badK ns)).map fun k : Nat => V.int (k : Int)) rfl (fun i => ?_) (by omega) ?_ (fun x => rfl) ?_ ?_
              · rw [List.length_map]
                exact Nat.le_trans (List.length_filter_le _ _) (by rw [List.length_range]; omega)
              · intro Q' h
                simp only [tSeq, tAsg, gName, tRet, tRetN, tDrop, tIfS, tNext, tBreak, tCont, tTest, tB, tVar, tC, tCons, tNil, tCB, tCall, tCallK, tOp, tUn, rI0, rI, rU, rEq, rNe, tAnd, tOr, tNot, tAndV, tOrV, tNotV, tTup, tLst, tIf, gTup, gCons, gNil, tPar, tAug, ipI, gSub, L2.start, cxOf, Cx.nox, List.map_cons, List.map_nil, List.length_cons, List.length_nil, List.replicate, Nat.reduceAdd, Nat.reduceSub, List.cons_append, List.nil_append, List.append_nil, List.getElem?_cons_zero, List.getElem?_cons_succ, Option.some.injEq, V.int.injEq, V.bl.injEq, V.str.injEq, V.ref.injEq, V.ty.injEq, List.cons.injEq, and_true, true_and, exists_eq_left, exists_eq_left', exists_and_left, exists_and_right, decide_eq_true_eq, List.set_cons_zero, List.set_cons_succ, Bool.not_eq_true', decide_eq_false_iff_not, isi_NoneType_int, isi_NoneType_bool, isi_NoneType_tuple, isi_NoneType_str, isi_NoneType_list, isi_bool_int, isi_bool_bool, isi_bool_tuple, isi_bool_str, isi_bool_list, isi_int_int, isi_int_bool, isi_int_tuple, isi_int_str, isi_int_list, isi_str_int, isi_str_bool, isi_str_tuple, isi_str_str, isi_str_list, isi_list_int, isi_list_bool, isi_list_tuple, isi_list_str, isi_list_list, isi_tuple_int, isi_tuple_bool, isi_tuple_tuple, isi_tuple_str, isi_tuple_list, Bool.false_eq_true, if_true, if_false, reduceIte, Bool.not_true, Bool.not_false, reduceCtorEq, false_and, and_false, exists_false, exists_const, scal_int, scal_bl, scal_str, absE, ne_eq, not_true_eq_false, not_false_eq_true, Int.natCast_add, Int.cast_ofNat_Int, and_assoc, tChain3, tTupF, rTupOfF]
                exact h
              · intro i H4 Q1 Q0 hi e4 q1 q0
                obtain ⟨x, hx⟩ : ∃ x, ns[i]? = some x := ⟨_, List.getElem?_eq_getElem (by omega)⟩
                have hxV : (ns.map V.int)[i]? = some (V.int x) := by rw [List.getElem?_map, hx]; rfl
                have ha4 := ha3.ex e4
                have sq4 := TupN.sq (K := K) ha4
                simp only [tSeq, tAsg, gName, tRet, tRetN, tDrop, tIfS, tNext, tBreak, tCont, tTest, tB, tVar, tC, tCons, tNil, tCB, tCall, tCallK, tOp, tUn, rI0, rI, rU, rEq, rNe, tAnd, tOr, tNot, tAndV, tOrV, tNotV, tTup, tLst, tIf, gTup, gCons, gNil, tPar, tAug, ipI, gSub, L2.start, cxOf, Cx.nox, List.map_cons, List.map_nil, List.length_cons, List.length_nil, List.replicate, Nat.reduceAdd, Nat.reduceSub, List.cons_append, List.nil_append, List.append_nil, List.getElem?_cons_zero, List.getElem?_cons_succ, Option.some.injEq, V.int.injEq, V.bl.injEq, V.str.injEq, V.ref.injEq, V.ty.injEq, List.cons.injEq, and_true, true_and, exists_eq_left, exists_eq_left', exists_and_left, exists_and_right, decide_eq_true_eq, List.set_cons_zero, List.set_cons_succ, Bool.not_eq_true', decide_eq_false_iff_not, isi_NoneType_int, isi_NoneType_bool, isi_NoneType_tuple, isi_NoneType_str, isi_NoneType_list, isi_bool_int, isi_bool_bool, isi_bool_tuple, isi_bool_str, isi_bool_list, isi_int_int, isi_int_bool, isi_int_tuple, isi_int_str, isi_int_list, isi_str_int, isi_str_bool, isi_str_tuple, isi_str_str, isi_str_list, isi_list_int, isi_list_bool, isi_list_tuple, isi_list_str, isi_list_list, isi_tuple_int, isi_tuple_bool, isi_tuple_tuple, isi_tuple_str, isi_tuple_list, Bool.false_eq_true, if_true, if_false, reduceIte, Bool.not_true, Bool.not_false, reduceCtorEq, false_and, and_false, exists_false, exists_const, scal_int, scal_bl, scal_str, absE, ne_eq, not_true_eq_false, not_false_eq_true, Int.natCast_add, Int.cast_ofNat_Int, and_assoc, tChain3, tTupF, rTupOfF, wipe, tTest, tBMT, rIdxT, rIxT, Int.zero_add]
                have eb : badK ns i = decide ((ns.idxOf x : Int) ≠ x) := by
                  unfold badK
                  rw [hx]
                refine ⟨⟨_, ha4⟩, _, sq4, _, atI_nat hxV, ns, x, rfl, sq4, List.mem_of_getElem? hx, _, sq4, _, atI_nat hxV, rfl, ?_⟩
                refine ite2 (fun h => ?_) (fun h => ?_)
                · have hb : badK ns i = true := by
                    rw [eb, decide_eq_true]
                    intro h'
                    exact h (by rw [h'])
                  refine q1 _ _ (Evl.Ex.refl _) ?_
                  rw [List.range_succ, List.filter_append, List.map_append]
                  simp [hb]
                · have hb : badK ns i = false := by
                    rw [eb, decide_eq_false]
                    intro h'
                    apply h'
                    have h2 := Classical.not_not.mp h
                    injection h2
                  refine q0 _ (Evl.Ex.refl _) ?_
                  rw [List.range_succ, List.filter_append, List.map_append]
                  simp [hb]
              · intro l4 H4 e4 hl4 el4
                have hN2 : ns.length = N' := by omega
                have ej : isJoin N' (.tuple (ns.map PyData.int)) = decide ((((List.range N').filter (badK ns)).length : Int) = 0) := by
                  show (decide (((ns.map PyData.int).length : Int) = N') && (List.range (ns.map PyData.int).length).all (joinAt (ns.map PyData.int))) = _
                  rw [List.length_map, decide_eq_true hN, Bool.true_and, join_eq nn, hN2]
                refine ⟨l4, rfl, _, .inl (SqL.of el4), e13.trans e4, ?_⟩
                rw [List.length_map, ej]
            · have ej : isJoin N' (.tuple (ns.map PyData.int)) = false := by
                show (decide (((ns.map PyData.int).length : Int) = N') && _) = _
                rw [List.length_map, decide_eq_false hN, Bool.false_and]
              rw [ej]
              exact ⟨e13, rfl⟩
          · rintro σ' H' ⟨e, rfl⟩
            have sqa' := (ha.ex e).sq (K := K)
            have sqb' := (hb1.ex e).sq (K := K)
            have sqw' := (hb2.ex e).sq (K := K)
            have hrl := hrs.len
            simp only [tSeq, tAsg, gName, tRet, tRetN, tDrop, tIfS, tNext, tBreak, tCont, tTest, tB, tVar, tC, tCons, tNil, tCB, tCall, tCallK, tOp, tUn, rI0, rI, rU, rEq, rNe, tAnd, tOr, tNot, tAndV, tOrV, tNotV, tTup, tLst, tIf, gTup, gCons, gNil, tPar, tAug, ipI, gSub, L2.start, cxOf, Cx.nox, List.map_cons, List.map_nil, List.length_cons, List.length_nil, List.replicate, Nat.reduceAdd, Nat.reduceSub, List.cons_append, List.nil_append, List.append_nil, List.getElem?_cons_zero, List.getElem?_cons_succ, Option.some.injEq, V.int.injEq, V.bl.injEq, V.str.injEq, V.ref.injEq, V.ty.injEq, List.cons.injEq, and_true, true_and, exists_eq_left, exists_eq_left', exists_and_left, exists_and_right, decide_eq_true_eq, List.set_cons_zero, List.set_cons_succ, Bool.not_eq_true', decide_eq_false_iff_not, isi_NoneType_int, isi_NoneType_bool, isi_NoneType_tuple, isi_NoneType_str, isi_NoneType_list, isi_bool_int, isi_bool_bool, isi_bool_tuple, isi_bool_str, isi_bool_list, isi_int_int, isi_int_bool, isi_int_tuple, isi_int_str, isi_int_list, isi_str_int, isi_str_bool, isi_str_tuple, isi_str_str, isi_str_list, isi_list_int, isi_list_bool, isi_list_tuple, isi_list_str, isi_list_list, isi_tuple_int, isi_tuple_bool, isi_tuple_tuple, isi_tuple_str, isi_tuple_list, Bool.false_eq_true, if_true, if_false, reduceIte, Bool.not_true, Bool.not_false, reduceCtorEq, false_and, and_false, exists_false, exists_const, scal_int, scal_bl, scal_str, absE, ne_eq, not_true_eq_false, not_false_eq_true, Int.natCast_add, Int.cast_ofNat_Int, and_assoc, tChain3, tTupF, rTupOfF]
            refine lc_rngE (n := min ns.length rows.length) (fun i => ((List.range i).filter (fitK ns (rows.map (·.2.2)))).map fun k : Nat => V.int (k : Int)) rfl (fun i => ?_) (by omega) ?_ (fun x => rfl) ?_ ?_
            · rw [List.length_map]
              exact Nat.le_trans (List.length_filter_le _ _) (by rw [List.length_range]; omega)
            · intro Q' h
              simp only [tSeq, tAsg, gName, tRet, tRetN, tDrop, tIfS, tNext, tBreak, tCont, tTest, tB, tVar, tC, tCons, tNil, tCB, tCall, tCallK, tOp, tUn, rI0, rI, rU, rEq, rNe, tAnd, tOr, tNot, tAndV, tOrV, tNotV, tTup, tLst, tIf, gTup, gCons, gNil, tPar, tAug, ipI, gSub, L2.start, cxOf, Cx.nox, List.map_cons, List.map_nil, List.length_cons, List.length_nil, List.replicate, Nat.reduceAdd, Nat.reduceSub, List.cons_append, List.nil_append, List.append_nil, List.getElem?_cons_zero, List.getElem?_cons_succ, Option.some.injEq, V.int.injEq, V.bl.injEq, V.str.injEq, V.ref.injEq, V.ty.injEq, List.cons.injEq, and_true, true_and, exists_eq_left, exists_eq_left', exists_and_left, exists_and_right, decide_eq_true_eq, List.set_cons_zero, List.set_cons_succ, Bool.not_eq_true', decide_eq_false_iff_not, isi_NoneType_int, isi_NoneType_bool, isi_NoneType_tuple, isi_NoneType_str, isi_NoneType_list, isi_bool_int, isi_bool_bool, isi_bool_tuple, isi_bool_str, isi_bool_list, isi_int_int, isi_int_bool, isi_int_tuple, isi_int_str, isi_int_list, isi_str_int, isi_str_bool, isi_str_tuple, isi_str_str, isi_str_list, isi_list_int, isi_list_bool, isi_list_tuple, isi_list_str, isi_list_list, isi_tuple_int, isi_tuple_bool, isi_tuple_tuple, isi_tuple_str, isi_tuple_list, Bool.false_eq_true, if_true, if_false, reduceIte, Bool.not_true, Bool.not_false, reduceCtorEq, false_and, and_false, exists_false, exists_const, scal_int, scal_bl, scal_str, absE, ne_eq, not_true_eq_false, not_false_eq_true, Int.natCast_add, Int.cast_ofNat_Int, and_assoc, tChain3, tTupF, rTupOfF, rIxT]
              refine ⟨_, .inr sqa', _, sqb', _, rfl, wl, rfl, _, .inr sqw', ?_⟩
              rw [List.length_map, hrl]
              refine cast (congrArg (fun z => Q' [V.int z] H') ?_) h
              split <;> omega
            · intro i H4 Q1 Q0 hi e4 q1 q0
              obtain ⟨x, hx⟩ : ∃ x, ns[i]? = some x := ⟨_, List.getElem?_eq_getElem (by omega)⟩
              have hxV : (ns.map V.int)[i]? = some (V.int x) := by rw [List.getElem?_map, hx]; rfl
              obtain ⟨r, hr⟩ : ∃ r, rows[i]? = some r := ⟨_, List.getElem?_eq_getElem (by omega)⟩
              obtain ⟨rt, hrt, hrt2⟩ := hrs.get hr
              have sqa4 := ((ha.ex e).ex e4).sq (K := K)
              have sqb4 := ((hb1.ex e).ex e4).sq (K := K)
              have sqw4 := ((hb2.ex e).ex e4).sq (K := K)
              have sqr4 := ((hrt2.ex e).ex e4).sq (K := K)
              have ef : fitK ns (rows.map (·.2.2)) i = decide (x ≤ r.2.2) := by
                unfold fitK
                rw [hx, List.getElem?_map, hr]
                rfl
              simp only [tSeq, tAsg, gName, tRet, tRetN, tDrop, tIfS, tNext, tBreak, tCont, tTest, tB, tVar, tC, tCons, tNil, tCB, tCall, tCallK, tOp, tUn, rI0, rI, rU, rEq, rNe, tAnd, tOr, tNot, tAndV, tOrV, tNotV, tTup, tLst, tIf, gTup, gCons, gNil, tPar, tAug, ipI, gSub, L2.start, cxOf, Cx.nox, List.map_cons, List.map_nil, List.length_cons, List.length_nil, List.replicate, Nat.reduceAdd, Nat.reduceSub, List.cons_append, List.nil_append, List.append_nil, List.getElem?_cons_zero, List.getElem?_cons_succ, Option.some.injEq, V.int.injEq, V.bl.injEq, V.str.injEq, V.ref.injEq, V.ty.injEq, List.cons.injEq, and_true, true_and, exists_eq_left, exists_eq_left', exists_and_left, exists_and_right, decide_eq_true_eq, List.set_cons_zero, List.set_cons_succ, Bool.not_eq_true', decide_eq_false_iff_not, isi_NoneType_int, isi_NoneType_bool, isi_NoneType_tuple, isi_NoneType_str, isi_NoneType_list, isi_bool_int, isi_bool_bool, isi_bool_tuple, isi_bool_str, isi_bool_list, isi_int_int, isi_int_bool, isi_int_tuple, isi_int_str, isi_int_list, isi_str_int, isi_str_bool, isi_str_tuple, isi_str_str, isi_str_list, isi_list_int, isi_list_bool, isi_list_tuple, isi_list_str, isi_list_list, isi_tuple_int, isi_tuple_bool, isi_tuple_tuple, isi_tuple_str, isi_tuple_list, Bool.false_eq_true, if_true, if_false, reduceIte, Bool.not_true, Bool.not_false, reduceCtorEq, false_and, and_false, exists_false, exists_const, scal_int, scal_bl, scal_str, absE, ne_eq, not_true_eq_false, not_false_eq_true, Int.natCast_add, Int.cast_ofNat_Int, and_assoc, tChain3, tTupF, rTupOfF, wipe, tTest, rIxT, Int.zero_add]
              refine ⟨_, sqa4, _, atI_nat hxV, _, sqb4, _, rfl, wl, rfl, _, sqw4, _, atI_nat hrt, rt, rfl, _, sqr4, _, rfl, x, rfl, r.2.2, rfl, ?_⟩
              refine ite2 (fun h => ?_) (fun h => ?_)
              · refine q1 _ _ (Evl.Ex.refl _) ?_
                rw [List.range_succ, List.filter_append, List.map_append]
                simp [ef, h]
              · refine q0 _ (Evl.Ex.refl _) ?_
                rw [List.range_succ, List.filter_append, List.map_append]
                simp [ef, h]
            · intro l4 H4 e4 hl4 el4
              have sqa4 := ((ha.ex e).ex e4).sq (K := K)
              have sqb4 := ((hb1.ex e).ex e4).sq (K := K)
              have sqw4 := ((hb2.ex e).ex e4).sq (K := K)
              simp only [tSeq, tAsg, gName, tRet, tRetN, tDrop, tIfS, tNext, tBreak, tCont, tTest, tB, tVar, tC, tCons, tNil, tCB, tCall, tCallK, tOp, tUn, rI0, rI, rU, rEq, rNe, tAnd, tOr, tNot, tAndV, tOrV, tNotV, tTup, tLst, tIf, gTup, gCons, gNil, tPar, tAug, ipI, gSub, L2.start, cxOf, Cx.nox, List.map_cons, List.map_nil, List.length_cons, List.length_nil, List.replicate, Nat.reduceAdd, Nat.reduceSub, List.cons_append, List.nil_append, List.append_nil, List.getElem?_cons_zero, List.getElem?_cons_succ, Option.some.injEq, V.int.injEq, V.bl.injEq, V.str.injEq, V.ref.injEq, V.ty.injEq, List.cons.injEq, and_true, true_and, exists_eq_left, exists_eq_left', exists_and_left, exists_and_right, decide_eq_true_eq, List.set_cons_zero, List.set_cons_succ, Bool.not_eq_true', decide_eq_false_iff_not, isi_NoneType_int, isi_NoneType_bool, isi_NoneType_tuple, isi_NoneType_str, isi_NoneType_list, isi_bool_int, isi_bool_bool, isi_bool_tuple, isi_bool_str, isi_bool_list, isi_int_int, isi_int_bool, isi_int_tuple, isi_int_str, isi_int_list, isi_str_int, isi_str_bool, isi_str_tuple, isi_str_str, isi_str_list, isi_list_int, isi_list_bool, isi_list_tuple, isi_list_str, isi_list_list, isi_tuple_int, isi_tuple_bool, isi_tuple_tuple, isi_tuple_str, isi_tuple_list, Bool.false_eq_true, if_true, if_false, reduceIte, Bool.not_true, Bool.not_false, reduceCtorEq, false_and, and_false, exists_false, exists_const, scal_int, scal_bl, scal_str, absE, ne_eq, not_true_eq_false, not_false_eq_true, Int.natCast_add, Int.cast_ofNat_Int, and_assoc, tChain3, tTupF, rTupOfF, rIxT]
              refine ⟨_, .inr sqa4, _, sqb4, _, rfl, wl, rfl, _, .inr sqw4, ?_⟩
              rw [List.length_map, hrl]
              refine ite2 (fun hN => ?_) (fun hN => ?_)
              · have hN2 : ns.length = (rows.map (·.2.2)).length := by rw [List.length_map]; omega
                have es : isSplit (rows.map (·.2.2)) (.tuple (ns.map PyData.int)) = _ := split_eq nn hN2
                refine ⟨_, .inl (SqL.of el4), _, .inr sqa4, e.trans e4, ?_, _, rfl⟩
                rw [es, List.length_map, List.length_map, show min ns.length rows.length = ns.length by omega]
              · refine ⟨e.trans e4, ?_, _, rfl⟩
                have es : isSplit (rows.map (·.2.2)) (.tuple (ns.map PyData.int)) = false := split_len _ _ (by rw [List.length_map, List.length_map]; omega)
                rw [es]
    · rintro σ' H' ⟨e, x8, rfl⟩
      have hd' := hd.ex e
      have fin : ∀ H2, Evl.Ex H' H2 → spLow [v] H2 (fun x_1 H1 => spWord [v] H1 (fun x_2 H1 => rIxT K x_2 (V.int 0) H1 fun x_3 H1 => scal x_3 (V.str "") = true ∧ 8 ≤ sizeLine ∧ ∀ (q : Addr), H1 q = none →
          Q (V.ref q) (upd H1 q (HO.tup [.bl (isInt d), V.bl (isNum d), x_1, V.bl (isLot n d), V.bl (isPurses n d), V.bl (isJoin n d), V.bl (decide (x_3 = V.str "")), V.bl (isSplit (rows.map (·.2.2)) d)]))) E0) E0 := by
        intro H2 e2
        refine ⟨p, d, v, rfl, hd'.ex e2, ?_⟩
        refine ⟨p, _, d, v, rfl, hd'.ex e2, fun c hc => ?_⟩
        have e3 := Evl.Ex.new (o := HO.tup [.str (lawW d).1, .int (lawW d).2]) hc
        have hc3 : upd H2 c (HO.tup [.str (lawW d).1, .int (lawW d).2]) c = some (.tup [.str (lawW d).1, .int (lawW d).2]) := upd_same
        generalize upd H2 c (HO.tup [.str (lawW d).1, .int (lawW d).2]) = H3 at *
        refine ⟨c, _, 0, _, rfl, rfl, SqT.of hc3, rfl, rfl, by decide, fun q hq => ?_⟩
        have ed : decide (V.str (lawW d).1 = V.str "") = isWeb d := by
          rw [← lawW_web]
          exact decide_eq_decide.mpr ⟨fun h => by injection h, fun h => by rw [h]⟩
        rw [ed]
        exact ret q _ (((e.trans e2).trans e3).trans (Evl.Ex.new hq)) upd_same
      simp only [tSeq, tAsg, gName, tRet, tRetN, tDrop, tIfS, tNext, tBreak, tCont, tTest, tB, tVar, tC, tCons, tNil, tCB, tCall, tCallK, tOp, tUn, rI0, rI, rU, rEq, rNe, tAnd, tOr, tNot, tAndV, tOrV, tNotV, tTup, tLst, tIf, gTup, gCons, gNil, tPar, tAug, ipI, gSub, L2.start, cxOf, Cx.nox, List.map_cons, List.map_nil, List.length_cons, List.length_nil, List.replicate, Nat.reduceAdd, Nat.reduceSub, List.cons_append, List.nil_append, List.append_nil, List.getElem?_cons_zero, List.getElem?_cons_succ, Option.some.injEq, V.int.injEq, V.bl.injEq, V.str.injEq, V.ref.injEq, V.ty.injEq, List.cons.injEq, and_true, true_and, exists_eq_left, exists_eq_left', exists_and_left, exists_and_right, decide_eq_true_eq, List.set_cons_zero, List.set_cons_succ, Bool.not_eq_true', decide_eq_false_iff_not, isi_NoneType_int, isi_NoneType_bool, isi_NoneType_tuple, isi_NoneType_str, isi_NoneType_list, isi_bool_int, isi_bool_bool, isi_bool_tuple, isi_bool_str, isi_bool_list, isi_int_int, isi_int_bool, isi_int_tuple, isi_int_str, isi_int_list, isi_str_int, isi_str_bool, isi_str_tuple, isi_str_str, isi_str_list, isi_list_int, isi_list_bool, isi_list_tuple, isi_list_str, isi_list_list, isi_tuple_int, isi_tuple_bool, isi_tuple_tuple, isi_tuple_str, isi_tuple_list, Bool.false_eq_true, if_true, if_false, reduceIte, Bool.not_true, Bool.not_false, reduceCtorEq, false_and, and_false, exists_false, exists_const, scal_int, scal_bl, scal_str, absE, ne_eq, not_true_eq_false, not_false_eq_true, Int.natCast_add, Int.cast_ofNat_Int, and_assoc, tChain3, tTupF, rTupOfF]
      refine ⟨_, _, rfl, hd'.kn, ?_⟩
      rw [hd'.isInt]
      cases hi : isInt d with
      | false =>
        simp only [tSeq, tAsg, gName, tRet, tRetN, tDrop, tIfS, tNext, tBreak, tCont, tTest, tB, tVar, tC, tCons, tNil, tCB, tCall, tCallK, tOp, tUn, rI0, rI, rU, rEq, rNe, tAnd, tOr, tNot, tAndV, tOrV, tNotV, tTup, tLst, tIf, gTup, gCons, gNil, tPar, tAug, ipI, gSub, L2.start, cxOf, Cx.nox, List.map_cons, List.map_nil, List.length_cons, List.length_nil, List.replicate, Nat.reduceAdd, Nat.reduceSub, List.cons_append, List.nil_append, List.append_nil, List.getElem?_cons_zero, List.getElem?_cons_succ, Option.some.injEq, V.int.injEq, V.bl.injEq, V.str.injEq, V.ref.injEq, V.ty.injEq, List.cons.injEq, and_true, true_and, exists_eq_left, exists_eq_left', exists_and_left, exists_and_right, decide_eq_true_eq, List.set_cons_zero, List.set_cons_succ, Bool.not_eq_true', decide_eq_false_iff_not, isi_NoneType_int, isi_NoneType_bool, isi_NoneType_tuple, isi_NoneType_str, isi_NoneType_list, isi_bool_int, isi_bool_bool, isi_bool_tuple, isi_bool_str, isi_bool_list, isi_int_int, isi_int_bool, isi_int_tuple, isi_int_str, isi_int_list, isi_str_int, isi_str_bool, isi_str_tuple, isi_str_str, isi_str_list, isi_list_int, isi_list_bool, isi_list_tuple, isi_list_str, isi_list_list, isi_tuple_int, isi_tuple_bool, isi_tuple_tuple, isi_tuple_str, isi_tuple_list, Bool.false_eq_true, if_true, if_false, reduceIte, Bool.not_true, Bool.not_false, reduceCtorEq, false_and, and_false, exists_false, exists_const, scal_int, scal_bl, scal_str, absE, ne_eq, not_true_eq_false, not_false_eq_true, Int.natCast_add, Int.cast_ofNat_Int, and_assoc, tChain3, tTupF, rTupOfF]
        refine ⟨_, _, rfl, hd'.kn, ?_⟩
        rw [hd'.isInt]
        have := fin H' (Evl.Ex.refl _)
        rw [num_of_int hi] at this
        exact this
      | true =>
        obtain ⟨z, rfl⟩ := isInt_int hi
        obtain ⟨rfl, _⟩ := id hd'
        simp only [tSeq, tAsg, gName, tRet, tRetN, tDrop, tIfS, tNext, tBreak, tCont, tTest, tB, tVar, tC, tCons, tNil, tCB, tCall, tCallK, tOp, tUn, rI0, rI, rU, rEq, rNe, tAnd, tOr, tNot, tAndV, tOrV, tNotV, tTup, tLst, tIf, gTup, gCons, gNil, tPar, tAug, ipI, gSub, L2.start, cxOf, Cx.nox, List.map_cons, List.map_nil, List.length_cons, List.length_nil, List.replicate, Nat.reduceAdd, Nat.reduceSub, List.cons_append, List.nil_append, List.append_nil, List.getElem?_cons_zero, List.getElem?_cons_succ, Option.some.injEq, V.int.injEq, V.bl.injEq, V.str.injEq, V.ref.injEq, V.ty.injEq, List.cons.injEq, and_true, true_and, exists_eq_left, exists_eq_left', exists_and_left, exists_and_right, decide_eq_true_eq, List.set_cons_zero, List.set_cons_succ, Bool.not_eq_true', decide_eq_false_iff_not, isi_NoneType_int, isi_NoneType_bool, isi_NoneType_tuple, isi_NoneType_str, isi_NoneType_list, isi_bool_int, isi_bool_bool, isi_bool_tuple, isi_bool_str, isi_bool_list, isi_int_int, isi_int_bool, isi_int_tuple, isi_int_str, isi_int_list, isi_str_int, isi_str_bool, isi_str_tuple, isi_str_str, isi_str_list, isi_list_int, isi_list_bool, isi_list_tuple, isi_list_str, isi_list_list, isi_tuple_int, isi_tuple_bool, isi_tuple_tuple, isi_tuple_str, isi_tuple_list, Bool.false_eq_true, if_true, if_false, reduceIte, Bool.not_true, Bool.not_false, reduceCtorEq, false_and, and_false, exists_false, exists_const, scal_int, scal_bl, scal_str, absE, ne_eq, not_true_eq_false, not_false_eq_true, Int.natCast_add, Int.cast_ofNat_Int, and_assoc, tChain3, tTupF, rTupOfF]
        refine ⟨_, _, rfl, .int _, ?_⟩
        exact fin H' (Evl.Ex.refl _)
end
end K00
end
section
set_option Elab.async false
set_option linter.all false
set_option maxRecDepth 100000
set_option maxHeartbeats 4000000
namespace K00
open PySem PySem.Spec PyProof.Rows L2 Pour
theorem swap2_two {us ws : List Value} (h : (swap2 us ws).length = 2) : ∃ x y, us = [] ∧ ws = [x, y] := by
  unfold swap2 at h
  split at h
  · exact ⟨_, _, rfl, rfl⟩
  · cases h
theorem one1_one {us ws : List Value} (h : (one1 us ws).length = 1) : ∃ x, us = [] ∧ ws = [x] := by
  unfold one1 at h
  split at h
  · exact ⟨_, rfl, rfl⟩
  · cases h
theorem er_nu {K : PySem.W.Frag} (N : NU K) : PySem.W.ErC K (nu K) := ⟨N.xf.ga, N.xf.gg, N.xf.exC, N.xf.hdC, N.ca, N.cg, N.ct, N.cm⟩
section
variable {P : Program} {w : World} {K : PySem.W.Frag} {mg : Str → Option Value} {base : Heap}
theorem kb_is_integer_thing {fd : FuncData} (F : FunD K d_s_is_integer.name d_s_is_integer.qual d_s_is_integer.params d_s_is_integer.body d_s_is_integer.scope [] [] (He.fAd K d_s_is_integer.at_) fd) : KBinds K fd ["thing"] ["thing"] one1 one1 :=
  kw_binds F one1_rel fun _ _ _ _ _ _ us ws hl => by
    obtain ⟨x, rfl, rfl⟩ := one1_one hl
    rfl
theorem kb_is_number_thing {fd : FuncData} (F : FunD K d_s_is_number.name d_s_is_number.qual d_s_is_number.params d_s_is_number.body d_s_is_number.scope [] [] (He.fAd K d_s_is_number.at_) fd) : KBinds K fd ["thing"] ["thing"] one1 one1 :=
  kw_binds F one1_rel fun _ _ _ _ _ _ us ws hl => by
    obtain ⟨x, rfl, rfl⟩ := one1_one hl
    rfl
theorem kb_is_quotient_thing {fd : FuncData} (F : FunD K d_s_is_quotient.name d_s_is_quotient.qual d_s_is_quotient.params d_s_is_quotient.body d_s_is_quotient.scope [] [] (He.fAd K d_s_is_quotient.at_) fd) : KBinds K fd ["thing"] ["thing"] one1 one1 :=
  kw_binds F one1_rel fun _ _ _ _ _ _ us ws hl => by
    obtain ⟨x, rfl, rfl⟩ := one1_one hl
    rfl
theorem kb_is_web_thing {fd : FuncData} (F : FunD K d_s_is_web.name d_s_is_web.qual d_s_is_web.params d_s_is_web.body d_s_is_web.scope [] [] (He.fAd K d_s_is_web.at_) fd) : KBinds K fd ["thing"] ["thing"] one1 one1 :=
  kw_binds F one1_rel fun _ _ _ _ _ _ us ws hl => by
    obtain ⟨x, rfl, rfl⟩ := one1_one hl
    rfl
theorem kb_lets_web_thing {fd : FuncData} (F : FunD K d_s_lets_web.name d_s_lets_web.qual d_s_lets_web.params d_s_lets_web.body d_s_lets_web.scope [] [] (He.fAd K d_s_lets_web.at_) fd) : KBinds K fd ["thing"] ["thing"] one1 one1 :=
  kw_binds F one1_rel fun _ _ _ _ _ _ us ws hl => by
    obtain ⟨x, rfl, rfl⟩ := one1_one hl
    rfl
theorem kb_is_lot_thing_size {fd : FuncData} (F : FunD K d_s_is_lot.name d_s_is_lot.qual d_s_is_lot.params d_s_is_lot.body d_s_is_lot.scope [] [] (He.fAd K d_s_is_lot.at_) fd) : KBinds K fd ["size", "thing"] ["thing", "size"] swap2 swap2 :=
  kw_binds F swap2_rel fun _ _ _ _ _ _ us ws hl => by
    obtain ⟨x, y, rfl, rfl⟩ := swap2_two hl
    rfl
theorem kb_is_purses_thing_size {fd : FuncData} (F : FunD K d_s_is_purses.name d_s_is_purses.qual d_s_is_purses.params d_s_is_purses.body d_s_is_purses.scope [] [] (He.fAd K d_s_is_purses.at_) fd) : KBinds K fd ["size", "thing"] ["thing", "size"] swap2 swap2 :=
  kw_binds F swap2_rel fun _ _ _ _ _ _ us ws hl => by
    obtain ⟨x, y, rfl, rfl⟩ := swap2_two hl
    rfl
theorem kb_is_joining_thing_many {fd : FuncData} (F : FunD K d_s_is_joining.name d_s_is_joining.qual d_s_is_joining.params d_s_is_joining.body d_s_is_joining.scope [] [] (He.fAd K d_s_is_joining.at_) fd) : KBinds K fd ["many", "thing"] ["thing", "many"] swap2 swap2 :=
  kw_binds F swap2_rel fun _ _ _ _ _ _ us ws hl => by
    obtain ⟨x, y, rfl, rfl⟩ := swap2_two hl
    rfl
theorem kb_is_split_thing_web {fd : FuncData} (F : FunD K d_s_is_split.name d_s_is_split.qual d_s_is_split.params d_s_is_split.body d_s_is_split.scope [] [] (He.fAd K d_s_is_split.at_) fd) : KBinds K fd ["web", "thing"] ["thing", "web"] swap2 swap2 :=
  kw_binds F swap2_rel fun _ _ _ _ _ _ us ws hl => by
    obtain ⟨x, y, rfl, rfl⟩ := swap2_two hl
    rfl
theorem netIs_ex {H H' : Hp} {v : V} {n : Int} {rows : List R3} (h : NetIs H v n rows) (e : Evl.Ex H H') : NetIs H' v n rows := by
  obtain ⟨a, l, rs, ev, h1, h2, h3, h4⟩ := h
  refine ⟨a, l, rs, ev, h1.ex e, h2.ex e, h3, fun i x hx => ?_⟩
  obtain ⟨t, t1, t2⟩ := h4 i x hx
  exact ⟨t, t1, t2.ex e⟩
def spToldV : Sp := fun vs H Q _ => ∃ (p : Addr → Prop) (q : Addr) (d : PyData) (v : V) (n m : Int) (b : Addr) (rows : List R3) (nm : Bool), vs = [v, .int n, .ref b, .bl nm] ∧ Dt p (2 ^ 197) H d v ∧ Net q H b m rows ∧
  ∀ a H', Evl.Ex H H' → H' a = some (.tup (dueV d n (rows.map (·.2.2)))) → Q (.ref a) H'
theorem ok__law_told (T : Txt K mg) : Keeps P w K mg base CX0 4 d_s__law_told ["_law_value", "_law_n", "_law_net_here", "_law_named"] spToldV := by
  obtain ⟨fd, F⟩ := f__law_told T
  obtain ⟨fd_is_integer, D_is_integer⟩ := ok_is_integer (P := P) (w := w) (base := base) T
  obtain ⟨fd_is_joining, D_is_joining⟩ := ok_is_joining (P := P) (w := w) (base := base) T
  obtain ⟨fd_is_lot, D_is_lot⟩ := ok_is_lot (P := P) (w := w) (base := base) T
  obtain ⟨fd_is_number, D_is_number⟩ := ok_is_number (P := P) (w := w) (base := base) T
  obtain ⟨fd_is_purses, D_is_purses⟩ := ok_is_purses (P := P) (w := w) (base := base) T
  obtain ⟨fd_is_quotient, D_is_quotient⟩ := ok_is_quotient (P := P) (w := w) (base := base) T
  obtain ⟨fd_is_split, D_is_split⟩ := ok_is_split (P := P) (w := w) (base := base) T
  obtain ⟨fd_is_web, D_is_web⟩ := ok_is_web (P := P) (w := w) (base := base) T
  refine ⟨fd, F, F.ok sc__law_told (fun vs H Q E h => ?_) (fun cdv A outer s H vs Q E hr h => ⟨_, PSs.nox
    (pss_cons (ps_if (pt_val (pv 3)) (pss_cons (ps_set (i := 4) sc__law_told.nd rfl (Or.inl rfl) (pe_tup (pa_cons (pe_callK0 D_is_integer.2 (hr.mono (by decide)) rfl (g_is_integer T) D_is_integer.1.kp (kb_is_integer_thing D_is_integer.1) pass0 (pk_cons (pv 0) pk_nil)) (pa_cons (pe_callK0 D_is_number.2 (hr.mono (by decide)) rfl (g_is_number T) D_is_number.1.kp (kb_is_number_thing D_is_number.1) pass0 (pk_cons (pv 0) pk_nil)) (pa_cons (pe_callK0 D_is_quotient.2 (hr.mono (by decide)) rfl (g_is_quotient T) D_is_quotient.1.kp (kb_is_quotient_thing D_is_quotient.1) pass0 (pk_cons (pv 0) pk_nil)) pa_nil)))))
      (pss_cons (ps_set (i := 5) sc__law_told.nd rfl (Or.inl rfl) (pe_tup (pa_cons (pe_callK0 D_is_lot.2 (hr.mono (by decide)) rfl (g_is_lot T) D_is_lot.1.kp (kb_is_lot_thing_size D_is_lot.1) pass0 (pk_cons (pv 0) (pk_cons (pv 1) pk_nil))) (pa_cons (pe_callK0 D_is_purses.2 (hr.mono (by decide)) rfl (g_is_purses T) D_is_purses.1.kp (kb_is_purses_thing_size D_is_purses.1) pass0 (pk_cons (pv 0) (pk_cons (pv 1) pk_nil))) (pa_cons (pe_callK0 D_is_joining.2 (hr.mono (by decide)) rfl (g_is_joining T) D_is_joining.1.kp (kb_is_joining_thing_many D_is_joining.1) pass0 (pk_cons (pv 0) (pk_cons (pv 1) pk_nil))) pa_nil)))))
      (pss_one (ps_ret (pe_op op_catT (pe_op op_catT (pv 4) (pv 5)) (pe_tup (pa_cons (pe_callK0 D_is_web.2 (hr.mono (by decide)) rfl (g_is_web T) D_is_web.1.kp (kb_is_web_thing D_is_web.1) pass0 (pk_cons (pv 0) pk_nil)) (pa_cons (pe_callK0 D_is_split.2 (hr.mono (by decide)) rfl (g_is_split T) D_is_split.1.kp (kb_is_split_thing_web D_is_split.1) pass0 (pk_cons (pv 0) (pk_cons (pv 2) pk_nil))) pa_nil)))))))) pss_nil)
      (pss_cons (ps_set (i := 4) sc__law_told.nd rfl (Or.inl rfl) (pe_tup (pa_cons (pe_call D_is_integer.2 (hr.mono (by decide)) rfl (g_is_integer T) D_is_integer.1.kp (b_is_integer D_is_integer.1) .nil pass0 (pa_cons (pv 0) pa_nil)) (pa_cons (pe_call D_is_number.2 (hr.mono (by decide)) rfl (g_is_number T) D_is_number.1.kp (b_is_number D_is_number.1) .nil pass0 (pa_cons (pv 0) pa_nil)) (pa_cons (pe_call D_is_quotient.2 (hr.mono (by decide)) rfl (g_is_quotient T) D_is_quotient.1.kp (b_is_quotient D_is_quotient.1) .nil pass0 (pa_cons (pv 0) pa_nil)) pa_nil)))))
      (pss_cons (ps_set (i := 5) sc__law_told.nd rfl (Or.inl rfl) (pe_tup (pa_cons (pe_call D_is_lot.2 (hr.mono (by decide)) rfl (g_is_lot T) D_is_lot.1.kp (b_is_lot D_is_lot.1) .nil pass0 (pa_cons (pv 1) (pa_cons (pv 0) pa_nil))) (pa_cons (pe_call D_is_purses.2 (hr.mono (by decide)) rfl (g_is_purses T) D_is_purses.1.kp (b_is_purses D_is_purses.1) .nil pass0 (pa_cons (pv 1) (pa_cons (pv 0) pa_nil))) (pa_cons (pe_call D_is_joining.2 (hr.mono (by decide)) rfl (g_is_joining T) D_is_joining.1.kp (b_is_joining D_is_joining.1) .nil pass0 (pa_cons (pv 1) (pa_cons (pv 0) pa_nil))) pa_nil)))))
      (pss_one (ps_ret (pe_op op_catT (pe_op op_catT (pv 4) (pv 5)) (pe_tup (pa_cons (pe_call D_is_web.2 (hr.mono (by decide)) rfl (g_is_web T) D_is_web.1.kp (b_is_web D_is_web.1) .nil pass0 (pa_cons (pv 0) pa_nil)) (pa_cons (pe_call D_is_split.2 (hr.mono (by decide)) rfl (g_is_split T) D_is_split.1.kp (b_is_split D_is_split.1) .nil pass0 (pa_cons (pv 2) (pa_cons (pv 0) pa_nil))) pa_nil))))))))), ?_⟩)⟩
  · obtain ⟨p, q', d, v, n, m, b, rows, nm, rfl, _⟩ := h
    rfl
  · obtain ⟨p, q', d, v, n, m, b, rows, nm, rfl, hd, N, ret⟩ := h
    simp only [tSeq, tAsg, gName, tRet, tRetN, tDrop, tIfS, tNext, tBreak, tCont, tTest, tB, tVar, tC, tCons, tNil, tCB, tCall, tCallK, tOp, tUn, rI0, rI, rU, rEq, rNe, tAnd, tOr, tNot, tAndV, tOrV, tNotV, tTup, tLst, tIf, gTup, gCons, gNil, tPar, tAug, ipI, gSub, L2.start, cxOf, Cx.nox, List.map_cons, List.map_nil, List.length_cons, List.length_nil, List.replicate, Nat.reduceAdd, Nat.reduceSub, List.cons_append, List.nil_append, List.append_nil, List.getElem?_cons_zero, List.getElem?_cons_succ, Option.some.injEq, V.int.injEq, V.bl.injEq, V.str.injEq, V.ref.injEq, V.ty.injEq, List.cons.injEq, and_true, true_and, exists_eq_left, exists_eq_left', exists_and_left, exists_and_right, decide_eq_true_eq, List.set_cons_zero, List.set_cons_succ, Bool.not_eq_true', decide_eq_false_iff_not, isi_NoneType_int, isi_NoneType_bool, isi_NoneType_tuple, isi_NoneType_str, isi_NoneType_list, isi_bool_int, isi_bool_bool, isi_bool_tuple, isi_bool_str, isi_bool_list, isi_int_int, isi_int_bool, isi_int_tuple, isi_int_str, isi_int_list, isi_str_int, isi_str_bool, isi_str_tuple, isi_str_str, isi_str_list, isi_list_int, isi_list_bool, isi_list_tuple, isi_list_str, isi_list_list, isi_tuple_int, isi_tuple_bool, isi_tuple_tuple, isi_tuple_str, isi_tuple_list, Bool.false_eq_true, if_true, if_false, reduceIte, Bool.not_true, Bool.not_false, reduceCtorEq, false_and, and_false, exists_false, exists_const, scal_int, scal_bl, scal_str, absE, ne_eq, not_true_eq_false, not_false_eq_true, Int.natCast_add, Int.cast_ofNat_Int, and_assoc, tChain3, tTupF, rTupOfF, tCallK, rCatT]
    cases nm
    all_goals
      simp only [tSeq, tAsg, gName, tRet, tRetN, tDrop, tIfS, tNext, tBreak, tCont, tTest, tB, tVar, tC, tCons, tNil, tCB, tCall, tCallK, tOp, tUn, rI0, rI, rU, rEq, rNe, tAnd, tOr, tNot, tAndV, tOrV, tNotV, tTup, tLst, tIf, gTup, gCons, gNil, tPar, tAug, ipI, gSub, L2.start, cxOf, Cx.nox, List.map_cons, List.map_nil, List.length_cons, List.length_nil, List.replicate, Nat.reduceAdd, Nat.reduceSub, List.cons_append, List.nil_append, List.append_nil, List.getElem?_cons_zero, List.getElem?_cons_succ, Option.some.injEq, V.int.injEq, V.bl.injEq, V.str.injEq, V.ref.injEq, V.ty.injEq, List.cons.injEq, and_true, true_and, exists_eq_left, exists_eq_left', exists_and_left, exists_and_right, decide_eq_true_eq, List.set_cons_zero, List.set_cons_succ, Bool.not_eq_true', decide_eq_false_iff_not, isi_NoneType_int, isi_NoneType_bool, isi_NoneType_tuple, isi_NoneType_str, isi_NoneType_list, isi_bool_int, isi_bool_bool, isi_bool_tuple, isi_bool_str, isi_bool_list, isi_int_int, isi_int_bool, isi_int_tuple, isi_int_str, isi_int_list, isi_str_int, isi_str_bool, isi_str_tuple, isi_str_str, isi_str_list, isi_list_int, isi_list_bool, isi_list_tuple, isi_list_str, isi_list_list, isi_tuple_int, isi_tuple_bool, isi_tuple_tuple, isi_tuple_str, isi_tuple_list, Bool.false_eq_true, if_true, if_false, reduceIte, Bool.not_true, Bool.not_false, reduceCtorEq, false_and, and_false, exists_false, exists_const, scal_int, scal_bl, scal_str, absE, ne_eq, not_true_eq_false, not_false_eq_true, Int.natCast_add, Int.cast_ofNat_Int, and_assoc, tChain3, tTupF, rTupOfF]
      refine ⟨v, _, rfl, hd.kn, ?_⟩
      rw [hd.isInt]
      refine ⟨v, _, rfl, hd.kn, ?_⟩
      rw [hd.isNum]
      refine ⟨p, _, d, v, rfl, hd, ?_⟩
      refine ⟨by decide, fun t1 h1 => ?_⟩
      have e1 := Evl.Ex.new (o := HO.tup [V.bl (isInt d), V.bl (isNum d), V.bl (isQuot d)]) h1
      have a1 : upd H t1 (HO.tup [V.bl (isInt d), V.bl (isNum d), V.bl (isQuot d)]) t1 = some (.tup [V.bl (isInt d), V.bl (isNum d), V.bl (isQuot d)]) := upd_same
      generalize upd H t1 (HO.tup [V.bl (isInt d), V.bl (isNum d), V.bl (isQuot d)]) = H1 at *
      refine ⟨p, _, d, v, n, rfl, hd.ex e1, ?_⟩
      refine ⟨p, _, d, v, n, rfl, hd.ex e1, ?_⟩
      refine ⟨p, _, d, v, n, rfl, hd.ex e1, fun H2 e2 => ?_⟩
      refine ⟨by decide, fun t2 h2 => ?_⟩
      have e3 := Evl.Ex.new (o := HO.tup [V.bl (isLot n d), V.bl (isPurses n d), V.bl (isJoin n d)]) h2
      have a2 : upd H2 t2 (HO.tup [V.bl (isLot n d), V.bl (isPurses n d), V.bl (isJoin n d)]) t2 = some (.tup [V.bl (isLot n d), V.bl (isPurses n d), V.bl (isJoin n d)]) := upd_same
      generalize upd H2 t2 (HO.tup [V.bl (isLot n d), V.bl (isPurses n d), V.bl (isJoin n d)]) = H3 at *
      refine ⟨_, SqT.of (e3 _ _ (e2 _ _ a1)), _, SqT.of a2, by simp, by show 6 ≤ sizeLine; decide, fun h => absurd h (by simp), fun _ t3 h3 => ?_⟩
      have e4 := Evl.Ex.new (o := HO.tup ([V.bl (isInt d), V.bl (isNum d), V.bl (isQuot d)] ++ [V.bl (isLot n d), V.bl (isPurses n d), V.bl (isJoin n d)])) h3
      have a3 : upd H3 t3 (HO.tup ([V.bl (isInt d), V.bl (isNum d), V.bl (isQuot d)] ++ [V.bl (isLot n d), V.bl (isPurses n d), V.bl (isJoin n d)])) t3 = some (.tup [V.bl (isInt d), V.bl (isNum d), V.bl (isQuot d), V.bl (isLot n d), V.bl (isPurses n d), V.bl (isJoin n d)]) := upd_same
      generalize upd H3 t3 (HO.tup ([V.bl (isInt d), V.bl (isNum d), V.bl (isQuot d)] ++ [V.bl (isLot n d), V.bl (isPurses n d), V.bl (isJoin n d)])) = H4 at *
      have e04 := ((e1.trans e2).trans e3).trans e4
      refine ⟨p, _, d, v, rfl, hd.ex e04, ?_⟩
      have ni := (netIs_ex N.netIs e04)
      refine ⟨p, _, d, .ref b, v, m, rows, rfl, ni, hd.ex e04, fun H5 e5 => ?_⟩
      refine ⟨by decide, fun t4 h4 => ?_⟩
      have e6 := Evl.Ex.new (o := HO.tup [V.bl (isWeb d), V.bl (isSplit (rows.map (·.2.2)) d)]) h4
      have a4 : upd H5 t4 (HO.tup [V.bl (isWeb d), V.bl (isSplit (rows.map (·.2.2)) d)]) t4 = some (.tup [V.bl (isWeb d), V.bl (isSplit (rows.map (·.2.2)) d)]) := upd_same
      generalize upd H5 t4 (HO.tup [V.bl (isWeb d), V.bl (isSplit (rows.map (·.2.2)) d)]) = H6 at *
      refine ⟨_, SqT.of (e6 _ _ (e5 _ _ a3)), _, SqT.of a4, by simp, by show 8 ≤ sizeLine; decide, fun h => absurd h (by simp), fun _ t5 h5 => ?_⟩
      exact ret t5 _ (((e04.trans e5).trans e6).trans (Evl.Ex.new h5)) upd_same
def heardV (d : PyData) : List V := match word d with
  | none => [.str "yes", .int (cnt d)]
  | some (s, i) => [.str "no", .str s, .int i, .bl true]
def spHeard : Sp := fun vs H Q _ => ∃ (p : Addr → Prop) (B : Int) (d : PyData) (v : V) (nm : Bool), vs = [v, .bl nm] ∧ Dt p B H d v ∧ ∀ a H', Evl.Ex H H' → H' a = some (.tup (heardV d)) → Q (.ref a) H'
theorem ok__law_heard (T : Txt K mg) : Keeps P w K mg base CX0 4 d_s__law_heard ["_law_value", "_law_named"] spHeard := by
  obtain ⟨fd, F⟩ := f__law_heard T
  obtain ⟨fd_lets_web, D_lets_web⟩ := ok_lets_web (P := P) (w := w) (base := base) T
  refine ⟨fd, F, F.ok sc__law_heard (fun vs H Q E h => ?_) (fun cdv A outer s H vs Q E hr h => ⟨_,
    (pss_one (ps_try_as (i := 2) rfl rfl sc__law_heard.nd rfl rfl ⟨rfl, by decide, .inl (g_InvalidPaper T)⟩ takes0 (fun W pn xe tk _ => (pss_cons (ps_if (pt_val (pv 1)) (pss_one (ps_ret (pe_tup (pa_cons pe_str (pa_cons (by exact (pe_callKS D_lets_web.2 (hr.mono (by decide)) rfl (g_lets_web T) D_lets_web.1.kp (kb_lets_web_thing D_lets_web.1) (fun σ => passAt tk σ) (pk_cons (pv 0) pk_nil))) pa_nil))))) pss_nil)
      (pss_one (ps_ret (pe_tup (pa_cons pe_str (pa_cons (by exact (pe_callS D_lets_web.2 (hr.mono (by decide)) rfl (g_lets_web T) D_lets_web.1.kp (b_lets_web D_lets_web.1) (fun σ => passAt tk σ) (pa_cons (pv 0) pa_nil))) pa_nil))))))) (fun a oe cls d pn hz hf => (pss_cons (ps_set (i := 3) sc__law_heard.nd rfl (Or.inl rfl) (pe_and (pe_callB (call_isED (er_nu T.nu) hz hf) rfl (n_isinstance T) (by decide +kernel) (pa_cons (pv 2) (pa_cons (pe_glob (v := .ref (He.ga K "PaperError")) rfl (g_PaperError T) rfl) pa_nil))) (pe_and (pe_callB (call_isED (er_nu T.nu) hz hf) rfl (n_isinstance T) (by decide +kernel) (pa_cons (pv 2) (pa_cons (pe_glob (v := .ref (He.ga K "LedError")) rfl (g_LedError T) rfl) pa_nil))) (pe_one (pe_callB (call_isED (er_nu T.nu) hz hf) rfl (n_isinstance T) (by decide +kernel) (pa_cons (pv 2) (pa_cons (pe_bltn (v := .ty "ValueError") rfl (n_ValueError T) (by decide +kernel) rfl) pa_nil)))))))
      (pss_one (ps_ret (pe_tup (pa_cons pe_str (pa_cons (pe_xf T.nu.xf T.nu.noW hz hf (pv 2)) (pa_cons (pe_xf T.nu.xf T.nu.noA hz hf (pv 2)) (pa_cons (pe_and (pv 3) (pe_one (pe_not (pe_callB (call_isED (er_nu T.nu) hz hf) rfl (n_isinstance T) (by decide +kernel) (pa_cons (pv 2) (pa_cons (pe_glob (v := .ref (He.ga K "WebError")) rfl (g_WebError T) rfl) pa_nil)))))) pa_nil))))))))))), ?_⟩)⟩
  · obtain ⟨p, B, d, v, nm, rfl, _⟩ := h
    rfl
  · obtain ⟨p, B, d, v, nm, rfl, hd, ret⟩ := h
    cases nm
    all_goals
      simp only [tSeq, tAsg, gName, tRet, tRetN, tDrop, tIfS, tNext, tBreak, tCont, tTest, tB, tVar, tC, tCons, tNil, tCB, tCall, tCallK, tOp, tUn, rI0, rI, rU, rEq, rNe, tAnd, tOr, tNot, tAndV, tOrV, tNotV, tTup, tLst, tIf, gTup, gCons, gNil, tPar, tAug, ipI, gSub, L2.start, cxOf, Cx.nox, List.map_cons, List.map_nil, List.length_cons, List.length_nil, List.replicate, Nat.reduceAdd, Nat.reduceSub, List.cons_append, List.nil_append, List.append_nil, List.getElem?_cons_zero, List.getElem?_cons_succ, Option.some.injEq, V.int.injEq, V.bl.injEq, V.str.injEq, V.ref.injEq, V.ty.injEq, List.cons.injEq, and_true, true_and, exists_eq_left, exists_eq_left', exists_and_left, exists_and_right, decide_eq_true_eq, List.set_cons_zero, List.set_cons_succ, Bool.not_eq_true', decide_eq_false_iff_not, isi_NoneType_int, isi_NoneType_bool, isi_NoneType_tuple, isi_NoneType_str, isi_NoneType_list, isi_bool_int, isi_bool_bool, isi_bool_tuple, isi_bool_str, isi_bool_list, isi_int_int, isi_int_bool, isi_int_tuple, isi_int_str, isi_int_list, isi_str_int, isi_str_bool, isi_str_tuple, isi_str_str, isi_str_list, isi_list_int, isi_list_bool, isi_list_tuple, isi_list_str, isi_list_list, isi_tuple_int, isi_tuple_bool, isi_tuple_tuple, isi_tuple_str, isi_tuple_list, Bool.false_eq_true, if_true, if_false, reduceIte, Bool.not_true, Bool.not_false, reduceCtorEq, false_and, and_false, exists_false, exists_const, scal_int, scal_bl, scal_str, absE, ne_eq, not_true_eq_false, not_false_eq_true, Int.natCast_add, Int.cast_ofNat_Int, and_assoc, tChain3, tTupF, rTupOfF, tCallS, tCallKS]
      refine ⟨p, B, d, v, rfl, hd, fun hw H1 e1 => ⟨by decide, fun a ha => ret a _ (e1.trans (Evl.Ex.new ha)) ?_⟩, fun s0 i0 hw H1 e e1 he => ?_⟩
      · rw [upd_same]
        unfold heardV
        rw [hw]
      have e2 := Evl.Ex.new (o := nuD (.str s0) (.int i0)) he
      have he2 : upd H1 e (nuD (.str s0) (.int i0)) e = some (nuD (.str s0) (.int i0)) := upd_same
      generalize upd H1 e (nuD (.str s0) (.int i0)) = H2 at *
      have hv : heardV d = [.str "no", .str s0, .int i0, .bl true] := by
        unfold heardV
        rw [hw]
      refine ⟨true, T.nu.exm, fun _ a ha => ?_, fun q => Bool.noConfusion q⟩
      simp only [tSeq, tAsg, gName, tRet, tRetN, tDrop, tIfS, tNext, tBreak, tCont, tTest, tB, tVar, tC, tCons, tNil, tCB, tCall, tCallK, tOp, tUn, rI0, rI, rU, rEq, rNe, tAnd, tOr, tNot, tAndV, tOrV, tNotV, tTup, tLst, tIf, gTup, gCons, gNil, tPar, tAug, ipI, gSub, L2.start, cxOf, Cx.nox, List.map_cons, List.map_nil, List.length_cons, List.length_nil, List.replicate, Nat.reduceAdd, Nat.reduceSub, List.cons_append, List.nil_append, List.append_nil, List.getElem?_cons_zero, List.getElem?_cons_succ, Option.some.injEq, V.int.injEq, V.bl.injEq, V.str.injEq, V.ref.injEq, V.ty.injEq, List.cons.injEq, and_true, true_and, exists_eq_left, exists_eq_left', exists_and_left, exists_and_right, decide_eq_true_eq, List.set_cons_zero, List.set_cons_succ, Bool.not_eq_true', decide_eq_false_iff_not, isi_NoneType_int, isi_NoneType_bool, isi_NoneType_tuple, isi_NoneType_str, isi_NoneType_list, isi_bool_int, isi_bool_bool, isi_bool_tuple, isi_bool_str, isi_bool_list, isi_int_int, isi_int_bool, isi_int_tuple, isi_int_str, isi_int_list, isi_str_int, isi_str_bool, isi_str_tuple, isi_str_str, isi_str_list, isi_list_int, isi_list_bool, isi_list_tuple, isi_list_str, isi_list_list, isi_tuple_int, isi_tuple_bool, isi_tuple_tuple, isi_tuple_str, isi_tuple_list, Bool.false_eq_true, if_true, if_false, reduceIte, Bool.not_true, Bool.not_false, reduceCtorEq, false_and, and_false, exists_false, exists_const, scal_int, scal_bl, scal_str, absE, ne_eq, not_true_eq_false, not_false_eq_true, Int.natCast_add, Int.cast_ofNat_Int, and_assoc, tChain3, tTupF, rTupOfF, tXf, rIsED]
      refine ⟨⟨_, he2⟩, .ref (He.ga K "PaperError"), fun u r => r, true, T.nu.kit1, ?_⟩
      simp only [tSeq, tAsg, gName, tRet, tRetN, tDrop, tIfS, tNext, tBreak, tCont, tTest, tB, tVar, tC, tCons, tNil, tCB, tCall, tCallK, tOp, tUn, rI0, rI, rU, rEq, rNe, tAnd, tOr, tNot, tAndV, tOrV, tNotV, tTup, tLst, tIf, gTup, gCons, gNil, tPar, tAug, ipI, gSub, L2.start, cxOf, Cx.nox, List.map_cons, List.map_nil, List.length_cons, List.length_nil, List.replicate, Nat.reduceAdd, Nat.reduceSub, List.cons_append, List.nil_append, List.append_nil, List.getElem?_cons_zero, List.getElem?_cons_succ, Option.some.injEq, V.int.injEq, V.bl.injEq, V.str.injEq, V.ref.injEq, V.ty.injEq, List.cons.injEq, and_true, true_and, exists_eq_left, exists_eq_left', exists_and_left, exists_and_right, decide_eq_true_eq, List.set_cons_zero, List.set_cons_succ, Bool.not_eq_true', decide_eq_false_iff_not, isi_NoneType_int, isi_NoneType_bool, isi_NoneType_tuple, isi_NoneType_str, isi_NoneType_list, isi_bool_int, isi_bool_bool, isi_bool_tuple, isi_bool_str, isi_bool_list, isi_int_int, isi_int_bool, isi_int_tuple, isi_int_str, isi_int_list, isi_str_int, isi_str_bool, isi_str_tuple, isi_str_str, isi_str_list, isi_list_int, isi_list_bool, isi_list_tuple, isi_list_str, isi_list_list, isi_tuple_int, isi_tuple_bool, isi_tuple_tuple, isi_tuple_str, isi_tuple_list, Bool.false_eq_true, if_true, if_false, reduceIte, Bool.not_true, Bool.not_false, reduceCtorEq, false_and, and_false, exists_false, exists_const, scal_int, scal_bl, scal_str, absE, ne_eq, not_true_eq_false, not_false_eq_true, Int.natCast_add, Int.cast_ofNat_Int, and_assoc, tChain3, tTupF, rTupOfF]
      refine ⟨⟨_, he2⟩, .ref (He.ga K "LedError"), fun u r => r, true, T.nu.kit2, ?_⟩
      simp only [tSeq, tAsg, gName, tRet, tRetN, tDrop, tIfS, tNext, tBreak, tCont, tTest, tB, tVar, tC, tCons, tNil, tCB, tCall, tCallK, tOp, tUn, rI0, rI, rU, rEq, rNe, tAnd, tOr, tNot, tAndV, tOrV, tNotV, tTup, tLst, tIf, gTup, gCons, gNil, tPar, tAug, ipI, gSub, L2.start, cxOf, Cx.nox, List.map_cons, List.map_nil, List.length_cons, List.length_nil, List.replicate, Nat.reduceAdd, Nat.reduceSub, List.cons_append, List.nil_append, List.append_nil, List.getElem?_cons_zero, List.getElem?_cons_succ, Option.some.injEq, V.int.injEq, V.bl.injEq, V.str.injEq, V.ref.injEq, V.ty.injEq, List.cons.injEq, and_true, true_and, exists_eq_left, exists_eq_left', exists_and_left, exists_and_right, decide_eq_true_eq, List.set_cons_zero, List.set_cons_succ, Bool.not_eq_true', decide_eq_false_iff_not, isi_NoneType_int, isi_NoneType_bool, isi_NoneType_tuple, isi_NoneType_str, isi_NoneType_list, isi_bool_int, isi_bool_bool, isi_bool_tuple, isi_bool_str, isi_bool_list, isi_int_int, isi_int_bool, isi_int_tuple, isi_int_str, isi_int_list, isi_str_int, isi_str_bool, isi_str_tuple, isi_str_str, isi_str_list, isi_list_int, isi_list_bool, isi_list_tuple, isi_list_str, isi_list_list, isi_tuple_int, isi_tuple_bool, isi_tuple_tuple, isi_tuple_str, isi_tuple_list, Bool.false_eq_true, if_true, if_false, reduceIte, Bool.not_true, Bool.not_false, reduceCtorEq, false_and, and_false, exists_false, exists_const, scal_int, scal_bl, scal_str, absE, ne_eq, not_true_eq_false, not_false_eq_true, Int.natCast_add, Int.cast_ofNat_Int, and_assoc, tChain3, tTupF, rTupOfF]
      refine ⟨⟨_, he2⟩, .type "ValueError", fun u r => r, true, T.nu.kit3, ?_⟩
      refine ⟨_, he2, _, rfl, _, he2, _, rfl, ?_⟩
      simp only [tSeq, tAsg, gName, tRet, tRetN, tDrop, tIfS, tNext, tBreak, tCont, tTest, tB, tVar, tC, tCons, tNil, tCB, tCall, tCallK, tOp, tUn, rI0, rI, rU, rEq, rNe, tAnd, tOr, tNot, tAndV, tOrV, tNotV, tTup, tLst, tIf, gTup, gCons, gNil, tPar, tAug, ipI, gSub, L2.start, cxOf, Cx.nox, List.map_cons, List.map_nil, List.length_cons, List.length_nil, List.replicate, Nat.reduceAdd, Nat.reduceSub, List.cons_append, List.nil_append, List.append_nil, List.getElem?_cons_zero, List.getElem?_cons_succ, Option.some.injEq, V.int.injEq, V.bl.injEq, V.str.injEq, V.ref.injEq, V.ty.injEq, List.cons.injEq, and_true, true_and, exists_eq_left, exists_eq_left', exists_and_left, exists_and_right, decide_eq_true_eq, List.set_cons_zero, List.set_cons_succ, Bool.not_eq_true', decide_eq_false_iff_not, isi_NoneType_int, isi_NoneType_bool, isi_NoneType_tuple, isi_NoneType_str, isi_NoneType_list, isi_bool_int, isi_bool_bool, isi_bool_tuple, isi_bool_str, isi_bool_list, isi_int_int, isi_int_bool, isi_int_tuple, isi_int_str, isi_int_list, isi_str_int, isi_str_bool, isi_str_tuple, isi_str_str, isi_str_list, isi_list_int, isi_list_bool, isi_list_tuple, isi_list_str, isi_list_list, isi_tuple_int, isi_tuple_bool, isi_tuple_tuple, isi_tuple_str, isi_tuple_list, Bool.false_eq_true, if_true, if_false, reduceIte, Bool.not_true, Bool.not_false, reduceCtorEq, false_and, and_false, exists_false, exists_const, scal_int, scal_bl, scal_str, absE, ne_eq, not_true_eq_false, not_false_eq_true, Int.natCast_add, Int.cast_ofNat_Int, and_assoc, tChain3, tTupF, rTupOfF]
      refine ⟨⟨_, he2⟩, .ref (He.ga K "WebError"), fun u r => r, false, T.nu.kit4, ?_⟩
      simp only [tSeq, tAsg, gName, tRet, tRetN, tDrop, tIfS, tNext, tBreak, tCont, tTest, tB, tVar, tC, tCons, tNil, tCB, tCall, tCallK, tOp, tUn, rI0, rI, rU, rEq, rNe, tAnd, tOr, tNot, tAndV, tOrV, tNotV, tTup, tLst, tIf, gTup, gCons, gNil, tPar, tAug, ipI, gSub, L2.start, cxOf, Cx.nox, List.map_cons, List.map_nil, List.length_cons, List.length_nil, List.replicate, Nat.reduceAdd, Nat.reduceSub, List.cons_append, List.nil_append, List.append_nil, List.getElem?_cons_zero, List.getElem?_cons_succ, Option.some.injEq, V.int.injEq, V.bl.injEq, V.str.injEq, V.ref.injEq, V.ty.injEq, List.cons.injEq, and_true, true_and, exists_eq_left, exists_eq_left', exists_and_left, exists_and_right, decide_eq_true_eq, List.set_cons_zero, List.set_cons_succ, Bool.not_eq_true', decide_eq_false_iff_not, isi_NoneType_int, isi_NoneType_bool, isi_NoneType_tuple, isi_NoneType_str, isi_NoneType_list, isi_bool_int, isi_bool_bool, isi_bool_tuple, isi_bool_str, isi_bool_list, isi_int_int, isi_int_bool, isi_int_tuple, isi_int_str, isi_int_list, isi_str_int, isi_str_bool, isi_str_tuple, isi_str_str, isi_str_list, isi_list_int, isi_list_bool, isi_list_tuple, isi_list_str, isi_list_list, isi_tuple_int, isi_tuple_bool, isi_tuple_tuple, isi_tuple_str, isi_tuple_list, Bool.false_eq_true, if_true, if_false, reduceIte, Bool.not_true, Bool.not_false, reduceCtorEq, false_and, and_false, exists_false, exists_const, scal_int, scal_bl, scal_str, absE, ne_eq, not_true_eq_false, not_false_eq_true, Int.natCast_add, Int.cast_ofNat_Int, and_assoc, tChain3, tTupF, rTupOfF]
      refine ⟨by decide, fun q hq => ret q _ ((e1.trans e2).trans (Evl.Ex.new hq)) ?_⟩
      rw [upd_same, hv]
end
end K00
end
section
set_option Elab.async false
set_option linter.all false
set_option maxRecDepth 100000
set_option maxHeartbeats 4000000
namespace K00
open PySem PySem.Spec PyProof.Rows L2 Pour
theorem sm_flat {H : Hp} {p q : Addr} {d : Nat} {xs : List V} (hz : xs.length ≤ 12) (hp : H p = some (.tup xs)) (hq : H q = some (.tup xs)) (h : ∀ x ∈ xs, (∃ i, x = .int i) ∨ (∃ s, x = .str s) ∨ ∃ b, x = .bl b) : Sm H (d + 2) (.ref p) (.ref q) := by
  refine .tup hp hq rfl hz fun i x y hx hy => ?_
  rw [hx] at hy
  cases hy
  rcases h x (List.mem_of_getElem? hx) with ⟨i, rfl⟩ | ⟨s, rfl⟩ | ⟨b, rfl⟩
  · exact .int
  · exact .str
  · exact .bl
theorem word_none {d : PyData} (h : (lawW d).1 = ("" : Str)) : word d = none := by
  unfold lawW at h
  cases e : word d with
  | none => rfl
  | some x =>
    obtain ⟨s, i⟩ := x
    rw [e] at h
    exact absurd h (word_ne d s i e)
theorem word_some {d : PyData} (h : ¬ (lawW d).1 = ("" : Str)) : word d = some ((lawW d).1, (lawW d).2) := by
  unfold lawW at h ⊢
  cases e : word d with
  | none =>
    rw [e] at h
    exact absurd rfl h
  | some x =>
    obtain ⟨s, i⟩ := x
    rfl
section
variable {P : Program} {w : World} {K : PySem.W.Frag} {mg : Str → Option Value} {base : Heap}
def spChecked : Sp := fun vs H Q _ => ∃ (p : Addr → Prop) (B : Int) (d : PyData) (v : V) (nm : Bool), vs = [v, .bl nm] ∧ Dt p B H d v ∧ ∀ H', Evl.Ex H H' → Q (.bl true) H'
theorem ok__law_checked (T : Txt K mg) : Keeps P w K mg base CX0 7 d_s__law_checked ["_law_value", "_law_named"] spChecked := by
  obtain ⟨fd, F⟩ := f__law_checked T
  obtain ⟨fd__law_heard, D__law_heard⟩ := ok__law_heard (P := P) (w := w) (base := base) T
  obtain ⟨fd__law_same, D__law_same⟩ := ok__law_same (P := P) (w := w) (base := base) T
  obtain ⟨fd__law_word, D__law_word⟩ := ok__law_word (P := P) (w := w) (base := base) T
  refine ⟨fd, F, F.ok sc__law_checked (fun vs H Q E h => ?_) (fun cdv A outer s H vs Q E hr h => ⟨_, PSs.nox
    (pss_cons (ps_set (i := 2) sc__law_checked.nd rfl (Or.inl rfl) (pe_call D__law_word.2 (hr.mono (by decide)) rfl (g__law_word T) D__law_word.1.kp (b__law_word D__law_word.1) .nil pass0 (pa_cons (pv 0) pa_nil)))
      (pss_cons (ps_if (pt_cmpR op_eq (pe_ix ix_tup (pv 2) pe_int (fun _ _ => rfl)) pe_str (nomark _)) (pss_one (ps_ret (pe_call D__law_same.2 (hr.mono (by omega)) rfl (g__law_same T) D__law_same.1.kp (b__law_same D__law_same.1) .nil pass0 (pa_cons (pe_call D__law_heard.2 (hr.mono (by decide)) rfl (g__law_heard T) D__law_heard.1.kp (b__law_heard D__law_heard.1) .nil pass0 (pa_cons (pv 0) (pa_cons (pv 1) pa_nil))) (pa_cons (pe_tup (pa_cons pe_str (pa_cons (pe_ix ix_tup (pv 2) pe_int (fun _ _ => rfl)) pa_nil))) pa_nil))))) pss_nil)
      (pss_one (ps_ret (pe_call D__law_same.2 (hr.mono (by omega)) rfl (g__law_same T) D__law_same.1.kp (b__law_same D__law_same.1) .nil pass0 (pa_cons (pe_call D__law_heard.2 (hr.mono (by decide)) rfl (g__law_heard T) D__law_heard.1.kp (b__law_heard D__law_heard.1) .nil pass0 (pa_cons (pv 0) (pa_cons (pv 1) pa_nil))) (pa_cons (pe_tup (pa_cons pe_str (pa_cons (pe_ix ix_tup (pv 2) pe_int (fun _ _ => rfl)) (pa_cons (pe_ix ix_tup (pv 2) pe_int (fun _ _ => rfl)) (pa_cons pe_bl pa_nil))))) pa_nil))))))), ?_⟩)⟩
  · obtain ⟨p, B, d, v, nm, rfl, _⟩ := h
    rfl
  · obtain ⟨p, B, d, v, nm, rfl, hd, ret⟩ := h
    simp only [tSeq, tAsg, gName, tRet, tRetN, tDrop, tIfS, tNext, tBreak, tCont, tTest, tB, tVar, tC, tCons, tNil, tCB, tCall, tCallK, tOp, tUn, rI0, rI, rU, rEq, rNe, tAnd, tOr, tNot, tAndV, tOrV, tNotV, tTup, tLst, tIf, gTup, gCons, gNil, tPar, tAug, ipI, gSub, L2.start, cxOf, Cx.nox, List.map_cons, List.map_nil, List.length_cons, List.length_nil, List.replicate, Nat.reduceAdd, Nat.reduceSub, List.cons_append, List.nil_append, List.append_nil, List.getElem?_cons_zero, List.getElem?_cons_succ, Option.some.injEq, V.int.injEq, V.bl.injEq, V.str.injEq, V.ref.injEq, V.ty.injEq, List.cons.injEq, and_true, true_and, exists_eq_left, exists_eq_left', exists_and_left, exists_and_right, decide_eq_true_eq, List.set_cons_zero, List.set_cons_succ, Bool.not_eq_true', decide_eq_false_iff_not, isi_NoneType_int, isi_NoneType_bool, isi_NoneType_tuple, isi_NoneType_str, isi_NoneType_list, isi_bool_int, isi_bool_bool, isi_bool_tuple, isi_bool_str, isi_bool_list, isi_int_int, isi_int_bool, isi_int_tuple, isi_int_str, isi_int_list, isi_str_int, isi_str_bool, isi_str_tuple, isi_str_str, isi_str_list, isi_list_int, isi_list_bool, isi_list_tuple, isi_list_str, isi_list_list, isi_tuple_int, isi_tuple_bool, isi_tuple_tuple, isi_tuple_str, isi_tuple_list, Bool.false_eq_true, if_true, if_false, reduceIte, Bool.not_true, Bool.not_false, reduceCtorEq, false_and, and_false, exists_false, exists_const, scal_int, scal_bl, scal_str, absE, ne_eq, not_true_eq_false, not_false_eq_true, Int.natCast_add, Int.cast_ofNat_Int, and_assoc, tChain3, tTupF, rTupOfF, rIxT]
    refine ⟨p, B, d, v, rfl, hd, fun a ha => ?_⟩
    have e1 := Evl.Ex.new (o := HO.tup [.str (lawW d).1, .int (lawW d).2]) ha
    have ha1 : upd H a (HO.tup [.str (lawW d).1, .int (lawW d).2]) a = some (.tup [.str (lawW d).1, .int (lawW d).2]) := upd_same
    generalize upd H a (HO.tup [.str (lawW d).1, .int (lawW d).2]) = H1 at *
    have sq1 := SqT.of (K := K) ha1
    simp only [tSeq, tAsg, gName, tRet, tRetN, tDrop, tIfS, tNext, tBreak, tCont, tTest, tB, tVar, tC, tCons, tNil, tCB, tCall, tCallK, tOp, tUn, rI0, rI, rU, rEq, rNe, tAnd, tOr, tNot, tAndV, tOrV, tNotV, tTup, tLst, tIf, gTup, gCons, gNil, tPar, tAug, ipI, gSub, L2.start, cxOf, Cx.nox, List.map_cons, List.map_nil, List.length_cons, List.length_nil, List.replicate, Nat.reduceAdd, Nat.reduceSub, List.cons_append, List.nil_append, List.append_nil, List.getElem?_cons_zero, List.getElem?_cons_succ, Option.some.injEq, V.int.injEq, V.bl.injEq, V.str.injEq, V.ref.injEq, V.ty.injEq, List.cons.injEq, and_true, true_and, exists_eq_left, exists_eq_left', exists_and_left, exists_and_right, decide_eq_true_eq, List.set_cons_zero, List.set_cons_succ, Bool.not_eq_true', decide_eq_false_iff_not, isi_NoneType_int, isi_NoneType_bool, isi_NoneType_tuple, isi_NoneType_str, isi_NoneType_list, isi_bool_int, isi_bool_bool, isi_bool_tuple, isi_bool_str, isi_bool_list, isi_int_int, isi_int_bool, isi_int_tuple, isi_int_str, isi_int_list, isi_str_int, isi_str_bool, isi_str_tuple, isi_str_str, isi_str_list, isi_list_int, isi_list_bool, isi_list_tuple, isi_list_str, isi_list_list, isi_tuple_int, isi_tuple_bool, isi_tuple_tuple, isi_tuple_str, isi_tuple_list, Bool.false_eq_true, if_true, if_false, reduceIte, Bool.not_true, Bool.not_false, reduceCtorEq, false_and, and_false, exists_false, exists_const, scal_int, scal_bl, scal_str, absE, ne_eq, not_true_eq_false, not_false_eq_true, Int.natCast_add, Int.cast_ofNat_Int, and_assoc, tChain3, tTupF, rTupOfF]
    refine ⟨_, sq1, V.str (lawW d).1, rfl, rfl, ?_⟩
    refine ite2 (fun h => ?_) (fun h => ?_)
    · have hw := word_none (d := d) (by injection h)
      refine ⟨p, B, d, v, nm, rfl, hd.ex e1, fun c H2 e2 hc => ?_⟩
      have hv : heardV d = [.str "yes", .int (lawW d).2] := by
        unfold heardV lawW
        rw [hw]
        rfl
      rw [hv] at hc
      refine ⟨_, SqT.of (e2 _ _ ha1), _, rfl, by decide, fun c2 hc2 => ?_⟩
      have e3 := Evl.Ex.new (o := HO.tup [V.str "yes", V.int (lawW d).2]) hc2
      refine ⟨_, _, rfl, sm_flat (d := 2) (by show 2 ≤ 12; decide) (e3 _ _ hc) upd_same ?_, ret _ ((e1.trans e2).trans e3)⟩
      intro x hx
      simp only [List.mem_cons, List.not_mem_nil, or_false] at hx
      rcases hx with rfl | rfl
      · exact .inr (.inl ⟨_, rfl⟩)
      · exact .inl ⟨_, rfl⟩
    · have hw := word_some (d := d) (fun h' => h (by rw [h']))
      refine ⟨p, B, d, v, nm, rfl, hd.ex e1, fun c H2 e2 hc => ?_⟩
      have hv : heardV d = [.str "no", .str (lawW d).1, .int (lawW d).2, .bl true] := by
        unfold heardV
        rw [hw]
      rw [hv] at hc
      have sq2 := SqT.of (K := K) (e2 _ _ ha1)
      refine ⟨_, sq2, _, rfl, _, sq2, _, rfl, by decide, fun c2 hc2 => ?_⟩
      have e3 := Evl.Ex.new (o := HO.tup [V.str "no", V.str (lawW d).1, V.int (lawW d).2, V.bl true]) hc2
      refine ⟨_, _, rfl, sm_flat (d := 2) (by show 4 ≤ 12; decide) (e3 _ _ hc) upd_same ?_, ret _ ((e1.trans e2).trans e3)⟩
      intro x hx
      simp only [List.mem_cons, List.not_mem_nil, or_false] at hx
      rcases hx with rfl | rfl | rfl | rfl
      · exact .inr (.inl ⟨_, rfl⟩)
      · exact .inr (.inl ⟨_, rfl⟩)
      · exact .inl ⟨_, rfl⟩
      · exact .inr (.inr ⟨_, rfl⟩)
end
end K00
end
section
set_option Elab.async false
set_option linter.all false
set_option maxRecDepth 100000
set_option maxHeartbeats 4000000
namespace K00
open PySem PySem.Spec PyProof.Rows L2 Pour
theorem cut_dt {p : Addr → Prop} {B : Int} {H : Hp} {ds : List PyData} {xs : List V} {lo hi : Option Int} (h : DtAll p B H ds xs) : DtAll p B H ((ds.drop (HT.sIx xs.length 0 lo)).take (HT.sIx xs.length xs.length hi - HT.sIx xs.length 0 lo)) (cutV xs lo hi) :=
  DtAll.take _ (DtAll.drop _ h)
theorem cut_len (xs : List V) (lo hi : Option Int) : (cutV xs lo hi).length ≤ xs.length := cutV_length xs lo hi
section
variable {P : Program} {w : World} {K : PySem.W.Frag} {mg : Str → Option Value} {base : Heap}
def spBent : Sp := fun vs H Q _ => ∃ (p l : Addr) (n : Int) (ns : List Int), vs = [.ref p, .ref l, .int n] ∧ Pool H p ∧ l ≠ p ∧ H l = some (.lst (ns.map V.int)) ∧ ns.length ≤ 20 ∧ (∀ y ∈ ns, -(10 ^ 31) ≤ y ∧ y ≤ 10 ^ 31) ∧ -100 ≤ n ∧ n ≤ 100 ∧
  ∀ d v H', Ch p H H' → Dt (· = p) big H' d v → Q v H'
theorem ok__law_bent (T : Txt K mg) : Keeps P w K mg base CX0 2 d_s__law_bent ["_law_pool_here", "_law_row", "_law_n"] spBent := by
  obtain ⟨fd, F⟩ := f__law_bent T
  obtain ⟨fd__law_take, D__law_take⟩ := ok__law_take (P := P) (w := w) (base := base) T
  refine ⟨fd, F, F.ok sc__law_bent (fun vs H Q E h => ?_) (fun cdv A outer s H vs Q E hr h => ⟨_, PSs.nox
    (pss_cons (ps_set (i := 3) sc__law_bent.nd rfl (Or.inl rfl) (pe_call D__law_take.2 (hr.mono (by decide)) rfl (g__law_take T) D__law_take.1.kp (b__law_take D__law_take.1) .nil pass0 (pa_cons (pv 0) (pa_cons pe_int pa_nil))))
      (pss_cons (ps_if (pt_cmpR op_lt (pv 3) pe_int (nomark _)) (pss_one (ps_ret (pe_callTy call_tupF rfl (n_tuple T) (by decide +kernel) (pa_cons (pv 1) pa_nil)))) pss_nil)
      (pss_cons (ps_if (pt_cmpR op_eq (pv 3) pe_int (nomark _)) (pss_one (ps_ret (pe_callTy call_list_of rfl (n_list T) (by decide +kernel) (pa_cons (pv 1) pa_nil)))) pss_nil)
      (pss_cons (ps_if (PW.pt (pw_or (pt_cmpR op_eq (pv 3) pe_int (nomark _)) (pw_or1 (pt_cmpR op_eq (pe_callB call_len_seq rfl (n_len T) (by decide +kernel) (pa_cons (pv 1) pa_nil)) pe_int (nomark _))))) (pss_one (ps_ret (pe_callTy call_tupF rfl (n_tuple T) (by decide +kernel) (pa_cons (pe_op op_cat (pv 1) (pe_lst (pa_cons (pe_ix ix_list (pe_lst (pa_cons pe_int (pa_cons (pv 2) (pa_cons pe_bl (pa_cons pe_non (pa_cons (pe_un un_neg pe_int) pa_nil)))))) (pe_call D__law_take.2 (hr.mono (by decide)) rfl (g__law_take T) D__law_take.1.kp (b__law_take D__law_take.1) .nil pass0 (pa_cons (pv 0) (pa_cons pe_int pa_nil))) (fun _ _ => rfl)) pa_nil))) pa_nil)))) pss_nil)
      (pss_cons (ps_if (pt_cmpR op_eq (pv 3) pe_int (nomark _)) (pss_one (ps_ret (pe_callTy call_tupF rfl (n_tuple T) (by decide +kernel) (pa_cons (pe_slice sl_list (pv 1) po_none (po_some (pe_un un_neg pe_int))) pa_nil)))) pss_nil)
      (pss_cons (ps_if (pt_cmpR op_eq (pv 3) pe_int (nomark _)) (pss_cons (ps_set (i := 4) sc__law_bent.nd rfl (Or.inl rfl) (pe_call D__law_take.2 (hr.mono (by decide)) rfl (g__law_take T) D__law_take.1.kp (b__law_take D__law_take.1) .nil pass0 (pa_cons (pv 0) (pa_cons (pe_callB call_len_seq rfl (n_len T) (by decide +kernel) (pa_cons (pv 1) pa_nil)) pa_nil))))
      (pss_one (ps_ret (pe_callTy call_tupF rfl (n_tuple T) (by decide +kernel) (pa_cons (pe_op op_cat (pe_op op_cat (pe_slice sl_list (pv 1) po_none (po_some (pv 4))) (pe_lst (pa_cons (pe_ix ix_list (pe_lst (pa_cons pe_int (pa_cons (pv 2) (pa_cons pe_bl (pa_cons pe_bl (pa_cons pe_str (pa_cons (pe_op op_add (pe_ix ix_list (pv 1) (pv 4) (fun _ _ => rfl)) pe_int) pa_nil))))))) (pe_call D__law_take.2 (hr.mono (by decide)) rfl (g__law_take T) D__law_take.1.kp (b__law_take D__law_take.1) .nil pass0 (pa_cons (pv 0) (pa_cons pe_int pa_nil))) (fun _ _ => rfl)) pa_nil))) (pe_slice sl_list (pv 1) (po_some (pe_op op_add (pv 4) pe_int)) po_none)) pa_nil))))) pss_nil)
      (pss_one (ps_ret (pe_callTy call_tupF rfl (n_tuple T) (by decide +kernel) (pa_cons (pe_revL (pv 1)) pa_nil)))))))))), ?_⟩)⟩
  · obtain ⟨p, l, n, ns, rfl, _⟩ := h
    rfl
  · obtain ⟨p, l, n, ns, rfl, hp, nel, hl, len, bd, n0, n1, ret⟩ := h
    have bb1 : (100 : Int) ≤ big := by decide
    have bb2 : (10 : Int) ^ 31 + 1 ≤ big := by decide
    have hdl : ∀ H', DtAll (· = p) big H' (ns.map PyData.int) (ns.map V.int) := fun H' => DtAll.ints fun y hy => by
      have := bd y hy
      omega
    simp only [tSeq, tAsg, gName, tRet, tRetN, tDrop, tIfS, tNext, tBreak, tCont, tTest, tB, tVar, tC, tCons, tNil, tCB, tCall, tCallK, tOp, tUn, rI0, rI, rU, rEq, rNe, tAnd, tOr, tNot, tAndV, tOrV, tNotV, tTup, tLst, tIf, gTup, gCons, gNil, tPar, tAug, ipI, gSub, L2.start, cxOf, Cx.nox, List.map_cons, List.map_nil, List.length_cons, List.length_nil, List.replicate, Nat.reduceAdd, Nat.reduceSub, List.cons_append, List.nil_append, List.append_nil, List.getElem?_cons_zero, List.getElem?_cons_succ, Option.some.injEq, V.int.injEq, V.bl.injEq, V.str.injEq, V.ref.injEq, V.ty.injEq, List.cons.injEq, and_true, true_and, exists_eq_left, exists_eq_left', exists_and_left, exists_and_right, decide_eq_true_eq, List.set_cons_zero, List.set_cons_succ, Bool.not_eq_true', decide_eq_false_iff_not, isi_NoneType_int, isi_NoneType_bool, isi_NoneType_tuple, isi_NoneType_str, isi_NoneType_list, isi_bool_int, isi_bool_bool, isi_bool_tuple, isi_bool_str, isi_bool_list, isi_int_int, isi_int_bool, isi_int_tuple, isi_int_str, isi_int_list, isi_str_int, isi_str_bool, isi_str_tuple, isi_str_str, isi_str_list, isi_list_int, isi_list_bool, isi_list_tuple, isi_list_str, isi_list_list, isi_tuple_int, isi_tuple_bool, isi_tuple_tuple, isi_tuple_str, isi_tuple_list, Bool.false_eq_true, if_true, if_false, reduceIte, Bool.not_true, Bool.not_false, reduceCtorEq, false_and, and_false, exists_false, exists_const, scal_int, scal_bl, scal_str, absE, ne_eq, not_true_eq_false, not_false_eq_true, Int.natCast_add, Int.cast_ofNat_Int, and_assoc, tChain3, tTupF, rTupOfF, rIxL, rCat, tSl, tRevL]
    refine ⟨_, _, rfl, hp, by decide, fun d H1 d0 d1 c1 => ?_⟩
    simp only [tSeq, tAsg, gName, tRet, tRetN, tDrop, tIfS, tNext, tBreak, tCont, tTest, tB, tVar, tC, tCons, tNil, tCB, tCall, tCallK, tOp, tUn, rI0, rI, rU, rEq, rNe, tAnd, tOr, tNot, tAndV, tOrV, tNotV, tTup, tLst, tIf, gTup, gCons, gNil, tPar, tAug, ipI, gSub, L2.start, cxOf, Cx.nox, List.map_cons, List.map_nil, List.length_cons, List.length_nil, List.replicate, Nat.reduceAdd, Nat.reduceSub, List.cons_append, List.nil_append, List.append_nil, List.getElem?_cons_zero, List.getElem?_cons_succ, Option.some.injEq, V.int.injEq, V.bl.injEq, V.str.injEq, V.ref.injEq, V.ty.injEq, List.cons.injEq, and_true, true_and, exists_eq_left, exists_eq_left', exists_and_left, exists_and_right, decide_eq_true_eq, List.set_cons_zero, List.set_cons_succ, Bool.not_eq_true', decide_eq_false_iff_not, isi_NoneType_int, isi_NoneType_bool, isi_NoneType_tuple, isi_NoneType_str, isi_NoneType_list, isi_bool_int, isi_bool_bool, isi_bool_tuple, isi_bool_str, isi_bool_list, isi_int_int, isi_int_bool, isi_int_tuple, isi_int_str, isi_int_list, isi_str_int, isi_str_bool, isi_str_tuple, isi_str_str, isi_str_list, isi_list_int, isi_list_bool, isi_list_tuple, isi_list_str, isi_list_list, isi_tuple_int, isi_tuple_bool, isi_tuple_tuple, isi_tuple_str, isi_tuple_list, Bool.false_eq_true, if_true, if_false, reduceIte, Bool.not_true, Bool.not_false, reduceCtorEq, false_and, and_false, exists_false, exists_const, scal_int, scal_bl, scal_str, absE, ne_eq, not_true_eq_false, not_false_eq_true, Int.natCast_add, Int.cast_ofNat_Int, and_assoc, tChain3, tTupF, rTupOfF]
    have hl1 := c1.keep _ _ nel hl
    -- a tuple of such a list
    have fin : ∀ {H' : Hp} {ds : List PyData} {xs : List V}, Ch p H H' → DtAll (· = p) big H' ds xs → xs.length ≤ 100 → ∀ q Hq, H' q = none → Evl.Ex H' Hq → TupN Hq q xs → Q (.ref q) Hq := by
      intro H' ds xs c hs hx q Hq hq e t
      exact ret (.tuple ds) _ _ (c.ex e) ⟨q, xs, rfl, c.st.ne_new hq, t, by omega, hs.ex e⟩
    refine ite2 (fun h => ⟨_, SqL.of hl1, fin c1 (hdl _) (by rw [List.length_map]; omega)⟩) (fun _ => ?_)
    refine ite2 (fun h => ?_) (fun _ => ?_)
    · refine ⟨_, .inl (SqL.of hl1), fun q hq => ?_⟩
      have e2 := Evl.Ex.new (o := HO.lst (ns.map V.int)) hq
      exact ret (.list (ns.map PyData.int)) _ _ (c1.ex e2) ⟨q, _, rfl, c1.st.ne_new hq, upd_same, by rw [List.length_map]; omega, hdl _⟩
    refine ite2 (fun h => ?_) (fun _ => ?_)
    · have h4 := h
      refine ⟨by decide, fun m1 hm1 => ?_⟩
      have nem := c1.st.ne_new hm1
      have e2 := Evl.Ex.new (o := HO.lst [V.int 0, V.int n, V.bl true, V.non, V.int (-1)]) hm1
      have am1 : upd H1 m1 (HO.lst [V.int 0, V.int n, V.bl true, V.non, V.int (-1)]) m1 = some (.lst [V.int 0, V.int n, V.bl true, V.non, V.int (-1)]) := upd_same
      generalize upd H1 m1 (HO.lst [V.int 0, V.int n, V.bl true, V.non, V.int (-1)]) = H2 at *
      refine ⟨_, _, rfl, c1.st.ex e2, by decide, fun k H3 k0 k1 c3 => ?_⟩
      obtain ⟨x, dx, ex, hx⟩ : ∃ x dx, atI [V.int 0, V.int n, V.bl true, V.non, V.int (-1)] k = some x ∧ ∀ H', Dt (· = p) big H' dx x := by
        obtain rfl | rfl | rfl | rfl | rfl : k = 0 ∨ k = 1 ∨ k = 2 ∨ k = 3 ∨ k = 4 := by omega
        · exact ⟨_, .int 0, rfl, fun H' => ⟨rfl, by decide, by decide⟩⟩
        · exact ⟨_, .int n, rfl, fun H' => ⟨rfl, by omega, by omega⟩⟩
        · exact ⟨_, .bool true, rfl, fun H' => rfl⟩
        · exact ⟨_, .none, rfl, fun H' => rfl⟩
        · exact ⟨_, .int (-1), rfl, fun H' => ⟨rfl, by decide, by decide⟩⟩
      refine ⟨_, k, rfl, SqL.of (c3.keep _ _ nem am1), x, ex, by decide, fun m2 hm2 => ?_⟩
      have e4 := Evl.Ex.new (o := HO.lst [x]) hm2
      have l4 := e4 _ _ (c3.keep _ _ nel (e2 _ _ hl1))
      refine ⟨_, l4, _, upd_same, by rw [List.length_map, sizeLine_eq]; show ns.length + 1 ≤ _; omega, fun m3 hm3 => ?_⟩
      have e5 := Evl.Ex.new (o := HO.lst (ns.map V.int ++ [x])) hm3
      have c5 := ((((c1.ex e2).trans c3).ex e4).ex e5)
      exact ⟨_, SqL.of upd_same, fin c5 (DtAll.app (hdl _) (show DtAll (· = p) big _ [dx] [x] from ⟨hx _, True.intro⟩)) (by rw [List.length_append, List.length_map]; show ns.length + 1 ≤ _; omega)⟩
    refine ⟨_, .inl (SqL.of hl1), ?_⟩
    rw [List.length_map]
    refine ite2 (fun h => ?_) (fun hne => ?_)
    · have h4 := h
      refine ⟨by decide, fun m1 hm1 => ?_⟩
      have nem := c1.st.ne_new hm1
      have e2 := Evl.Ex.new (o := HO.lst [V.int 0, V.int n, V.bl true, V.non, V.int (-1)]) hm1
      have am1 : upd H1 m1 (HO.lst [V.int 0, V.int n, V.bl true, V.non, V.int (-1)]) m1 = some (.lst [V.int 0, V.int n, V.bl true, V.non, V.int (-1)]) := upd_same
      generalize upd H1 m1 (HO.lst [V.int 0, V.int n, V.bl true, V.non, V.int (-1)]) = H2 at *
      refine ⟨_, _, rfl, c1.st.ex e2, by decide, fun k H3 k0 k1 c3 => ?_⟩
      obtain ⟨x, dx, ex, hx⟩ : ∃ x dx, atI [V.int 0, V.int n, V.bl true, V.non, V.int (-1)] k = some x ∧ ∀ H', Dt (· = p) big H' dx x := by
        obtain rfl | rfl | rfl | rfl | rfl : k = 0 ∨ k = 1 ∨ k = 2 ∨ k = 3 ∨ k = 4 := by omega
        · exact ⟨_, .int 0, rfl, fun H' => ⟨rfl, by decide, by decide⟩⟩
        · exact ⟨_, .int n, rfl, fun H' => ⟨rfl, by omega, by omega⟩⟩
        · exact ⟨_, .bool true, rfl, fun H' => rfl⟩
        · exact ⟨_, .none, rfl, fun H' => rfl⟩
        · exact ⟨_, .int (-1), rfl, fun H' => ⟨rfl, by decide, by decide⟩⟩
      refine ⟨_, k, rfl, SqL.of (c3.keep _ _ nem am1), x, ex, by decide, fun m2 hm2 => ?_⟩
      have e4 := Evl.Ex.new (o := HO.lst [x]) hm2
      have l4 := e4 _ _ (c3.keep _ _ nel (e2 _ _ hl1))
      refine ⟨_, l4, _, upd_same, by rw [List.length_map, sizeLine_eq]; show ns.length + 1 ≤ _; omega, fun m3 hm3 => ?_⟩
      have e5 := Evl.Ex.new (o := HO.lst (ns.map V.int ++ [x])) hm3
      have c5 := ((((c1.ex e2).trans c3).ex e4).ex e5)
      exact ⟨_, SqL.of upd_same, fin c5 (DtAll.app (hdl _) (show DtAll (· = p) big _ [dx] [x] from ⟨hx _, True.intro⟩)) (by rw [List.length_append, List.length_map]; show ns.length + 1 ≤ _; omega)⟩
    refine ite2 (fun h => ?_) (fun _ => ?_)
    · simp only [tSeq, tAsg, gName, tRet, tRetN, tDrop, tIfS, tNext, tBreak, tCont, tTest, tB, tVar, tC, tCons, tNil, tCB, tCall, tCallK, tOp, tUn, rI0, rI, rU, rEq, rNe, tAnd, tOr, tNot, tAndV, tOrV, tNotV, tTup, tLst, tIf, gTup, gCons, gNil, tPar, tAug, ipI, gSub, L2.start, cxOf, Cx.nox, List.map_cons, List.map_nil, List.length_cons, List.length_nil, List.replicate, Nat.reduceAdd, Nat.reduceSub, List.cons_append, List.nil_append, List.append_nil, List.getElem?_cons_zero, List.getElem?_cons_succ, Option.some.injEq, V.int.injEq, V.bl.injEq, V.str.injEq, V.ref.injEq, V.ty.injEq, List.cons.injEq, and_true, true_and, exists_eq_left, exists_eq_left', exists_and_left, exists_and_right, decide_eq_true_eq, List.set_cons_zero, List.set_cons_succ, Bool.not_eq_true', decide_eq_false_iff_not, isi_NoneType_int, isi_NoneType_bool, isi_NoneType_tuple, isi_NoneType_str, isi_NoneType_list, isi_bool_int, isi_bool_bool, isi_bool_tuple, isi_bool_str, isi_bool_list, isi_int_int, isi_int_bool, isi_int_tuple, isi_int_str, isi_int_list, isi_str_int, isi_str_bool, isi_str_tuple, isi_str_str, isi_str_list, isi_list_int, isi_list_bool, isi_list_tuple, isi_list_str, isi_list_list, isi_tuple_int, isi_tuple_bool, isi_tuple_tuple, isi_tuple_str, isi_tuple_list, Bool.false_eq_true, if_true, if_false, reduceIte, Bool.not_true, Bool.not_false, reduceCtorEq, false_and, and_false, exists_false, exists_const, scal_int, scal_bl, scal_str, absE, ne_eq, not_true_eq_false, not_false_eq_true, Int.natCast_add, Int.cast_ofNat_Int, and_assoc, tChain3, tTupF, rTupOfF, tNoPart, tPart, rSlL]
      refine ⟨_, SqL.of hl1, fun q hq => ⟨_, SqL.of upd_same, fin (c1.ex (Evl.Ex.new hq)) (cut_dt (hdl _)) (Nat.le_trans (cut_len _ _ _) (by rw [List.length_map]; omega))⟩⟩
    refine ite2 (fun h => ?_) (fun _ => ?_)
    · refine ⟨_, .inl (SqL.of hl1), _, _, rfl, c1.st, by rw [List.length_map]; omega, fun k H2 k0 k1 c2 => ?_⟩
      simp only [tSeq, tAsg, gName, tRet, tRetN, tDrop, tIfS, tNext, tBreak, tCont, tTest, tB, tVar, tC, tCons, tNil, tCB, tCall, tCallK, tOp, tUn, rI0, rI, rU, rEq, rNe, tAnd, tOr, tNot, tAndV, tOrV, tNotV, tTup, tLst, tIf, gTup, gCons, gNil, tPar, tAug, ipI, gSub, L2.start, cxOf, Cx.nox, List.map_cons, List.map_nil, List.length_cons, List.length_nil, List.replicate, Nat.reduceAdd, Nat.reduceSub, List.cons_append, List.nil_append, List.append_nil, List.getElem?_cons_zero, List.getElem?_cons_succ, Option.some.injEq, V.int.injEq, V.bl.injEq, V.str.injEq, V.ref.injEq, V.ty.injEq, List.cons.injEq, and_true, true_and, exists_eq_left, exists_eq_left', exists_and_left, exists_and_right, decide_eq_true_eq, List.set_cons_zero, List.set_cons_succ, Bool.not_eq_true', decide_eq_false_iff_not, isi_NoneType_int, isi_NoneType_bool, isi_NoneType_tuple, isi_NoneType_str, isi_NoneType_list, isi_bool_int, isi_bool_bool, isi_bool_tuple, isi_bool_str, isi_bool_list, isi_int_int, isi_int_bool, isi_int_tuple, isi_int_str, isi_int_list, isi_str_int, isi_str_bool, isi_str_tuple, isi_str_str, isi_str_list, isi_list_int, isi_list_bool, isi_list_tuple, isi_list_str, isi_list_list, isi_tuple_int, isi_tuple_bool, isi_tuple_tuple, isi_tuple_str, isi_tuple_list, Bool.false_eq_true, if_true, if_false, reduceIte, Bool.not_true, Bool.not_false, reduceCtorEq, false_and, and_false, exists_false, exists_const, scal_int, scal_bl, scal_str, absE, ne_eq, not_true_eq_false, not_false_eq_true, Int.natCast_add, Int.cast_ofNat_Int, and_assoc, tChain3, tTupF, rTupOfF, tNoPart, tPart, rSlL]
      rw [List.length_map] at k1
      obtain ⟨j, rfl⟩ : ∃ j : Nat, k = j := ⟨k.toNat, by omega⟩
      have hl2 := c2.keep _ _ nel hl1
      refine ⟨_, SqL.of hl2, fun a1 ha1 => ?_⟩
      have f1 := Evl.Ex.new (o := HO.lst (cutV (ns.map V.int) none (some (j : Int)))) ha1
      have at1 : upd H2 a1 (HO.lst (cutV (ns.map V.int) none (some (j : Int)))) a1 = some (.lst (cutV (ns.map V.int) none (some (j : Int)))) := upd_same
      have ne1 := c2.st.ne_new ha1
      have c3 := (c1.trans c2).ex f1
      have hl3 := f1 _ _ hl2
      generalize upd H2 a1 (HO.lst (cutV (ns.map V.int) none (some (j : Int)))) = H3 at *
      obtain ⟨y, hy⟩ : ∃ y, ns[j]? = some y := ⟨_, List.getElem?_eq_getElem (by omega)⟩
      have hyV : (ns.map V.int)[j]? = some (V.int y) := by rw [List.getElem?_map, hy]; rfl
      have hyb := bd y (List.mem_of_getElem? hy)
      refine ⟨_, SqL.of hl3, _, atI_nat hyV, y, rfl, by decide, fun m1 hm1 => ?_⟩
      have nem := c3.st.ne_new hm1
      have e2 := Evl.Ex.new (o := HO.lst [V.int 0, V.int n, V.bl true, V.bl false, V.str "0", V.int (y + 1)]) hm1
      have am1 : upd H3 m1 (HO.lst [V.int 0, V.int n, V.bl true, V.bl false, V.str "0", V.int (y + 1)]) m1 = some (.lst [V.int 0, V.int n, V.bl true, V.bl false, V.str "0", V.int (y + 1)]) := upd_same
      generalize upd H3 m1 (HO.lst [V.int 0, V.int n, V.bl true, V.bl false, V.str "0", V.int (y + 1)]) = H4 at *
      refine ⟨_, _, rfl, c3.st.ex e2, by decide, fun k H5 k0 k1 c5 => ?_⟩
      obtain ⟨x, dx, ex, hx⟩ : ∃ x dx, atI [V.int 0, V.int n, V.bl true, V.bl false, V.str "0", V.int (y + 1)] k = some x ∧ ∀ H', Dt (· = p) big H' dx x := by
        obtain rfl | rfl | rfl | rfl | rfl | rfl : k = 0 ∨ k = 1 ∨ k = 2 ∨ k = 3 ∨ k = 4 ∨ k = 5 := by omega
        · exact ⟨_, .int 0, rfl, fun H' => ⟨rfl, by decide, by decide⟩⟩
        · exact ⟨_, .int n, rfl, fun H' => ⟨rfl, by omega, by omega⟩⟩
        · exact ⟨_, .bool true, rfl, fun H' => rfl⟩
        · exact ⟨_, .bool false, rfl, fun H' => rfl⟩
        · exact ⟨_, .str "0", rfl, fun H' => rfl⟩
        · exact ⟨_, .int (y + 1), rfl, fun H' => ⟨rfl, by omega, by omega⟩⟩
      refine ⟨_, k, rfl, SqL.of (c5.keep _ _ nem am1), x, ex, by decide, fun m2 hm2 => ?_⟩
      have e6 := Evl.Ex.new (o := HO.lst [x]) hm2
      have a6 : upd H5 m2 (HO.lst [x]) m2 = some (.lst [x]) := upd_same
      have c6 := ((c3.ex e2).trans c5).ex e6
      have a16 := e6 _ _ (c5.keep _ _ ne1 (e2 _ _ at1))
      have l6 := e6 _ _ (c5.keep _ _ nel (e2 _ _ hl3))
      generalize upd H5 m2 (HO.lst [x]) = H6 at *
      have lc1 := cut_len (ns.map V.int) none (some (j : Int))
      have lc2 := cut_len (ns.map V.int) (some ((j : Int) + 1)) none
      rw [List.length_map] at lc1 lc2
      have dc1 : DtAll (· = p) big H6 _ (cutV (ns.map V.int) none (some (j : Int))) := cut_dt (hdl H6)
      have dc2 : DtAll (· = p) big H6 _ (cutV (ns.map V.int) (some ((j : Int) + 1)) none) := cut_dt (hdl H6)
      have dx6 : DtAll (· = p) big H6 [dx] [x] := ⟨hx _, True.intro⟩
      have dall := DtAll.app (DtAll.app dc1 dx6) dc2
      generalize cutV (ns.map V.int) none (some (j : Int)) = xs1 at *
      generalize hxs2 : cutV (ns.map V.int) (some ((j : Int) + 1)) none = xs2 at *
      refine ⟨_, a16, _, a6, by show xs1.length + 1 ≤ _; rw [sizeLine_eq]; omega, fun m3 hm3 => ?_⟩
      have e7 := Evl.Ex.new (o := HO.lst (xs1 ++ [x])) hm3
      have a7 : upd H6 m3 (HO.lst (xs1 ++ [x])) m3 = some (.lst (xs1 ++ [x])) := upd_same
      generalize upd H6 m3 (HO.lst (xs1 ++ [x])) = H7 at *
      refine ⟨_, SqL.of (e7 _ _ l6), fun m4 hm4 => ?_⟩
      rw [hxs2]
      have e8 := Evl.Ex.new (o := HO.lst xs2) hm4
      have a8 : upd H7 m4 (HO.lst xs2) m4 = some (.lst xs2) := upd_same
      generalize upd H7 m4 (HO.lst xs2) = H8 at *
      refine ⟨_, e8 _ _ a7, _, a8, by rw [List.length_append, sizeLine_eq]; show xs1.length + 1 + xs2.length ≤ _; omega, fun m5 hm5 => ?_⟩
      have e9 := Evl.Ex.new (o := HO.lst (xs1 ++ [x] ++ xs2)) hm5
      exact ⟨_, SqL.of upd_same, fin ((((c6.ex e7).ex e8).ex e9)) (dall.ex ((e7.trans e8).trans e9)) (by rw [List.length_append, List.length_append]; show xs1.length + 1 + xs2.length ≤ _; omega)⟩
    · refine ⟨_, SqL.of hl1, fun q hq => ⟨_, SqL.of upd_same, ?_⟩⟩
      have e2 := Evl.Ex.new (o := HO.lst (ns.map V.int).reverse) hq
      refine fin (ds := ns.reverse.map PyData.int) (c1.ex e2) ?_ (by rw [List.length_reverse, List.length_map]; omega)
      rw [← List.map_reverse]
      exact DtAll.ints fun y hy => by
        have := bd y (List.mem_reverse.mp hy)
        omega
end
end K00
end
section
set_option Elab.async false
set_option linter.all false
set_option maxRecDepth 100000
set_option maxHeartbeats 4000000
namespace K00
open PySem PySem.Spec PyProof.Rows L2 Pour
mutual
theorem Dt.more {p p' : Addr → Prop} {B : Int} {H : Hp} (hp : ∀ a, p' a → p a ∨ H a = none) : ∀ (d : PyData) (v : V), Dt p B H d v → Dt p' B H d v
  | .none, _, h => h
  | .bool _, _, h => h
  | .int _, _, h => h
  | .str _, _, h => h
  | .list ds, _, ⟨a, xs, e, ne, ha, hl, hs⟩ => ⟨a, xs, e, fun z => (hp a z).elim ne (fun n => by rw [n] at ha; cases ha), ha, hl, DtAll.more hp ds xs hs⟩
  | .tuple ds, _, ⟨a, xs, e, ne, ha, hl, hs⟩ => ⟨a, xs, e, fun z => (hp a z).elim ne (fun n => by obtain ⟨_, _, ha⟩ := ha; rw [n] at ha; cases ha), ha, hl, DtAll.more hp ds xs hs⟩
theorem DtAll.more {p p' : Addr → Prop} {B : Int} {H : Hp} (hp : ∀ a, p' a → p a ∨ H a = none) : ∀ (ds : List PyData) (xs : List V), DtAll p B H ds xs → DtAll p' B H ds xs
  | [], [], _ => True.intro
  | d :: ds, x :: xs, ⟨h, r⟩ => ⟨Dt.more hp d x h, DtAll.more hp ds xs r⟩
end
/-- a list at l that the law fills: what it holds is data that stands beside p and l -/
structure RowL (S : Addr → Prop) (p l : Addr) (B : Int) (n : Nat) (H0 H : Hp) : Prop where
  ch : Ch p H0 H
  row : ∃ ds zs, H l = some (.lst zs) ∧ DtAll S B H ds zs ∧ zs.length = n
theorem RowL.go {S : Addr → Prop} {p l : Addr} {B : Int} {n : Nat} {H0 H H' : Hp} (h : RowL S p l B n H0 H) (hp : S p) (ne : l ≠ p) (c : Ch p H H') : RowL S p l B n H0 H' := by
  obtain ⟨ds, zs, e, a, z⟩ := h.row
  exact ⟨h.ch.trans c, ds, zs, c.keep _ _ ne e, DtAll.mono (Int.le_refl _) (fun b o nb q => c.keep b o (fun y => nb (by cases y; exact hp)) q) _ _ a, z⟩
theorem RowL.set {S : Addr → Prop} {p l : Addr} {B : Int} {n : Nat} {H0 H : Hp} {d : PyData} {v : V} {zs : List V} {j : Nat} (h : RowL S p l B n H0 H) (hl : S l) (f : H0 l = none) (ne : l ≠ p) (e : H l = some (.lst zs)) (hv : Dt S B H d v) : RowL S p l B n H0 (upd H l (.lst (zs.set j v))) := by
  obtain ⟨ds, zs', e', a, z⟩ := h.row
  rw [e] at e'
  cases e'
  have k : Keep S H (upd H l (.lst (zs.set j v))) := fun b o nb q => by rw [upd_ne fun z => nb (by cases z; exact hl)]; exact q
  refine ⟨⟨fun b o nb q => ?_, ?_⟩, ds.set j d, _, upd_same, ?_, by rw [List.length_set]; exact z⟩
  · have nbl : b ≠ l := by
      rintro rfl
      rw [f] at q
      cases q
    rw [upd_ne nbl]
    exact h.ch.keep b o nb q
  · obtain ⟨ns, e, hh⟩ := h.ch.st
    exact ⟨ns, by rw [upd_ne (Ne.symm ne)]; exact e, hh⟩
  · exact (DtAll.mono (Int.le_refl _) k _ _ a).set j (Dt.mono (Int.le_refl _) k _ _ hv)
/-- p and l -/
def SS (p l : Addr) : Addr → Prop := fun a => a = p ∨ a = l
def SS3 (p l r : Addr) : Addr → Prop := fun a => (a = p ∨ a = l) ∨ a = r
section
variable {P : Program} {w : World} {K : PySem.W.Frag} {mg : Str → Option Value} {base : Heap}
def spSpoilt : Sp := fun vs H Q _ => ∃ (p : Addr) (B : Int) (d : PyData) (v : V), vs = [.ref p, v] ∧ Pool H p ∧ big ≤ B ∧ Dt (· = p) B H d v ∧ ∀ d' v' H', Ch p H H' → Dt (· = p) (B + 1) H' d' v' → Q v' H'
theorem ok__law_spoilt (T : Txt K mg) : Keeps P w K mg base CX0 3 d_s__law_spoilt ["_law_pool_here", "_law_value"] spSpoilt := by
  obtain ⟨fd, F⟩ := f__law_spoilt T
  obtain ⟨fd__law_int, D__law_int⟩ := ok__law_int (P := P) (w := w) (base := base) T
  obtain ⟨fd__law_odd, D__law_odd⟩ := ok__law_odd (P := P) (w := w) (base := base) T
  obtain ⟨fd__law_take, D__law_take⟩ := ok__law_take (P := P) (w := w) (base := base) T
  refine ⟨fd, F, F.ok sc__law_spoilt (fun vs H Q E h => ?_) (fun cdv A outer s H vs Q E hr h => ⟨_, PSs.nox
    (pss_cons (ps_set (i := 2) sc__law_spoilt.nd rfl (Or.inl rfl) (pe_call D__law_take.2 (hr.mono (by decide)) rfl (g__law_take T) D__law_take.1.kp (b__law_take D__law_take.1) .nil pass0 (pa_cons (pv 0) (pa_cons pe_int pa_nil))))
      (pss_cons (ps_if (PW.pt (pw_or (pt_not (pt_val (pe_callB call_isi rfl (n_isinstance T) (by decide +kernel) (pa_cons (pv 1) (pa_cons (pe_bltn (v := .ty "tuple") rfl (n_tuple T) (by decide +kernel) rfl) pa_nil))))) (pw_or (pt_cmpR op_ne (pe_callB call_len_seq rfl (n_len T) (by decide +kernel) (pa_cons (pv 1) pa_nil)) pe_int (nomark _)) (pw_or1 (pt_not (pt_val (pe_callB call_isi rfl (n_isinstance T) (by decide +kernel) (pa_cons (pe_ix ix_tup (pv 1) pe_int (fun _ _ => rfl)) (pa_cons (pe_bltn (v := .ty "tuple") rfl (n_tuple T) (by decide +kernel) rfl) pa_nil))))))))) (pss_one (ps_ret (pv 1))) pss_nil)
      (pss_cons (ps_set (i := 3) sc__law_spoilt.nd rfl (Or.inl rfl) (pe_ix ix_tup (pv 1) pe_int (fun _ _ => rfl)))
      (pss_cons (ps_set (i := 4) sc__law_spoilt.nd rfl (Or.inl rfl) (pe_callTy call_list_of rfl (n_list T) (by decide +kernel) (pa_cons (pe_ix ix_tup (pv 1) pe_int (fun _ _ => rfl)) pa_nil)))
      (pss_cons (ps_if (pt_cmpR op_eq (pv 2) pe_int (nomark _)) (pss_one (ps_ret (pe_ix ix_list (pe_lst (pa_cons (pe_lst (pa_cons (pv 3) (pa_cons (pe_ix ix_tup (pv 1) pe_int (fun _ _ => rfl)) pa_nil))) (pa_cons (pe_tupF (pa_cons (pv 3) pa_nil)) (pa_cons (pe_tupF (pa_cons (pv 3) (pa_cons (pe_ix ix_tup (pv 1) pe_int (fun _ _ => rfl)) (pa_cons pe_int pa_nil)))) (pa_cons (pe_tupF (pa_cons (pe_ix ix_tup (pv 1) pe_int (fun _ _ => rfl)) (pa_cons (pv 3) pa_nil))) pa_nil))))) (pe_call D__law_take.2 (hr.mono (by decide)) rfl (g__law_take T) D__law_take.1.kp (b__law_take D__law_take.1) .nil pass0 (pa_cons (pv 0) (pa_cons pe_int pa_nil))) (fun _ _ => rfl)))) pss_nil)
      (pss_cons (ps_if (pt_cmpR op_eq (pv 2) pe_int (nomark _)) (pss_cons (ps_set (i := 5) sc__law_spoilt.nd rfl (Or.inl rfl) (pe_call D__law_odd.2 (hr.mono (by decide)) rfl (g__law_odd T) D__law_odd.1.kp (b__law_odd D__law_odd.1) .nil pass0 (pa_cons (pv 0) pa_nil)))
      (pss_cons (ps_if (PW.pt (pw_and (pt_val (pe_call D__law_int.2 (hr.mono (by omega)) rfl (g__law_int T) D__law_int.1.kp (b__law_int D__law_int.1) .nil pass0 (pa_cons (pv 5) pa_nil))) (pw_and1 (pt_cmpR op_gt (pv 5) pe_int (nomark _))))) (pss_one (ps_set (i := 5) sc__law_spoilt.nd rfl (Or.inl rfl) pe_int)) pss_nil)
      (pss_one (ps_ret (pe_tupF (pa_cons (pv 5) (pa_cons (pe_ix ix_tup (pv 1) pe_int (fun _ _ => rfl)) pa_nil))))))) pss_nil)
      (pss_cons (ps_if (pt_cmpR op_eq (pv 2) pe_int (nomark _)) (pss_one (ps_ret (pe_tupF (pa_cons (pv 3) (pa_cons (pe_ix ix_list (pe_lst (pa_cons (pv 4) (pa_cons (pe_call D__law_odd.2 (hr.mono (by decide)) rfl (g__law_odd T) D__law_odd.1.kp (b__law_odd D__law_odd.1) .nil pass0 (pa_cons (pv 0) pa_nil)) pa_nil))) (pe_call D__law_take.2 (hr.mono (by decide)) rfl (g__law_take T) D__law_take.1.kp (b__law_take D__law_take.1) .nil pass0 (pa_cons (pv 0) (pa_cons pe_int pa_nil))) (fun _ _ => rfl)) pa_nil))))) pss_nil)
      (pss_cons (ps_if (pt_cmpR op_eq (pe_callB call_len_seq rfl (n_len T) (by decide +kernel) (pa_cons (pv 4) pa_nil)) pe_int (nomark _)) (pss_one (ps_ret (pe_tupF (pa_cons (pv 3) (pa_cons (pe_tupF (pa_cons (pe_call D__law_odd.2 (hr.mono (by decide)) rfl (g__law_odd T) D__law_odd.1.kp (b__law_odd D__law_odd.1) .nil pass0 (pa_cons (pv 0) pa_nil)) pa_nil)) pa_nil))))) pss_nil)
      (pss_cons (ps_set (i := 6) sc__law_spoilt.nd rfl (Or.inl rfl) (pe_call D__law_take.2 (hr.mono (by decide)) rfl (g__law_take T) D__law_take.1.kp (b__law_take D__law_take.1) .nil pass0 (pa_cons (pv 0) (pa_cons (pe_callB call_len_seq rfl (n_len T) (by decide +kernel) (pa_cons (pv 4) pa_nil)) pa_nil))))
      (Evl.pss_cut (ps_if (pt_cmpR op_eq (pv 2) pe_int (nomark _)) (pss_one (ps_asg (pe_call D__law_odd.2 (hr.mono (by decide)) rfl (g__law_odd T) D__law_odd.1.kp (b__law_odd D__law_odd.1) .nil pass0 (pa_cons (pv 0) pa_nil)) (pg_sub (pv 4) (pv 6) set_list))) pss_nil)
      (Evl.pss_cut (ps_if (PW.pt (pw_and (pt_cmpR op_gt (pv 2) pe_int (nomark _)) (pw_and (pt_val (pe_callB call_isi rfl (n_isinstance T) (by decide +kernel) (pa_cons (pe_ix ix_list (pv 4) (pv 6) (fun _ _ => rfl)) (pa_cons (pe_bltn (v := .ty "tuple") rfl (n_tuple T) (by decide +kernel) rfl) pa_nil)))) (pw_and1 (pt_cmpR op_eq (pe_callB call_len_seq rfl (n_len T) (by decide +kernel) (pa_cons (pe_ix ix_list (pv 4) (pv 6) (fun _ _ => rfl)) pa_nil)) pe_int (nomark _)))))) (pss_cons (ps_set (i := 7) sc__law_spoilt.nd rfl (Or.inl rfl) (pe_callTy call_list_of rfl (n_list T) (by decide +kernel) (pa_cons (pe_ix ix_list (pv 4) (pv 6) (fun _ _ => rfl)) pa_nil)))
      (pss_one (ps_if (pt_cmpR op_lt (pv 2) pe_int (nomark _)) (pss_cons (ps_set (i := 8) sc__law_spoilt.nd rfl (Or.inl rfl) pe_int)
      (Evl.pss_cut (ps_if (pt_val (pe_call D__law_int.2 (hr.mono (by omega)) rfl (g__law_int T) D__law_int.1.kp (b__law_int D__law_int.1) .nil pass0 (pa_cons (pv 3) pa_nil))) (pss_one (ps_set (i := 8) sc__law_spoilt.nd rfl (Or.inl rfl) (pv 3))) pss_nil)
      (pss_cons (ps_set (i := 9) sc__law_spoilt.nd rfl (Or.inl rfl) (pe_call D__law_take.2 (hr.mono (by decide)) rfl (g__law_take T) D__law_take.1.kp (b__law_take D__law_take.1) .nil pass0 (pa_cons (pv 0) (pa_cons pe_int pa_nil))))
      (pss_cons (ps_asg (pe_ix ix_list (pe_lst (pa_cons pe_non (pa_cons pe_bl (pa_cons pe_bl (pa_cons (pe_un un_neg pe_int) (pa_cons pe_int (pa_cons (pv 8) (pa_cons (pe_op op_sub (pv 8) pe_int) (pa_cons pe_str (pa_cons (pe_tupF (pa_cons pe_int pa_nil)) (pa_cons (pe_op op_pow pe_int pe_int) pa_nil))))))))))) (pe_call D__law_take.2 (hr.mono (by decide)) rfl (g__law_take T) D__law_take.1.kp (b__law_take D__law_take.1) .nil pass0 (pa_cons (pv 0) (pa_cons pe_int pa_nil))) (fun _ _ => rfl)) (pg_sub (pv 7) (pv 9) set_list))
      (pss_one (ps_asg (pe_callTy call_tupF rfl (n_tuple T) (by decide +kernel) (pa_cons (pv 7) pa_nil)) (pg_sub (pv 4) (pv 6) set_list))))))) (pss_one (ps_asg (pv 7) (pg_sub (pv 4) (pv 6) set_list)))))) pss_nil)
      (pss_one (ps_ret (pe_tupF (pa_cons (pv 3) (pa_cons (pe_callTy call_tupF rfl (n_tuple T) (by decide +kernel) (pa_cons (pv 4) pa_nil)) pa_nil)))))))))))))))), ?_⟩)⟩
  · obtain ⟨p, B, d, v, rfl, _⟩ := h
    rfl
  · obtain ⟨p, B, d, v, rfl, hp, hB, hd, ret⟩ := h
    simp only [tSeq, tAsg, gName, tRet, tRetN, tDrop, tIfS, tNext, tBreak, tCont, tTest, tB, tVar, tC, tCons, tNil, tCB, tCall, tCallK, tOp, tUn, rI0, rI, rU, rEq, rNe, tAnd, tOr, tNot, tAndV, tOrV, tNotV, tTup, tLst, tIf, gTup, gCons, gNil, tPar, tAug, ipI, gSub, L2.start, cxOf, Cx.nox, List.map_cons, List.map_nil, List.length_cons, List.length_nil, List.replicate, Nat.reduceAdd, Nat.reduceSub, List.cons_append, List.nil_append, List.append_nil, List.getElem?_cons_zero, List.getElem?_cons_succ, Option.some.injEq, V.int.injEq, V.bl.injEq, V.str.injEq, V.ref.injEq, V.ty.injEq, List.cons.injEq, and_true, true_and, exists_eq_left, exists_eq_left', exists_and_left, exists_and_right, decide_eq_true_eq, List.set_cons_zero, List.set_cons_succ, Bool.not_eq_true', decide_eq_false_iff_not, isi_NoneType_int, isi_NoneType_bool, isi_NoneType_tuple, isi_NoneType_str, isi_NoneType_list, isi_bool_int, isi_bool_bool, isi_bool_tuple, isi_bool_str, isi_bool_list, isi_int_int, isi_int_bool, isi_int_tuple, isi_int_str, isi_int_list, isi_str_int, isi_str_bool, isi_str_tuple, isi_str_str, isi_str_list, isi_list_int, isi_list_bool, isi_list_tuple, isi_list_str, isi_list_list, isi_tuple_int, isi_tuple_bool, isi_tuple_tuple, isi_tuple_str, isi_tuple_list, Bool.false_eq_true, if_true, if_false, reduceIte, Bool.not_true, Bool.not_false, reduceCtorEq, false_and, and_false, exists_false, exists_const, scal_int, scal_bl, scal_str, absE, ne_eq, not_true_eq_false, not_false_eq_true, Int.natCast_add, Int.cast_ofNat_Int, and_assoc, tChain3, tTupF, rTupOfF]
    refine ⟨_, _, rfl, hp, by decide, fun wy H1 w0 w1 c1 => ?_⟩
    have hd1 := c1.dt hd rfl
    refine hd1.kn.isi (by decide) ?_
    have same : ∀ H', Ch p H H' → Dt (· = p) B H' d v → Q v H' := fun H' c h => ret d v H' c (Dt.mono (by omega) (fun _ _ _ e => e) d v h)
    cases d with
    | tuple ds =>
      obtain ⟨a, xs, rfl, ne, ha, hl, hs⟩ := id hd1
      simp only [tSeq, tAsg, gName, tRet, tRetN, tDrop, tIfS, tNext, tBreak, tCont, tTest, tB, tVar, tC, tCons, tNil, tCB, tCall, tCallK, tOp, tUn, rI0, rI, rU, rEq, rNe, tAnd, tOr, tNot, tAndV, tOrV, tNotV, tTup, tLst, tIf, gTup, gCons, gNil, tPar, tAug, ipI, gSub, L2.start, cxOf, Cx.nox, List.map_cons, List.map_nil, List.length_cons, List.length_nil, List.replicate, Nat.reduceAdd, Nat.reduceSub, List.cons_append, List.nil_append, List.append_nil, List.getElem?_cons_zero, List.getElem?_cons_succ, Option.some.injEq, V.int.injEq, V.bl.injEq, V.str.injEq, V.ref.injEq, V.ty.injEq, List.cons.injEq, and_true, true_and, exists_eq_left, exists_eq_left', exists_and_left, exists_and_right, decide_eq_true_eq, List.set_cons_zero, List.set_cons_succ, Bool.not_eq_true', decide_eq_false_iff_not, isi_NoneType_int, isi_NoneType_bool, isi_NoneType_tuple, isi_NoneType_str, isi_NoneType_list, isi_bool_int, isi_bool_bool, isi_bool_tuple, isi_bool_str, isi_bool_list, isi_int_int, isi_int_bool, isi_int_tuple, isi_int_str, isi_int_list, isi_str_int, isi_str_bool, isi_str_tuple, isi_str_str, isi_str_list, isi_list_int, isi_list_bool, isi_list_tuple, isi_list_str, isi_list_list, isi_tuple_int, isi_tuple_bool, isi_tuple_tuple, isi_tuple_str, isi_tuple_list, Bool.false_eq_true, if_true, if_false, reduceIte, Bool.not_true, Bool.not_false, reduceCtorEq, false_and, and_false, exists_false, exists_const, scal_int, scal_bl, scal_str, absE, ne_eq, not_true_eq_false, not_false_eq_true, Int.natCast_add, Int.cast_ofNat_Int, and_assoc, tChain3, tTupF, rTupOfF, kindOf, rIxL, rIxT]
      refine ⟨_, .inr ha.sq, ?_⟩
      rw [← hs.len]
      refine ite2 (fun h => same _ c1 hd1) (fun h => ?_)
      obtain ⟨d1, d2, rfl⟩ := two h
      obtain ⟨v1, v2, rfl⟩ : ∃ u v, xs = [u, v] := by
        have := hs.len
        match xs, this with
        | [u, v], _ => exact ⟨u, v, rfl⟩
      obtain ⟨h1, h2, _⟩ := hs
      have sqa := ha.sq (K := K)
      refine ⟨_, sqa, v2, rfl, ?_⟩
      refine h2.kn.isi (by decide) ?_
      cases d2 with
      | tuple ls =>
        obtain ⟨l2, ys, rfl, ne2, ha2, hl2, hs2⟩ := id h2
        simp only [tSeq, tAsg, gName, tRet, tRetN, tDrop, tIfS, tNext, tBreak, tCont, tTest, tB, tVar, tC, tCons, tNil, tCB, tCall, tCallK, tOp, tUn, rI0, rI, rU, rEq, rNe, tAnd, tOr, tNot, tAndV, tOrV, tNotV, tTup, tLst, tIf, gTup, gCons, gNil, tPar, tAug, ipI, gSub, L2.start, cxOf, Cx.nox, List.map_cons, List.map_nil, List.length_cons, List.length_nil, List.replicate, Nat.reduceAdd, Nat.reduceSub, List.cons_append, List.nil_append, List.append_nil, List.getElem?_cons_zero, List.getElem?_cons_succ, Option.some.injEq, V.int.injEq, V.bl.injEq, V.str.injEq, V.ref.injEq, V.ty.injEq, List.cons.injEq, and_true, true_and, exists_eq_left, exists_eq_left', exists_and_left, exists_and_right, decide_eq_true_eq, List.set_cons_zero, List.set_cons_succ, Bool.not_eq_true', decide_eq_false_iff_not, isi_NoneType_int, isi_NoneType_bool, isi_NoneType_tuple, isi_NoneType_str, isi_NoneType_list, isi_bool_int, isi_bool_bool, isi_bool_tuple, isi_bool_str, isi_bool_list, isi_int_int, isi_int_bool, isi_int_tuple, isi_int_str, isi_int_list, isi_str_int, isi_str_bool, isi_str_tuple, isi_str_str, isi_str_list, isi_list_int, isi_list_bool, isi_list_tuple, isi_list_str, isi_list_list, isi_tuple_int, isi_tuple_bool, isi_tuple_tuple, isi_tuple_str, isi_tuple_list, Bool.false_eq_true, if_true, if_false, reduceIte, Bool.not_true, Bool.not_false, reduceCtorEq, false_and, and_false, exists_false, exists_const, scal_int, scal_bl, scal_str, absE, ne_eq, not_true_eq_false, not_false_eq_true, Int.natCast_add, Int.cast_ofNat_Int, and_assoc, tChain3, tTupF, rTupOfF, kindOf, rIxL, rIxT]
        refine ⟨_, sqa, v1, rfl, _, sqa, _, rfl, ?_⟩
        simp (config := {maxSteps := 10000000}) only [tSeq, tAsg, gName, tRet, tRetN, tDrop, tIfS, tNext, tBreak, tCont, tTest, tB, tVar, tC, tCons, tNil, tCB, tCall, tCallK, tOp, tUn, rI0, rI, rU, rEq, rNe, tAnd, tOr, tNot, tAndV, tOrV, tNotV, tTup, tLst, tIf, gTup, gCons, gNil, tPar, tAug, ipI, gSub, L2.start, cxOf, Cx.nox, List.map_cons, List.map_nil, List.length_cons, List.length_nil, List.replicate, Nat.reduceAdd, Nat.reduceSub, List.cons_append, List.nil_append, List.append_nil, List.getElem?_cons_zero, List.getElem?_cons_succ, Option.some.injEq, V.int.injEq, V.bl.injEq, V.str.injEq, V.ref.injEq, V.ty.injEq, List.cons.injEq, and_true, true_and, exists_eq_left, exists_eq_left', exists_and_left, exists_and_right, decide_eq_true_eq, List.set_cons_zero, List.set_cons_succ, Bool.not_eq_true', decide_eq_false_iff_not, isi_NoneType_int, isi_NoneType_bool, isi_NoneType_tuple, isi_NoneType_str, isi_NoneType_list, isi_bool_int, isi_bool_bool, isi_bool_tuple, isi_bool_str, isi_bool_list, isi_int_int, isi_int_bool, isi_int_tuple, isi_int_str, isi_int_list, isi_str_int, isi_str_bool, isi_str_tuple, isi_str_str, isi_str_list, isi_list_int, isi_list_bool, isi_list_tuple, isi_list_str, isi_list_list, isi_tuple_int, isi_tuple_bool, isi_tuple_tuple, isi_tuple_str, isi_tuple_list, Bool.false_eq_true, if_true, if_false, reduceIte, Bool.not_true, Bool.not_false, reduceCtorEq, false_and, and_false, exists_false, exists_const, scal_int, scal_bl, scal_str, absE, ne_eq, not_true_eq_false, not_false_eq_true, Int.natCast_add, Int.cast_ofNat_Int, and_assoc, tChain3, tTupF, rTupOfF, rIxL, rIxT]
        refine ⟨_, .inr ha2.sq, fun l hl => ?_⟩
        have hB' : (100000 : Int) ≤ B := Int.le_trans (by decide) hB
        have hB59 : (10 : Int) ^ 59 ≤ B := Int.le_trans (by decide) hB
        have eL := Evl.Ex.new (o := HO.lst ys) hl
        have cL := c1.ex eL
        have nel := c1.st.ne_new hl
        have atL : upd H1 l (HO.lst ys) l = some (.lst ys) := upd_same
        have haL : TupN (upd H1 l (HO.lst ys)) a [v1, .ref l2] := ha.by fun o q => eL _ _ q
        have lift : ∀ {d : PyData} {v : V} {H' : Hp}, Dt (· = p) B H1 d v → Ch p H1 H' → Dt (· = p) (B + 1) H' d v := fun h c => Dt.mono (by omega) c.keep _ _ h
        have liftS : ∀ {d : PyData} {v : V} {H' : Hp}, Dt (· = p) B H1 d v → Ch p H1 H' → Dt (SS p l) (B + 1) H' d v := fun h c => Dt.mono (by omega) (fun b o nb q => c.keep b o (fun y => nb (.inl y)) q) _ _ (Dt.more (p' := SS p l) (fun a z => z.elim .inl (fun z => .inr (by rw [z]; exact hl))) _ _ h)
        have wkS : ∀ {d : PyData} {v : V} {B : Int} {H' : Hp}, Dt (SS p l) B H' d v → Dt (· = p) B H' d v := fun h => Dt.weak (fun a z => .inl z) _ _ h
        have wkA : ∀ {ds : List PyData} {xs : List V} {B : Int} {H' : Hp}, DtAll (SS p l) B H' ds xs → DtAll (· = p) B H' ds xs := fun h => DtAll.weak (fun a z => .inl z) _ _ h
        have rL : RowL (SS p l) p l (B + 1) ys.length H1 (upd H1 l (HO.lst ys)) := ⟨Ch.of c1.st eL, ls, ys, atL, DtAll.mono (by omega) (Keep.of eL) _ _ (DtAll.more (fun a z => z.elim .inl (fun z => .inr (by rw [z]; exact hl))) _ _ hs2), rfl⟩
        generalize upd H1 l (HO.lst ys) = HL at *
        have cl : Ch p H1 HL := rL.ch
        have bigB : ∀ {d : PyData} {v : V} {p' : Addr → Prop} {H' : Hp}, Dt p' big H' d v → Dt p' (B + 1) H' d v := fun h => Dt.mono (by omega) (fun _ _ _ q => q) _ _ h
        have tup2 : ∀ {x : V} {dx : PyData} {y : V} {dy : PyData} {q : Addr} {H' H2 : Hp}, Ch p H H' → Dt (· = p) (B + 1) H' dx x → Dt (· = p) (B + 1) H' dy y → H' q = none → Evl.Ex H' H2 → TupN H2 q [x, y] → Q (.ref q) H2 := by
          intro x dx y dy q H' H2 c hx hy hq e t
          exact ret (.tuple [dx, dy]) _ _ (c.ex e) ⟨q, _, rfl, c.st.ne_new hq, t, Nat.le_of_ble_eq_true rfl, hx.ex e, hy.ex e, True.intro⟩
        refine ite2 (fun w1 => ?_) (fun _ => ?_)
        · refine ⟨_, haL.sq, _, rfl, by decide, fun m1 hm1 => ⟨by decide, fun m2 H2 hm2 e2 t2 => ?_⟩⟩
          have e1 := Evl.Ex.new (o := HO.lst [v1, .ref l2]) hm1
          have a1 : upd HL m1 (HO.lst [v1, .ref l2]) m1 = some (.lst [v1, .ref l2]) := upd_same
          have n1 := cl.st.ne_new hm1
          generalize upd HL m1 (HO.lst [v1, .ref l2]) = Hm1 at *
          have c2 := (cl.ex e1).ex e2
          have n2 := (cl.ex e1).st.ne_new hm2
          have ha2' := (haL.ex e1).ex e2
          refine ⟨_, ha2'.sq, _, rfl, by decide, fun m3 H3 hm3 e3 t3 => ?_⟩
          have n3 := c2.st.ne_new hm3
          have c3 := c2.ex e3
          refine ⟨_, (ha2'.ex e3).sq, _, rfl, by decide, fun m4 H4 hm4 e4 t4 => ⟨by decide, fun m5 hm5 => ?_⟩⟩
          have n4 := c3.st.ne_new hm4
          have c4 := c3.ex e4
          have e5 := Evl.Ex.new (o := HO.lst [V.ref m1, V.ref m2, V.ref m3, V.ref m4]) hm5
          have a5 : upd H4 m5 (HO.lst [V.ref m1, V.ref m2, V.ref m3, V.ref m4]) m5 = some (.lst [V.ref m1, V.ref m2, V.ref m3, V.ref m4]) := upd_same
          have n5 := c4.st.ne_new hm5
          generalize upd H4 m5 (HO.lst [V.ref m1, V.ref m2, V.ref m3, V.ref m4]) = H5 at *
          have c5 := c4.ex e5
          refine ⟨_, _, rfl, c5.st, by decide, fun k H6 k0 k1 c6 => ?_⟩
          have c7 := c5.trans c6
          have q1 := lift h1 c7
          have q2 := lift h2 c7
          have t1' := c6.keep _ _ n1 (e5 _ _ (e4 _ _ (e3 _ _ (e2 _ _ a1))))
          have t2' := (((t2.ex e3).ex e4).ex e5).by fun o q => c6.keep _ _ n2 q
          have t3' := ((t3.ex e4).ex e5).by fun o q => c6.keep _ _ n3 q
          have t4' := (t4.ex e5).by fun o q => c6.keep _ _ n4 q
          refine ⟨_, k, rfl, SqL.of (c6.keep _ _ n5 a5), ?_⟩
          obtain rfl | rfl | rfl | rfl : k = 0 ∨ k = 1 ∨ k = 2 ∨ k = 3 := by omega
          · exact ⟨_, rfl, ret (.list [d1, .tuple ls]) _ _ (c1.trans c7) ⟨m1, _, rfl, n1, t1', Nat.le_of_ble_eq_true rfl, q1, q2, True.intro⟩⟩
          · exact ⟨_, rfl, ret (.tuple [d1]) _ _ (c1.trans c7) ⟨m2, _, rfl, n2, t2', Nat.le_of_ble_eq_true rfl, q1, True.intro⟩⟩
          · exact ⟨_, rfl, ret (.tuple [d1, .tuple ls, .int 0]) _ _ (c1.trans c7) ⟨m3, _, rfl, n3, t3', Nat.le_of_ble_eq_true rfl, q1, q2, ⟨rfl, by omega, by omega⟩, True.intro⟩⟩
          · exact ⟨_, rfl, ret (.tuple [.tuple ls, d1]) _ _ (c1.trans c7) ⟨m4, _, rfl, n4, t4', Nat.le_of_ble_eq_true rfl, q2, q1, True.intro⟩⟩
        refine ite2 (fun w2 => ?_) (fun _ => ?_)
        · refine ⟨_, rfl, cl.st, fun d v H2 c2 hv => ?_⟩
          have hv' : Dt (· = p) (B + 1) H2 d v := bigB (Dt.weak (fun a z => by rw [z]; exact cl.st.old) _ _ hv)
          have c3 := cl.trans c2
          have sq3 : SqT K H2 a [v1, .ref l2] := (haL.by fun o q => c2.keep _ _ (by
            obtain ⟨_, _, q'⟩ := haL
            rintro rfl
            obtain ⟨ns, e, _⟩ := cl.st
            rw [e] at q'
            cases q') q).sq
          refine ⟨v, _, rfl, hv.kn, _, rfl, ?_⟩
          rw [hv.isInt]
          refine ite2 (fun hi => ?_) (fun _ => ?_)
          · obtain ⟨i, rfl⟩ := isInt_int hi
            obtain ⟨rfl, l1, l2'⟩ := id hv'
            refine ⟨_, rfl, ite2 (fun _ => ?_) (fun _ => ?_)⟩
            · exact ⟨_, sq3, _, rfl, by decide, fun q H' hq e t => tup2 (dx := .int 9973) (c1.trans c3) ⟨rfl, by omega, by omega⟩ (lift h2 c3) hq e t⟩
            · exact ⟨_, sq3, _, rfl, by decide, fun q H' hq e t => tup2 (c1.trans c3) hv' (lift h2 c3) hq e t⟩
          · exact ⟨_, sq3, _, rfl, by decide, fun q H' hq e t => tup2 (c1.trans c3) hv' (lift h2 c3) hq e t⟩
        refine ite2 (fun w3 => ?_) (fun _ => ?_)
        · refine ⟨_, rfl, cl.st, fun d v H2 c2 hv => ⟨by decide, fun m1 hm1 => ?_⟩⟩
          have hv' : Dt (· = p) (B + 1) H2 d v := bigB (Dt.weak (fun a z => by rw [z]; exact cl.st.old) _ _ hv)
          have e1 := Evl.Ex.new (o := HO.lst [V.ref l, v]) hm1
          have n1 := c2.st.ne_new hm1
          have a1 : upd H2 m1 (HO.lst [V.ref l, v]) m1 = some (.lst [V.ref l, v]) := upd_same
          generalize upd H2 m1 (HO.lst [V.ref l, v]) = H3 at *
          have c3 := c2.ex e1
          refine ⟨_, _, rfl, c3.st, by decide, fun k H4 k0 k1 c4 => ?_⟩
          have c5 := c3.trans c4
          refine ⟨_, k, rfl, SqL.of (c4.keep _ _ n1 a1), ?_⟩
          obtain ⟨ds, zs, lz, dz, zn⟩ := (rL.go (.inl rfl) nel c5).row
          have c6 := (rL.go (.inl rfl) nel c5).ch
          obtain rfl | rfl : k = 0 ∨ k = 1 := by omega
          · refine ⟨_, rfl, by decide, fun q H' hq e t => ?_⟩
            exact tup2 (dy := .list ds) (c1.trans c6) (lift h1 c6) ⟨l, zs, rfl, nel, lz, by omega, wkA dz⟩ hq e t
          · refine ⟨_, rfl, by decide, fun q H' hq e t => ?_⟩
            exact tup2 (c1.trans c6) (lift h1 c6) ((hv'.ex e1).mono (Int.le_refl _) c4.keep) hq e t
        refine ⟨_, .inl (SqL.of atL), ?_⟩
        refine ite2 (fun h0 => ?_) (fun h0 => ?_)
        · refine ⟨_, rfl, cl.st, fun d v H2 c2 hv => ⟨by decide, fun m1 H3 hm1 e3 t1 => ⟨by decide, fun q H4 hq e4 t => ?_⟩⟩⟩
          have hv' : Dt (· = p) (B + 1) H2 d v := bigB (Dt.weak (fun a z => by rw [z]; exact cl.st.old) _ _ hv)
          have n1 := c2.st.ne_new hm1
          have c5 := cl.trans (c2.ex e3)
          exact tup2 (dy := .tuple [d]) (c1.trans c5) (lift h1 c5) ⟨m1, _, rfl, n1, t1, Nat.le_of_ble_eq_true rfl, hv'.ex e3, True.intro⟩ hq e4 t
        refine ⟨_, .inl (SqL.of atL), _, _, rfl, cl.st, by omega, fun k H2 k0 k1 c2 => ?_⟩
        obtain ⟨j, rfl⟩ : ∃ j : Nat, k = j := ⟨k.toNat, by omega⟩
        have r2 := rL.go (.inl rfl) nel c2
        refine ⟨fun σ' H' => σ' = [some (.ref p), some (.ref a), some (.int wy), some v1, some (.ref l), none, some (.int j), none, none, none] ∧ RowL (SS p l) p l (B + 1) ys.length H1 H', ?_, ?_⟩
        · simp (config := {maxSteps := 10000000}) only [tSeq, tAsg, gName, tRet, tRetN, tDrop, tIfS, tNext, tBreak, tCont, tTest, tB, tVar, tC, tCons, tNil, tCB, tCall, tCallK, tOp, tUn, rI0, rI, rU, rEq, rNe, tAnd, tOr, tNot, tAndV, tOrV, tNotV, tTup, tLst, tIf, gTup, gCons, gNil, tPar, tAug, ipI, gSub, L2.start, cxOf, Cx.nox, List.map_cons, List.map_nil, List.length_cons, List.length_nil, List.replicate, Nat.reduceAdd, Nat.reduceSub, List.cons_append, List.nil_append, List.append_nil, List.getElem?_cons_zero, List.getElem?_cons_succ, Option.some.injEq, V.int.injEq, V.bl.injEq, V.str.injEq, V.ref.injEq, V.ty.injEq, List.cons.injEq, and_true, true_and, exists_eq_left, exists_eq_left', exists_and_left, exists_and_right, decide_eq_true_eq, List.set_cons_zero, List.set_cons_succ, Bool.not_eq_true', decide_eq_false_iff_not, isi_NoneType_int, isi_NoneType_bool, isi_NoneType_tuple, isi_NoneType_str, isi_NoneType_list, isi_bool_int, isi_bool_bool, isi_bool_tuple, isi_bool_str, isi_bool_list, isi_int_int, isi_int_bool, isi_int_tuple, isi_int_str, isi_int_list, isi_str_int, isi_str_bool, isi_str_tuple, isi_str_str, isi_str_list, isi_list_int, isi_list_bool, isi_list_tuple, isi_list_str, isi_list_list, isi_tuple_int, isi_tuple_bool, isi_tuple_tuple, isi_tuple_str, isi_tuple_list, Bool.false_eq_true, if_true, if_false, reduceIte, Bool.not_true, Bool.not_false, reduceCtorEq, false_and, and_false, exists_false, exists_const, scal_int, scal_bl, scal_str, absE, ne_eq, not_true_eq_false, not_false_eq_true, Int.natCast_add, Int.cast_ofNat_Int, and_assoc, tChain3, tTupF, rTupOfF, rIxL, rIxT]
          refine ite2 (fun w4 => ?_) (fun _ => r2)
          refine ⟨_, rfl, r2.ch.st, fun d v H3 c3 hv => ?_⟩
          have r3 := r2.go (.inl rfl) nel c3
          obtain ⟨ds, zs, lz, dz, zn⟩ := r2.row
          have lz3 := c3.keep _ _ nel lz
          refine ⟨_, _, _, _, rfl, rfl, lz3, Evl.ixN_nat (by omega), r3.set (.inr rfl) hl nel lz3 (bigB (Dt.weak (fun a z => by
            obtain rfl | rfl := z
            · exact r2.ch.st.old
            · intro e
              rw [lz] at e
              cases e) _ _ hv))⟩
        · rintro σ' H' ⟨rfl, r⟩
          obtain ⟨ds, zs, lz, dz, zn⟩ := r.row
          have sqz := SqL.of (K := K) lz
          refine ⟨fun σ' H' => (∃ x5 x6 x7 x8 x9, σ' = [some (.ref p), some (.ref a), some (.int wy), some v1, some (.ref l), x5, x6, x7, x8, x9]) ∧ RowL (SS p l) p l (B + 1) ys.length H1 H', ?_, ?_⟩
          · simp (config := {maxSteps := 10000000}) only [tSeq, tAsg, gName, tRet, tRetN, tDrop, tIfS, tNext, tBreak, tCont, tTest, tB, tVar, tC, tCons, tNil, tCB, tCall, tCallK, tOp, tUn, rI0, rI, rU, rEq, rNe, tAnd, tOr, tNot, tAndV, tOrV, tNotV, tTup, tLst, tIf, gTup, gCons, gNil, tPar, tAug, ipI, gSub, L2.start, cxOf, Cx.nox, List.map_cons, List.map_nil, List.length_cons, List.length_nil, List.replicate, Nat.reduceAdd, Nat.reduceSub, List.cons_append, List.nil_append, List.append_nil, List.getElem?_cons_zero, List.getElem?_cons_succ, Option.some.injEq, V.int.injEq, V.bl.injEq, V.str.injEq, V.ref.injEq, V.ty.injEq, List.cons.injEq, and_true, true_and, exists_eq_left, exists_eq_left', exists_and_left, exists_and_right, decide_eq_true_eq, List.set_cons_zero, List.set_cons_succ, Bool.not_eq_true', decide_eq_false_iff_not, isi_NoneType_int, isi_NoneType_bool, isi_NoneType_tuple, isi_NoneType_str, isi_NoneType_list, isi_bool_int, isi_bool_bool, isi_bool_tuple, isi_bool_str, isi_bool_list, isi_int_int, isi_int_bool, isi_int_tuple, isi_int_str, isi_int_list, isi_str_int, isi_str_bool, isi_str_tuple, isi_str_str, isi_str_list, isi_list_int, isi_list_bool, isi_list_tuple, isi_list_str, isi_list_list, isi_tuple_int, isi_tuple_bool, isi_tuple_tuple, isi_tuple_str, isi_tuple_list, Bool.false_eq_true, if_true, if_false, reduceIte, Bool.not_true, Bool.not_false, reduceCtorEq, false_and, and_false, exists_false, exists_const, scal_int, scal_bl, scal_str, absE, ne_eq, not_true_eq_false, not_false_eq_true, Int.natCast_add, Int.cast_ofNat_Int, and_assoc, tChain3, tTupF, rTupOfF, rIxL, rIxT]
            refine ite2 (fun w4 => ?_) (fun _ => ⟨⟨_, rfl⟩, r⟩)
            obtain ⟨x, hx⟩ : ∃ x, zs[j]? = some x := ⟨_, List.getElem?_eq_getElem (by omega)⟩
            obtain ⟨dx, _, hdx⟩ := dz.get hx
            have ax := atI_nat hx
            refine ⟨_, sqz, x, ax, hdx.kn.isi (by decide) ?_⟩
            cases dx with
            | tuple rs =>
              obtain ⟨r0, rw0, rfl, nr, hr0, lr, dr⟩ := id hdx
              simp only [tSeq, tAsg, gName, tRet, tRetN, tDrop, tIfS, tNext, tBreak, tCont, tTest, tB, tVar, tC, tCons, tNil, tCB, tCall, tCallK, tOp, tUn, rI0, rI, rU, rEq, rNe, tAnd, tOr, tNot, tAndV, tOrV, tNotV, tTup, tLst, tIf, gTup, gCons, gNil, tPar, tAug, ipI, gSub, L2.start, cxOf, Cx.nox, List.map_cons, List.map_nil, List.length_cons, List.length_nil, List.replicate, Nat.reduceAdd, Nat.reduceSub, List.cons_append, List.nil_append, List.append_nil, List.getElem?_cons_zero, List.getElem?_cons_succ, Option.some.injEq, V.int.injEq, V.bl.injEq, V.str.injEq, V.ref.injEq, V.ty.injEq, List.cons.injEq, and_true, true_and, exists_eq_left, exists_eq_left', exists_and_left, exists_and_right, decide_eq_true_eq, List.set_cons_zero, List.set_cons_succ, Bool.not_eq_true', decide_eq_false_iff_not, isi_NoneType_int, isi_NoneType_bool, isi_NoneType_tuple, isi_NoneType_str, isi_NoneType_list, isi_bool_int, isi_bool_bool, isi_bool_tuple, isi_bool_str, isi_bool_list, isi_int_int, isi_int_bool, isi_int_tuple, isi_int_str, isi_int_list, isi_str_int, isi_str_bool, isi_str_tuple, isi_str_str, isi_str_list, isi_list_int, isi_list_bool, isi_list_tuple, isi_list_str, isi_list_list, isi_tuple_int, isi_tuple_bool, isi_tuple_tuple, isi_tuple_str, isi_tuple_list, Bool.false_eq_true, if_true, if_false, reduceIte, Bool.not_true, Bool.not_false, reduceCtorEq, false_and, and_false, exists_false, exists_const, scal_int, scal_bl, scal_str, absE, ne_eq, not_true_eq_false, not_false_eq_true, Int.natCast_add, Int.cast_ofNat_Int, and_assoc, tChain3, tTupF, rTupOfF, kindOf]
              refine ⟨_, sqz, _, ax, _, rfl, _, .inr hr0.sq, ite2 (fun w5 => ?_) (fun _ => ⟨⟨_, rfl⟩, r⟩)⟩
              refine ⟨_, sqz, _, ax, _, rfl, _, .inr hr0.sq, fun m hm => ?_⟩
              have e1 := Evl.Ex.new (o := HO.lst rw0) hm
              have am : upd H' m (HO.lst rw0) m = some (.lst rw0) := upd_same
              have nm := r.ch.st.ne_new hm
              have hmH := hm
              have rm : RowL (SS3 p l m) p m (B + 1) 3 H' (upd H' m (HO.lst rw0)) := ⟨Ch.of r.ch.st e1, rs, rw0, am, DtAll.mono (by omega) (Keep.of e1) _ _ (DtAll.more (fun a z => z.elim .inl (fun z => .inr (by rw [z]; exact hm))) _ _ dr), by omega⟩
              have nlm : l ≠ m := by
                rintro rfl
                rw [lz] at hm
                cases hm
              generalize upd H' m (HO.lst rw0) = Hm at *
              have rl1 := r.go (.inl rfl) nel rm.ch
              have lz1 := e1 _ _ lz
              refine ite2 (fun w6 => ?_) (fun _ => ?_)
              · refine ⟨fun σ' H' => H' = Hm ∧ ∃ en : Int, σ' = [some (.ref p), some (.ref a), some (.int wy), some v1, some (.ref l), none, some (.int j), some (.ref m), some (.int en), none] ∧ -B ≤ en ∧ en ≤ B, ?_, ?_⟩
                · simp only [tSeq, tAsg, gName, tRet, tRetN, tDrop, tIfS, tNext, tBreak, tCont, tTest, tB, tVar, tC, tCons, tNil, tCB, tCall, tCallK, tOp, tUn, rI0, rI, rU, rEq, rNe, tAnd, tOr, tNot, tAndV, tOrV, tNotV, tTup, tLst, tIf, gTup, gCons, gNil, tPar, tAug, ipI, gSub, L2.start, cxOf, Cx.nox, List.map_cons, List.map_nil, List.length_cons, List.length_nil, List.replicate, Nat.reduceAdd, Nat.reduceSub, List.cons_append, List.nil_append, List.append_nil, List.getElem?_cons_zero, List.getElem?_cons_succ, Option.some.injEq, V.int.injEq, V.bl.injEq, V.str.injEq, V.ref.injEq, V.ty.injEq, List.cons.injEq, and_true, true_and, exists_eq_left, exists_eq_left', exists_and_left, exists_and_right, decide_eq_true_eq, List.set_cons_zero, List.set_cons_succ, Bool.not_eq_true', decide_eq_false_iff_not, isi_NoneType_int, isi_NoneType_bool, isi_NoneType_tuple, isi_NoneType_str, isi_NoneType_list, isi_bool_int, isi_bool_bool, isi_bool_tuple, isi_bool_str, isi_bool_list, isi_int_int, isi_int_bool, isi_int_tuple, isi_int_str, isi_int_list, isi_str_int, isi_str_bool, isi_str_tuple, isi_str_str, isi_str_list, isi_list_int, isi_list_bool, isi_list_tuple, isi_list_str, isi_list_list, isi_tuple_int, isi_tuple_bool, isi_tuple_tuple, isi_tuple_str, isi_tuple_list, Bool.false_eq_true, if_true, if_false, reduceIte, Bool.not_true, Bool.not_false, reduceCtorEq, false_and, and_false, exists_false, exists_const, scal_int, scal_bl, scal_str, absE, ne_eq, not_true_eq_false, not_false_eq_true, Int.natCast_add, Int.cast_ofNat_Int, and_assoc, tChain3, tTupF, rTupOfF]
                  have hv1 := lift h1 rl1.ch
                  have h1' : Dt (· = p) B Hm d1 v1 := Dt.mono (Int.le_refl _) rl1.ch.keep _ _ h1
                  refine ⟨v1, _, rfl, hv1.kn, _, rfl, ?_⟩
                  rw [hv1.isInt]
                  refine ite2 (fun hi => ?_) (fun _ => ?_)
                  · obtain ⟨i, rfl⟩ := isInt_int hi
                    obtain ⟨rfl, l1, l2'⟩ := h1'
                    exact ⟨rfl, i, rfl, l1, l2'⟩
                  · exact ⟨rfl, by omega, by omega⟩
                · rintro σ' Hx ⟨eH, en, rfl, en1, en2⟩
                  subst eH
                  simp (config := {maxSteps := 10000000}) only [tSeq, tAsg, gName, tRet, tRetN, tDrop, tIfS, tNext, tBreak, tCont, tTest, tB, tVar, tC, tCons, tNil, tCB, tCall, tCallK, tOp, tUn, rI0, rI, rU, rEq, rNe, tAnd, tOr, tNot, tAndV, tOrV, tNotV, tTup, tLst, tIf, gTup, gCons, gNil, tPar, tAug, ipI, gSub, L2.start, cxOf, Cx.nox, List.map_cons, List.map_nil, List.length_cons, List.length_nil, List.replicate, Nat.reduceAdd, Nat.reduceSub, List.cons_append, List.nil_append, List.append_nil, List.getElem?_cons_zero, List.getElem?_cons_succ, Option.some.injEq, V.int.injEq, V.bl.injEq, V.str.injEq, V.ref.injEq, V.ty.injEq, List.cons.injEq, and_true, true_and, exists_eq_left, exists_eq_left', exists_and_left, exists_and_right, decide_eq_true_eq, List.set_cons_zero, List.set_cons_succ, Bool.not_eq_true', decide_eq_false_iff_not, isi_NoneType_int, isi_NoneType_bool, isi_NoneType_tuple, isi_NoneType_str, isi_NoneType_list, isi_bool_int, isi_bool_bool, isi_bool_tuple, isi_bool_str, isi_bool_list, isi_int_int, isi_int_bool, isi_int_tuple, isi_int_str, isi_int_list, isi_str_int, isi_str_bool, isi_str_tuple, isi_str_str, isi_str_list, isi_list_int, isi_list_bool, isi_list_tuple, isi_list_str, isi_list_list, isi_tuple_int, isi_tuple_bool, isi_tuple_tuple, isi_tuple_str, isi_tuple_list, Bool.false_eq_true, if_true, if_false, reduceIte, Bool.not_true, Bool.not_false, reduceCtorEq, false_and, and_false, exists_false, exists_const, scal_int, scal_bl, scal_str, absE, ne_eq, not_true_eq_false, not_false_eq_true, Int.natCast_add, Int.cast_ofNat_Int, and_assoc, tChain3, tTupF, rTupOfF, rIxL, rIxT]
                  refine ⟨_, _, rfl, rm.ch.st, by decide, fun k H2 k0 k1 c2 => ⟨by decide, fun t1 H3 ht1 e3 tt1 => ⟨⟨by decide, by decide, by decide⟩, by decide, fun m2 hm2 => ?_⟩⟩⟩
                  have n1 := c2.st.ne_new ht1
                  have n2 := (c2.ex e3).st.ne_new hm2
                  have e4 := Evl.Ex.new (o := HO.lst [V.non, V.bl true, V.bl false, V.int (-1), V.int 0, V.int en, V.int (en - 1), V.str (Str.ofString "1"), V.ref t1, V.int (10 ^ Int.toNat 59)]) hm2
                  have a4 : upd H3 m2 (HO.lst [V.non, V.bl true, V.bl false, V.int (-1), V.int 0, V.int en, V.int (en - 1), V.str (Str.ofString "1"), V.ref t1, V.int (10 ^ Int.toNat 59)]) m2 = some (.lst [V.non, V.bl true, V.bl false, V.int (-1), V.int 0, V.int en, V.int (en - 1), V.str (Str.ofString "1"), V.ref t1, V.int (10 ^ Int.toNat 59)]) := upd_same
                  generalize upd H3 m2 (HO.lst [V.non, V.bl true, V.bl false, V.int (-1), V.int 0, V.int en, V.int (en - 1), V.str (Str.ofString "1"), V.ref t1, V.int (10 ^ Int.toNat 59)]) = H4 at *
                  have c4 := (c2.ex e3).ex e4
                  have b59 : (10 : Int) ^ Int.toNat 59 = 10 ^ 59 := rfl
                  refine ⟨_, _, rfl, c4.st, by decide, fun i H5 i0 i1 c5 => ?_⟩
                  have nt1 : ¬ SS3 p l m t1 := by
                    have hl2 := (rl1.go (.inl rfl) nel c2).row
                    have hm2 := (rm.go (.inl (.inl rfl)) nm c2).row
                    rintro ((z | z) | z)
                    · exact n1 z
                    · obtain ⟨_, _, e, _⟩ := hl2
                      rw [← z, ht1] at e
                      cases e
                    · obtain ⟨_, _, e, _⟩ := hm2
                      rw [← z, ht1] at e
                      cases e
                  have rm5 := rm.go (.inl (.inl rfl)) nm (c4.trans c5)
                  obtain ⟨rs', zs', lzm, dzm, zn3⟩ := rm5.row
                  have tt5 : TupN H5 t1 [V.int 1] := (tt1.ex e4).by fun o q => c5.keep _ _ n1 q
                  obtain ⟨x, dx, ex, hx⟩ : ∃ x dx, atI [V.non, V.bl true, V.bl false, V.int (-1), V.int 0, V.int en, V.int (en - 1), V.str (Str.ofString "1"), V.ref t1, V.int (10 ^ Int.toNat 59)] i = some x ∧ Dt (SS3 p l m) (B + 1) H5 dx x := by
                    obtain rfl | rfl | rfl | rfl | rfl | rfl | rfl | rfl | rfl | rfl : i = 0 ∨ i = 1 ∨ i = 2 ∨ i = 3 ∨ i = 4 ∨ i = 5 ∨ i = 6 ∨ i = 7 ∨ i = 8 ∨ i = 9 := by omega
                    · exact ⟨_, .none, rfl, rfl⟩
                    · exact ⟨_, .bool true, rfl, rfl⟩
                    · exact ⟨_, .bool false, rfl, rfl⟩
                    · exact ⟨_, .int (-1), rfl, rfl, by omega, by omega⟩
                    · exact ⟨_, .int 0, rfl, rfl, by omega, by omega⟩
                    · exact ⟨_, .int en, rfl, rfl, by omega, by omega⟩
                    · exact ⟨_, .int (en - 1), rfl, rfl, by omega, by omega⟩
                    · exact ⟨_, .str "1", rfl, rfl⟩
                    · exact ⟨_, .tuple [.int 1], rfl, t1, _, rfl, nt1, tt5, by decide, ⟨rfl, by omega, by omega⟩, True.intro⟩
                    · exact ⟨_, .int (10 ^ 59), rfl, rfl, by omega, by omega⟩
                  refine ⟨_, i, rfl, SqL.of (c5.keep _ _ n2 a4), x, ex, ?_⟩
                  obtain ⟨kk, rfl⟩ : ∃ kk : Nat, k = kk := ⟨k.toNat, by omega⟩
                  have rm6 := rm5.set (j := kk) (.inr rfl) hmH nm lzm hx
                  refine ⟨_, _, _, _, rfl, rfl, lzm, Evl.ixN_nat (by omega), ?_⟩
                  generalize upd H5 m (HO.lst (zs'.set kk x)) = H6 at *
                  obtain ⟨ds6, zs6, l6, d6, z6⟩ := rm6.row
                  refine ⟨_, SqL.of l6, fun q H7 hq e7 t7 => ?_⟩
                  have r6 := r.go (.inl rfl) nel rm6.ch
                  have r7 := r6.go (.inl rfl) nel (Ch.of r6.ch.st e7)
                  obtain ⟨_, zs7, lz7, _, zn7⟩ := r7.row
                  refine ⟨_, _, _, _, rfl, rfl, lz7, Evl.ixN_nat (by omega), ⟨_, rfl⟩, r7.set (d := .tuple ds6) (.inr rfl) hl nel lz7 ⟨q, zs6, rfl, ?_, t7, by omega, DtAll.mono (Int.le_refl _) (Keep.of e7) _ _ (DtAll.weak (fun a z => .inl z) _ _ d6)⟩⟩
                  rintro (z | z)
                  · exact r6.ch.st.ne_new hq z
                  · obtain ⟨_, _, e, _⟩ := r6.row
                    rw [← z, hq] at e
                    cases e
              · refine ⟨_, _, _, _, rfl, rfl, lz1, Evl.ixN_nat (by omega), ⟨_, rfl⟩, rl1.set (d := .list rs) (.inr rfl) hl nel lz1 ?_⟩
                exact ⟨m, rw0, rfl, fun z => z.elim nm (fun z => nlm z.symm), am, lr, DtAll.mono (Int.le_refl _) (Keep.of e1) _ _ dr⟩
            | _ =>
              simp only [tSeq, tAsg, gName, tRet, tRetN, tDrop, tIfS, tNext, tBreak, tCont, tTest, tB, tVar, tC, tCons, tNil, tCB, tCall, tCallK, tOp, tUn, rI0, rI, rU, rEq, rNe, tAnd, tOr, tNot, tAndV, tOrV, tNotV, tTup, tLst, tIf, gTup, gCons, gNil, tPar, tAug, ipI, gSub, L2.start, cxOf, Cx.nox, List.map_cons, List.map_nil, List.length_cons, List.length_nil, List.replicate, Nat.reduceAdd, Nat.reduceSub, List.cons_append, List.nil_append, List.append_nil, List.getElem?_cons_zero, List.getElem?_cons_succ, Option.some.injEq, V.int.injEq, V.bl.injEq, V.str.injEq, V.ref.injEq, V.ty.injEq, List.cons.injEq, and_true, true_and, exists_eq_left, exists_eq_left', exists_and_left, exists_and_right, decide_eq_true_eq, List.set_cons_zero, List.set_cons_succ, Bool.not_eq_true', decide_eq_false_iff_not, isi_NoneType_int, isi_NoneType_bool, isi_NoneType_tuple, isi_NoneType_str, isi_NoneType_list, isi_bool_int, isi_bool_bool, isi_bool_tuple, isi_bool_str, isi_bool_list, isi_int_int, isi_int_bool, isi_int_tuple, isi_int_str, isi_int_list, isi_str_int, isi_str_bool, isi_str_tuple, isi_str_str, isi_str_list, isi_list_int, isi_list_bool, isi_list_tuple, isi_list_str, isi_list_list, isi_tuple_int, isi_tuple_bool, isi_tuple_tuple, isi_tuple_str, isi_tuple_list, Bool.false_eq_true, if_true, if_false, reduceIte, Bool.not_true, Bool.not_false, reduceCtorEq, false_and, and_false, exists_false, exists_const, scal_int, scal_bl, scal_str, absE, ne_eq, not_true_eq_false, not_false_eq_true, Int.natCast_add, Int.cast_ofNat_Int, and_assoc, tChain3, tTupF, rTupOfF, kindOf]
              exact ⟨⟨_, rfl⟩, r⟩
          · rintro σ' H' ⟨⟨x5, x6, x7, x8, x9, rfl⟩, r⟩
            simp (config := {maxSteps := 10000000}) only [tSeq, tAsg, gName, tRet, tRetN, tDrop, tIfS, tNext, tBreak, tCont, tTest, tB, tVar, tC, tCons, tNil, tCB, tCall, tCallK, tOp, tUn, rI0, rI, rU, rEq, rNe, tAnd, tOr, tNot, tAndV, tOrV, tNotV, tTup, tLst, tIf, gTup, gCons, gNil, tPar, tAug, ipI, gSub, L2.start, cxOf, Cx.nox, List.map_cons, List.map_nil, List.length_cons, List.length_nil, List.replicate, Nat.reduceAdd, Nat.reduceSub, List.cons_append, List.nil_append, List.append_nil, List.getElem?_cons_zero, List.getElem?_cons_succ, Option.some.injEq, V.int.injEq, V.bl.injEq, V.str.injEq, V.ref.injEq, V.ty.injEq, List.cons.injEq, and_true, true_and, exists_eq_left, exists_eq_left', exists_and_left, exists_and_right, decide_eq_true_eq, List.set_cons_zero, List.set_cons_succ, Bool.not_eq_true', decide_eq_false_iff_not, isi_NoneType_int, isi_NoneType_bool, isi_NoneType_tuple, isi_NoneType_str, isi_NoneType_list, isi_bool_int, isi_bool_bool, isi_bool_tuple, isi_bool_str, isi_bool_list, isi_int_int, isi_int_bool, isi_int_tuple, isi_int_str, isi_int_list, isi_str_int, isi_str_bool, isi_str_tuple, isi_str_str, isi_str_list, isi_list_int, isi_list_bool, isi_list_tuple, isi_list_str, isi_list_list, isi_tuple_int, isi_tuple_bool, isi_tuple_tuple, isi_tuple_str, isi_tuple_list, Bool.false_eq_true, if_true, if_false, reduceIte, Bool.not_true, Bool.not_false, reduceCtorEq, false_and, and_false, exists_false, exists_const, scal_int, scal_bl, scal_str, absE, ne_eq, not_true_eq_false, not_false_eq_true, Int.natCast_add, Int.cast_ofNat_Int, and_assoc, tChain3, tTupF, rTupOfF, rIxL, rIxT]
            obtain ⟨ds, zs, lz, dz, zn⟩ := r.row
            refine ⟨_, SqL.of lz, fun m H2 hm e t => ⟨by decide, fun q H3 hq e3 t3 => ?_⟩⟩
            exact tup2 (dy := .tuple ds) (c1.trans (r.ch.ex e)) (lift h1 (r.ch.ex e)) ⟨m, zs, rfl, r.ch.st.ne_new hm, t, by omega, wkA (DtAll.mono (Int.le_refl _) (Keep.of e) _ _ dz)⟩ hq e3 t3
      | _ =>
        simp only [tSeq, tAsg, gName, tRet, tRetN, tDrop, tIfS, tNext, tBreak, tCont, tTest, tB, tVar, tC, tCons, tNil, tCB, tCall, tCallK, tOp, tUn, rI0, rI, rU, rEq, rNe, tAnd, tOr, tNot, tAndV, tOrV, tNotV, tTup, tLst, tIf, gTup, gCons, gNil, tPar, tAug, ipI, gSub, L2.start, cxOf, Cx.nox, List.map_cons, List.map_nil, List.length_cons, List.length_nil, List.replicate, Nat.reduceAdd, Nat.reduceSub, List.cons_append, List.nil_append, List.append_nil, List.getElem?_cons_zero, List.getElem?_cons_succ, Option.some.injEq, V.int.injEq, V.bl.injEq, V.str.injEq, V.ref.injEq, V.ty.injEq, List.cons.injEq, and_true, true_and, exists_eq_left, exists_eq_left', exists_and_left, exists_and_right, decide_eq_true_eq, List.set_cons_zero, List.set_cons_succ, Bool.not_eq_true', decide_eq_false_iff_not, isi_NoneType_int, isi_NoneType_bool, isi_NoneType_tuple, isi_NoneType_str, isi_NoneType_list, isi_bool_int, isi_bool_bool, isi_bool_tuple, isi_bool_str, isi_bool_list, isi_int_int, isi_int_bool, isi_int_tuple, isi_int_str, isi_int_list, isi_str_int, isi_str_bool, isi_str_tuple, isi_str_str, isi_str_list, isi_list_int, isi_list_bool, isi_list_tuple, isi_list_str, isi_list_list, isi_tuple_int, isi_tuple_bool, isi_tuple_tuple, isi_tuple_str, isi_tuple_list, Bool.false_eq_true, if_true, if_false, reduceIte, Bool.not_true, Bool.not_false, reduceCtorEq, false_and, and_false, exists_false, exists_const, scal_int, scal_bl, scal_str, absE, ne_eq, not_true_eq_false, not_false_eq_true, Int.natCast_add, Int.cast_ofNat_Int, and_assoc, tChain3, tTupF, rTupOfF, kindOf, rIxL, rIxT]
        exact same _ c1 hd1
    | _ =>
      simp only [tSeq, tAsg, gName, tRet, tRetN, tDrop, tIfS, tNext, tBreak, tCont, tTest, tB, tVar, tC, tCons, tNil, tCB, tCall, tCallK, tOp, tUn, rI0, rI, rU, rEq, rNe, tAnd, tOr, tNot, tAndV, tOrV, tNotV, tTup, tLst, tIf, gTup, gCons, gNil, tPar, tAug, ipI, gSub, L2.start, cxOf, Cx.nox, List.map_cons, List.map_nil, List.length_cons, List.length_nil, List.replicate, Nat.reduceAdd, Nat.reduceSub, List.cons_append, List.nil_append, List.append_nil, List.getElem?_cons_zero, List.getElem?_cons_succ, Option.some.injEq, V.int.injEq, V.bl.injEq, V.str.injEq, V.ref.injEq, V.ty.injEq, List.cons.injEq, and_true, true_and, exists_eq_left, exists_eq_left', exists_and_left, exists_and_right, decide_eq_true_eq, List.set_cons_zero, List.set_cons_succ, Bool.not_eq_true', decide_eq_false_iff_not, isi_NoneType_int, isi_NoneType_bool, isi_NoneType_tuple, isi_NoneType_str, isi_NoneType_list, isi_bool_int, isi_bool_bool, isi_bool_tuple, isi_bool_str, isi_bool_list, isi_int_int, isi_int_bool, isi_int_tuple, isi_int_str, isi_int_list, isi_str_int, isi_str_bool, isi_str_tuple, isi_str_str, isi_str_list, isi_list_int, isi_list_bool, isi_list_tuple, isi_list_str, isi_list_list, isi_tuple_int, isi_tuple_bool, isi_tuple_tuple, isi_tuple_str, isi_tuple_list, Bool.false_eq_true, if_true, if_false, reduceIte, Bool.not_true, Bool.not_false, reduceCtorEq, false_and, and_false, exists_false, exists_const, scal_int, scal_bl, scal_str, absE, ne_eq, not_true_eq_false, not_false_eq_true, Int.natCast_add, Int.cast_ofNat_Int, and_assoc, tChain3, tTupF, rTupOfF, kindOf, rIxL, rIxT]
      exact same _ c1 hd1
end
end K00
end
section
set_option Elab.async false
set_option linter.all false
set_option maxRecDepth 100000
set_option maxHeartbeats 4000000
namespace K00
open PySem PySem.Spec PyProof.Rows L2 Pour
theorem Ch.mut {p l : Addr} {H H' : Hp} {o : HO} (c : Ch p H H') (f : H l = none) (ne : l ≠ p) : Ch p H (upd H' l o) := by
  refine ⟨fun b u nb q => ?_, ?_⟩
  · have nbl : b ≠ l := by
      rintro rfl
      rw [f] at q
      cases q
    rw [upd_ne nbl]
    exact c.keep b u nb q
  · obtain ⟨ns, e, hh⟩ := c.st
    exact ⟨ns, by rw [upd_ne (Ne.symm ne)]; exact e, hh⟩
/-- a comprehension whose turns may draw from p; E tells of what it has gathered at D -/
theorem lc_rngC {n : Nat} {ta : TA} {tt : TT} {te : TE} {j : Nat} {vs : List Nat} {σ : L2.St} {H : Hp} {Q : VK} {p : Addr} (E : Addr → Nat → List V → Hp → Prop) (hp : Pool H p) (hn : n ≤ 40000) (hta : ∀ Q', Q' [V.int n] H → ta σ H Q')
    (h0 : ∀ D, H D = none → E D 0 [] (upd H D (.lst [])))
    (hw : ∀ x, wipe ((wipe σ vs).set j (some x)) vs = wipe σ vs)
    (he : ∀ (D : Addr) (i : Nat) (xs : List V) (H1 : Hp) (Q1 : VK) (Q0 : Hp → Prop), i < n → H D = none → D ≠ p → xs.length ≤ i → Ch p H H1 → H1 D = some (.lst xs) → E D i xs H1 →
      (∀ y H2, Ch p H1 H2 → E D (i + 1) (xs ++ [y]) (upd H2 D (.lst (xs ++ [y]))) → Q1 y H2) → (∀ H2, Ch p H1 H2 → E D (i + 1) xs H2 → Q0 H2) →
      tt ((wipe σ vs).set j (some (.int (0 + i)))) H1 fun b H3 => if b = true then te ((wipe σ vs).set j (some (.int (0 + i)))) H3 Q1 else Q0 H3)
    (hq : ∀ (D : Addr) (xs : List V) (H' : Hp), Ch p H H' → H D = none → D ≠ p → H' D = some (.lst xs) → xs.length ≤ n → E D n xs H' → Q (.ref D) H') :
    tLc (iRng1 ta) (gName j) tt te vs σ H Q := by
  refine hta _ ⟨n, rfl, by omega, by omega, fun D hD => ?_⟩
  rw [Int.toNat_natCast]
  have nD := hp.ne_new hD
  refine lc_range (lo := 0) (n := n) (fun i H' => Ch p H H' ∧ ∃ xs, H' D = some (.lst xs) ∧ xs.length ≤ i ∧ E D i xs H') ⟨Ch.of hp (Evl.Ex.new hD), [], upd_same, Nat.le_refl _, h0 D hD⟩ ?_ ?_
  · rintro i H' hi ⟨c, xs, e, hl, ex⟩
    refine ⟨hw _, he D i xs H' _ _ hi hD nD hl c e ex (fun y H2 c2 ey => ⟨_, c2.keep _ _ nD e, by rw [sizeLine_eq]; omega, (c.trans c2).mut hD nD, xs ++ [y], upd_same, by rw [List.length_append]; show xs.length + 1 ≤ _; omega, ey⟩) (fun H2 c2 ey => ⟨c.trans c2, xs, c2.keep _ _ nD e, by omega, ey⟩)⟩
  · rintro H' ⟨c, xs, e, hl, ex⟩
    exact hq D xs H' c hD nD e hl ex
theorem lc_tupC {a : Addr} {ys : List V} {tl : TE} {tt : TT} {te : TE} {j : Nat} {vs : List Nat} {σ : L2.St} {H : Hp} {Q : VK} {K : PySem.W.Frag} {p : Addr} (E : Addr → Nat → List V → Hp → Prop) (hp : Pool H p) (hn : ys.length ≤ 40000) (hta : ∀ Q', Q' (.ref a) H → tl σ H Q') (ha : TupN H a ys)
    (h0 : ∀ D, H D = none → E D 0 [] (upd H D (.lst [])))
    (hw : ∀ x, wipe ((wipe σ vs).set j (some x)) vs = wipe σ vs)
    (he : ∀ (D : Addr) (i : Nat) (x : V) (xs : List V) (H1 : Hp) (Q1 : VK) (Q0 : Hp → Prop), ys[i]? = some x → H D = none → D ≠ p → xs.length ≤ i → Ch p H H1 → H1 D = some (.lst xs) → E D i xs H1 →
      (∀ y H2, Ch p H1 H2 → E D (i + 1) (xs ++ [y]) (upd H2 D (.lst (xs ++ [y]))) → Q1 y H2) → (∀ H2, Ch p H1 H2 → E D (i + 1) xs H2 → Q0 H2) →
      tt ((wipe σ vs).set j (some x)) H1 fun b H3 => if b = true then te ((wipe σ vs).set j (some x)) H3 Q1 else Q0 H3)
    (hq : ∀ (D : Addr) (xs : List V) (H' : Hp), Ch p H H' → H D = none → D ≠ p → H' D = some (.lst xs) → xs.length ≤ ys.length → E D ys.length xs H' → Q (.ref D) H') :
    tLc (iTup K tl) (gName j) tt te vs σ H Q := by
  refine hta _ ⟨a, rfl, ⟨ys, ha.sq⟩, fun D hD => ?_⟩
  have nD := hp.ne_new hD
  refine lc_tup (xs := ys) (fun i H' => Ch p H H' ∧ ∃ xs, H' D = some (.lst xs) ∧ xs.length ≤ i ∧ E D i xs H') ⟨Ch.of hp (Evl.Ex.new hD), [], upd_same, Nat.le_refl _, h0 D hD⟩ (fun i H' _ h => (chN ha h.1 hp).sq) ?_ ?_
  · rintro i x H' hi ⟨c, xs, e, hl, ex⟩
    have := (List.getElem?_eq_some_iff.mp hi).1
    refine ⟨hw _, he D i x xs H' _ _ hi hD nD hl c e ex (fun y H2 c2 ey => ⟨_, c2.keep _ _ nD e, by rw [sizeLine_eq]; omega, (c.trans c2).mut hD nD, xs ++ [y], upd_same, by rw [List.length_append]; show xs.length + 1 ≤ _; omega, ey⟩) (fun H2 c2 ey => ⟨c.trans c2, xs, c2.keep _ _ nD e, by omega, ey⟩)⟩
  · rintro H' ⟨c, xs, e, hl, ex⟩
    exact hq D xs H' c hD nD e hl ex
def SS4 (p W l r : Addr) : Addr → Prop := fun a => SS3 p W l a ∨ a = r
section
variable {P : Program} {w : World} {K : PySem.W.Frag} {mg : Str → Option Value} {base : Heap}
def spWide : Sp := fun vs H Q _ => ∃ (p W : Addr) (oW : HO), vs = [.ref p] ∧ Pool H p ∧ W ≠ p ∧ H W = some oW ∧ ∀ d v H', Ch p H H' → Dt (SS p W) big H' d v → Q v H'
theorem ok__law_wide (T : Txt K mg) : Keeps P w K mg base CX0 2 d_s__law_wide ["_law_pool_here"] spWide := by
  obtain ⟨fd, F⟩ := f__law_wide T
  obtain ⟨fd__law_take, D__law_take⟩ := ok__law_take (P := P) (w := w) (base := base) T
  refine ⟨fd, F, F.ok sc__law_wide (fun vs H Q E h => ?_) (fun cdv A outer s H vs Q E hr h => ⟨_, PSs.nox
    (pss_cons (ps_set (i := 1) sc__law_wide.nd rfl (Or.inr rfl) (pe_op op_add pe_int (pe_op op_mulW (pe_call D__law_take.2 (hr.mono (by decide)) rfl (g__law_take T) D__law_take.1.kp (b__law_take D__law_take.1) .nil pass0 (pa_cons (pv 0) (pa_cons pe_int pa_nil))) pe_int)))
      (pss_cons (ps_setLc (i := 2) (own := [("_law_k", 6)]) rfl sc__law_wide.nd rfl rfl (sw_true rfl rfl rfl (by decide +kernel)) (pi_range1 rfl (n_range T) (pa_cons pe_int pa_nil)) (blkOk_by (own := [("_law_k", 6)]) (N := ["_law_pool_here", "_law_end", "_law_rows", "_law_place", "_law_spot", "_law_row", "_law_k"]) (sc := defScope s__law_wide) (by decide +kernel)) (fun _ _ _ _ _ => (pg_name (i := 6) sc__law_wide.nd rfl (Or.inl rfl))) (fun _ _ _ _ _ => pts_nil) (fun _ _ _ _ _ => (pe_tupF (pa_cons (pe_op op_mulW (pv 6) pe_int) (pa_cons (pe_op op_add (pv 1) (pv 6)) (pa_cons (pe_op op_add (pe_op op_pow pe_int pe_int) (pv 6)) pa_nil))))))
      (pss_cons (ps_set (i := 3) sc__law_wide.nd rfl (Or.inl rfl) (pe_call D__law_take.2 (hr.mono (by decide)) rfl (g__law_take T) D__law_take.1.kp (b__law_take D__law_take.1) .nil pass0 (pa_cons (pv 0) (pa_cons pe_int pa_nil))))
      (pss_cons (ps_set (i := 4) sc__law_wide.nd rfl (Or.inl rfl) (pe_call D__law_take.2 (hr.mono (by decide)) rfl (g__law_take T) D__law_take.1.kp (b__law_take D__law_take.1) .nil pass0 (pa_cons (pv 0) (pa_cons pe_int pa_nil))))
      (pss_cons (ps_if (pt_cmpR op_lt (pv 4) pe_int (nomark _)) (pss_cons (ps_set (i := 5) sc__law_wide.nd rfl (Or.inl rfl) (pe_callTy call_list_of rfl (n_list T) (by decide +kernel) (pa_cons (pe_ix ix_list (pv 2) (pv 3) (fun _ _ => rfl)) pa_nil)))
      (pss_cons (ps_asg (pe_ix ix_list (pe_lst (pa_cons (pe_un un_neg pe_int) (pa_cons (pe_op op_mulW (pv 1) pe_int) (pa_cons pe_int pa_nil)))) (pv 4) (fun _ _ => rfl)) (pg_sub (pv 5) (pv 4) set_list))
      (pss_one (ps_asg (pe_callTy call_tupF rfl (n_tuple T) (by decide +kernel) (pa_cons (pv 5) pa_nil)) (pg_sub (pv 2) (pv 3) set_list))))) pss_nil)
      (pss_one (ps_ret (pe_tupF (pa_cons (pe_op op_add (pv 1) pe_int) (pa_cons (pe_callTy call_tupF rfl (n_tuple T) (by decide +kernel) (pa_cons (pv 2) pa_nil)) pa_nil)))))))))), ?_⟩)⟩
  · obtain ⟨p, W, oW, rfl, _⟩ := h
    rfl
  · obtain ⟨p, W, oW, rfl, hp, nW, hW, ret⟩ := h
    have neW : ∀ {H' : Hp} {q : Addr}, Ch p H H' → H' q = none → ¬ SS p W q := fun {H' q} c hq z => z.elim (c.st.ne_new hq) fun z => by
      have := c.keep _ _ nW hW
      rw [← z, hq] at this
      cases this
    simp (config := {maxSteps := 10000000}) only [tSeq, tAsg, gName, tRet, tRetN, tDrop, tIfS, tNext, tBreak, tCont, tTest, tB, tVar, tC, tCons, tNil, tCB, tCall, tCallK, tOp, tUn, rI0, rI, rU, rEq, rNe, tAnd, tOr, tNot, tAndV, tOrV, tNotV, tTup, tLst, tIf, gTup, gCons, gNil, tPar, tAug, ipI, gSub, L2.start, cxOf, Cx.nox, List.map_cons, List.map_nil, List.length_cons, List.length_nil, List.replicate, Nat.reduceAdd, Nat.reduceSub, List.cons_append, List.nil_append, List.append_nil, List.getElem?_cons_zero, List.getElem?_cons_succ, Option.some.injEq, V.int.injEq, V.bl.injEq, V.str.injEq, V.ref.injEq, V.ty.injEq, List.cons.injEq, and_true, true_and, exists_eq_left, exists_eq_left', exists_and_left, exists_and_right, decide_eq_true_eq, List.set_cons_zero, List.set_cons_succ, Bool.not_eq_true', decide_eq_false_iff_not, isi_NoneType_int, isi_NoneType_bool, isi_NoneType_tuple, isi_NoneType_str, isi_NoneType_list, isi_bool_int, isi_bool_bool, isi_bool_tuple, isi_bool_str, isi_bool_list, isi_int_int, isi_int_bool, isi_int_tuple, isi_int_str, isi_int_list, isi_str_int, isi_str_bool, isi_str_tuple, isi_str_str, isi_str_list, isi_list_int, isi_list_bool, isi_list_tuple, isi_list_str, isi_list_list, isi_tuple_int, isi_tuple_bool, isi_tuple_tuple, isi_tuple_str, isi_tuple_list, Bool.false_eq_true, if_true, if_false, reduceIte, Bool.not_true, Bool.not_false, reduceCtorEq, false_and, and_false, exists_false, exists_const, scal_int, scal_bl, scal_str, absE, ne_eq, not_true_eq_false, not_false_eq_true, Int.natCast_add, Int.cast_ofNat_Int, and_assoc, tChain3, tTupF, rTupOfF, rIxL, rIxT]
    refine ⟨_, _, rfl, hp, by decide, fun e0 H1 w0 w1 c1 => ?_⟩
    have hB' : (100000 : Int) ≤ big := by decide
    have hB50 : (10 : Int) ^ 50 + 100 ≤ big := by decide
    have w50 : (10 : Int) ^ Int.toNat 50 = 10 ^ 50 := rfl
    have w51 : (0 : Int) ≤ 10 ^ 50 := by decide
    refine ⟨e0, rfl, wide_mul (a := 32) (b := 20) (by omega) (by decide) (by decide) (by decide) (by decide), ?_⟩
    refine lc_rngC (n := 61) (p := p) (fun D i xs H' => xs.length = i ∧ ∃ ds, DtAll (SS3 p W D) big H' ds xs ∧ ∀ d ∈ ds, ∃ a b c, d = .tuple [.int a, .int b, .int c]) c1.st (by decide) (fun Q' h => h) (fun D hD => ⟨rfl, [], True.intro, fun _ h => by cases h⟩) (fun x => rfl) ?_ ?_
    · intro D i xs H2 Q1 Q0 hi hD nD hl c2 l2 ⟨ln, ds, dd, al⟩ q1 q0
      simp only [tSeq, tAsg, gName, tRet, tRetN, tDrop, tIfS, tNext, tBreak, tCont, tTest, tB, tVar, tC, tCons, tNil, tCB, tCall, tCallK, tOp, tUn, rI0, rI, rU, rEq, rNe, tAnd, tOr, tNot, tAndV, tOrV, tNotV, tTup, tLst, tIf, gTup, gCons, gNil, tPar, tAug, ipI, gSub, L2.start, cxOf, Cx.nox, List.map_cons, List.map_nil, List.length_cons, List.length_nil, List.replicate, Nat.reduceAdd, Nat.reduceSub, List.cons_append, List.nil_append, List.append_nil, List.getElem?_cons_zero, List.getElem?_cons_succ, Option.some.injEq, V.int.injEq, V.bl.injEq, V.str.injEq, V.ref.injEq, V.ty.injEq, List.cons.injEq, and_true, true_and, exists_eq_left, exists_eq_left', exists_and_left, exists_and_right, decide_eq_true_eq, List.set_cons_zero, List.set_cons_succ, Bool.not_eq_true', decide_eq_false_iff_not, isi_NoneType_int, isi_NoneType_bool, isi_NoneType_tuple, isi_NoneType_str, isi_NoneType_list, isi_bool_int, isi_bool_bool, isi_bool_tuple, isi_bool_str, isi_bool_list, isi_int_int, isi_int_bool, isi_int_tuple, isi_int_str, isi_int_list, isi_str_int, isi_str_bool, isi_str_tuple, isi_str_str, isi_str_list, isi_list_int, isi_list_bool, isi_list_tuple, isi_list_str, isi_list_list, isi_tuple_int, isi_tuple_bool, isi_tuple_tuple, isi_tuple_str, isi_tuple_list, Bool.false_eq_true, if_true, if_false, reduceIte, Bool.not_true, Bool.not_false, reduceCtorEq, false_and, and_false, exists_false, exists_const, scal_int, scal_bl, scal_str, absE, ne_eq, not_true_eq_false, not_false_eq_true, Int.natCast_add, Int.cast_ofNat_Int, and_assoc, tChain3, tTupF, rTupOfF, wipe, tYes, Int.zero_add]
      refine ⟨wide_mul (a := 32) (b := 20) (by omega) (by decide) (by decide) (by decide) (by decide), ⟨by decide, by decide, by decide⟩, by decide, fun t H3 ht e3 tt => ?_⟩
      have nt := neW (c1.trans c2) ht
      have ntD : t ≠ D := by
        rintro rfl
        rw [l2] at ht
        cases ht
      have k1 : Keep (SS3 p W D) H2 (upd H3 D (.lst (xs ++ [.ref t]))) := fun b o nb q => by
        rw [upd_ne fun z => nb (.inr z)]
        exact e3 _ _ q
      refine q1 _ _ (Ch.of c2.st e3) ⟨by rw [List.length_append, ln]; rfl, ds ++ [.tuple [.int (i * 7), .int (500 + e0 * 9 + i), .int (10 ^ 50 + i)]], DtAll.app (ys := [.ref t]) (es := [.tuple [.int (i * 7), .int (500 + e0 * 9 + i), .int (10 ^ 50 + i)]]) (DtAll.mono (Int.le_refl _) k1 _ _ dd) ⟨⟨t, _, rfl, fun z => z.elim nt ntD, tt.by fun o q => by rw [upd_ne ntD]; exact q, Nat.le_of_ble_eq_true rfl, ⟨rfl, by omega, by omega⟩, ⟨rfl, by omega, by omega⟩, ⟨rfl, by omega, by omega⟩, True.intro⟩, True.intro⟩, ?_⟩
      intro d hd
      obtain h | h := List.mem_append.mp hd
      · exact al d h
      · cases List.mem_singleton.mp h
        exact ⟨_, _, _, rfl⟩
    · intro D xs H2 c2 hD nD l2 hl ⟨ln, ds, dd, al⟩
      simp (config := {maxSteps := 10000000}) only [tSeq, tAsg, gName, tRet, tRetN, tDrop, tIfS, tNext, tBreak, tCont, tTest, tB, tVar, tC, tCons, tNil, tCB, tCall, tCallK, tOp, tUn, rI0, rI, rU, rEq, rNe, tAnd, tOr, tNot, tAndV, tOrV, tNotV, tTup, tLst, tIf, gTup, gCons, gNil, tPar, tAug, ipI, gSub, L2.start, cxOf, Cx.nox, List.map_cons, List.map_nil, List.length_cons, List.length_nil, List.replicate, Nat.reduceAdd, Nat.reduceSub, List.cons_append, List.nil_append, List.append_nil, List.getElem?_cons_zero, List.getElem?_cons_succ, Option.some.injEq, V.int.injEq, V.bl.injEq, V.str.injEq, V.ref.injEq, V.ty.injEq, List.cons.injEq, and_true, true_and, exists_eq_left, exists_eq_left', exists_and_left, exists_and_right, decide_eq_true_eq, List.set_cons_zero, List.set_cons_succ, Bool.not_eq_true', decide_eq_false_iff_not, isi_NoneType_int, isi_NoneType_bool, isi_NoneType_tuple, isi_NoneType_str, isi_NoneType_list, isi_bool_int, isi_bool_bool, isi_bool_tuple, isi_bool_str, isi_bool_list, isi_int_int, isi_int_bool, isi_int_tuple, isi_int_str, isi_int_list, isi_str_int, isi_str_bool, isi_str_tuple, isi_str_str, isi_str_list, isi_list_int, isi_list_bool, isi_list_tuple, isi_list_str, isi_list_list, isi_tuple_int, isi_tuple_bool, isi_tuple_tuple, isi_tuple_str, isi_tuple_list, Bool.false_eq_true, if_true, if_false, reduceIte, Bool.not_true, Bool.not_false, reduceCtorEq, false_and, and_false, exists_false, exists_const, scal_int, scal_bl, scal_str, absE, ne_eq, not_true_eq_false, not_false_eq_true, Int.natCast_add, Int.cast_ofNat_Int, and_assoc, tChain3, tTupF, rTupOfF, rIxL, rIxT]
      have rD : RowL (SS3 p W D) p D big 61 H1 H2 := ⟨c2, ds, xs, l2, dd, ln⟩
      refine ⟨_, _, rfl, c2.st, by decide, fun k H3 k0 k1 c3 => ⟨_, _, rfl, c3.st, by decide, fun s H4 s0 s1 c4 => ⟨s, rfl, ?_⟩⟩⟩
      have c5 := c3.trans c4
      have r5 := rD.go (.inl (.inl rfl)) nD c5
      have l5 := c5.keep _ _ nD l2
      have dd5 : DtAll (SS3 p W D) big H4 ds xs := DtAll.mono (Int.le_refl _) (fun b o nb q => c5.keep b o (fun y => nb (.inl (.inl y))) q) _ _ dd
      have fin : ∀ {H' : Hp} {ys : List V}, RowL (SS3 p W D) p D big 61 H1 H' → H' D = some (.lst ys) → ∀ (q : Addr) (H5 : Hp), H' q = none → Evl.Ex H' H5 → TupN H5 q ys → 2 ≤ sizeLine ∧ ∀ (q2 : Addr) (H6 : Hp), H5 q2 = none → Evl.Ex H5 H6 → TupN H6 q2 [V.int (500 + e0 * 9 + 61), V.ref q] → Q (.ref q2) H6 := by
        intro H' ys r ly q H5 hq e5 t5
        refine ⟨by decide, fun q2 H6 hq2 e6 t6 => ?_⟩
        obtain ⟨ds', ys', e', dd', z'⟩ := r.row
        rw [ly] at e'
        cases e'
        have c7 := (r.ch.ex e5)
        exact ret (.tuple [.int (500 + e0 * 9 + 61), .tuple ds']) _ _ (c1.trans (c7.ex e6)) ⟨q2, _, rfl, neW (c1.trans c7) hq2, t6, Nat.le_of_ble_eq_true rfl, ⟨rfl, by omega, by omega⟩, ⟨q, _, rfl, neW (c1.trans r.ch) hq, t5.ex e6, by omega, DtAll.weak (fun a z => .inl z) _ _ (DtAll.mono (Int.le_refl _) (Keep.of (e5.trans e6)) _ _ dd')⟩, True.intro⟩
      refine ite2 (fun hs => ?_) (fun hs => ⟨_, SqL.of l5, fin r5 l5⟩)
      obtain ⟨kk, rfl⟩ : ∃ kk : Nat, k = kk := ⟨k.toNat, by omega⟩
      obtain ⟨x, hx⟩ : ∃ x, xs[kk]? = some x := ⟨_, List.getElem?_eq_getElem (by omega)⟩
      obtain ⟨dx, hdx0, hdx⟩ := dd5.get hx
      obtain ⟨y1, y2, y3, rfl⟩ := al dx (List.mem_of_getElem? hdx0)
      obtain ⟨ra, rx, rfl, nra, hra, lra, dra⟩ := hdx
      refine ⟨_, _, rfl, SqL.of l5, _, atI_nat hx, _, rfl, _, .inr hra.sq, fun m hm => ?_⟩
      have e1 := Evl.Ex.new (o := HO.lst rx) hm
      have am : upd H4 m (HO.lst rx) m = some (.lst rx) := upd_same
      have nm := c5.st.ne_new hm
      have hmH := hm
      have rm : RowL (SS4 p W D m) p m big 3 H4 (upd H4 m (HO.lst rx)) := ⟨Ch.of c5.st e1, _, rx, am, DtAll.mono (Int.le_refl _) (Keep.of e1) _ _ (DtAll.more (fun a z => z.elim .inl (fun z => .inr (by rw [z]; exact hm))) _ _ dra), by have := dra.len; simpa using this.symm⟩
      generalize upd H4 m (HO.lst rx) = Hm at *
      refine ⟨wide_mul (a := 32) (b := 20) (by omega) (by decide) (by decide) (by decide) (by decide), by decide, fun m2 hm2 => ?_⟩
      have e2 := Evl.Ex.new (o := HO.lst [V.int (-1), V.int ((500 + e0 * 9) * 2), V.int 0]) hm2
      have am2 : upd Hm m2 (HO.lst [V.int (-1), V.int ((500 + e0 * 9) * 2), V.int 0]) m2 = some (.lst [V.int (-1), V.int ((500 + e0 * 9) * 2), V.int 0]) := upd_same
      have rm2 := rm.go (.inl (.inl (.inl rfl))) nm (Ch.of rm.ch.st e2)
      generalize upd Hm m2 (HO.lst [V.int (-1), V.int ((500 + e0 * 9) * 2), V.int 0]) = Hn at *
      obtain ⟨y, ey⟩ : ∃ y : Int, atI [V.int (-1), V.int ((500 + e0 * 9) * 2), V.int 0] s = some (.int y) ∧ -big ≤ y ∧ y ≤ big := by
        obtain rfl | rfl | rfl : s = 0 ∨ s = 1 ∨ s = 2 := by omega
        · exact ⟨_, rfl, by omega, by omega⟩
        · exact ⟨_, rfl, by omega, by omega⟩
        · exact ⟨_, rfl, by omega, by omega⟩
      obtain ⟨ss, rfl⟩ : ∃ ss : Nat, s = ss := ⟨s.toNat, by omega⟩
      refine ⟨_, _, rfl, SqL.of am2, _, ey.1, ?_⟩
      obtain ⟨ds3, zs3, l3, dd3, z3⟩ := rm2.row
      have rm6 := rm2.set (d := .int y) (v := .int y) (j := ss) (.inr rfl) hmH nm l3 ⟨rfl, ey.2⟩
      refine ⟨_, _, _, _, rfl, rfl, l3, Evl.ixN_nat (by omega), ?_⟩
      generalize upd Hn m (HO.lst (zs3.set ss (V.int y))) = H6 at *
      obtain ⟨ds6, zs6, l6, d6, z6⟩ := rm6.row
      refine ⟨_, SqL.of l6, fun q H7 hq e7 t7 => ?_⟩
      have r6 := r5.go (.inl (.inl rfl)) nD rm6.ch
      have r7 := r6.go (.inl (.inl rfl)) nD (Ch.of r6.ch.st e7)
      obtain ⟨_, zs7, lz7, _, zn7⟩ := r7.row
      refine ⟨_, _, _, _, rfl, rfl, lz7, Evl.ixN_nat (by omega), _, SqL.of upd_same, fin (r7.set (d := .tuple ds6) (.inr rfl) hD nD lz7 ⟨q, zs6, rfl, ?_, t7, by omega, DtAll.mono (Int.le_refl _) (Keep.of e7) _ _ (DtAll.weak (fun a z => .inl z) _ _ d6)⟩) upd_same⟩
      rintro (z | z)
      · exact neW (c1.trans r6.ch) hq z
      · obtain ⟨_, _, e, _⟩ := r6.row
        rw [← z, hq] at e
        cases e
end
end K00
end
section
set_option Elab.async false
set_option linter.all false
set_option maxRecDepth 100000
set_option maxHeartbeats 4000000
namespace K00
open PySem PySem.Spec PyProof.Rows L2 Pour
local macro_rules | `(tactic| walk_at "evd") => `(tactic| repeat (first
  | exact evd_bl | exact evd_str | exact evd_non | exact evds_nil
  | exact evd_int (by decide) | exact evd_neg (by decide)
  | exact evd_pow ⟨by decide, by decide, by decide⟩ (by decide)
  | apply evds_cons
  | apply evd_tup
  | apply evd_lst
  | assumption
  | decide))
theorem dt_rep {p : Addr → Prop} {B : Int} {H : Hp} {d : PyData} {v : V} (h : Dt p B H d v) : ∀ n, DtAll p B H (List.replicate n d) (List.replicate n v)
  | 0 => True.intro
  | n + 1 => ⟨h, dt_rep h n⟩
theorem evd_rep {K : PySem.W.Frag} {p : Addr → Prop} {B : Int} {σ : L2.St} {H : Hp} (hB : 0 ≤ B) (hp : Al p H) : EvD p B (tCB (rTupOfF K) (tCons (tOp rRep (tLst (tCons (tC (.int 0)) tNil)) (tC (.int 900))) tNil)) σ H := fun H0 Q e q => by
  refine ⟨by decide, fun a ha => ?_⟩
  have e1 := Evl.Ex.new (o := HO.lst [V.int 0]) ha
  refine ⟨a, 900, [V.int 0], rfl, rfl, upd_same, by decide, by decide, by decide, fun b hb => ?_⟩
  rw [show (List.replicate (900 : Int).toNat [V.int 0]).flatten = List.replicate 900 (V.int 0) from List.flatten_replicate_singleton]
  have e2 := Evl.Ex.new (o := HO.lst (List.replicate 900 (V.int 0))) hb
  refine ⟨b, List.replicate 900 (V.int 0), rfl, SqL.of upd_same, fun l H' hl e3 t => ?_⟩
  have e4 := (e1.trans e2).trans e3
  exact q (.tuple (List.replicate 900 (.int 0))) _ _ e4 ⟨l, _, rfl, ((hp.ex e).ex (e1.trans e2)).ne_new hl, t, by rw [List.length_replicate]; decide, dt_rep (d := .int 0) (v := V.int 0) ⟨rfl, by omega, by omega⟩ 900⟩
section
variable {P : Program} {w : World} {K : PySem.W.Frag} {mg : Str → Option Value} {base : Heap}
def spWritten : Sp := fun vs H Q _ => vs = [] ∧ ∀ l H', Evl.Ex H H' → H l = none → Menu (Old H) big 91 H' l → Q (.ref l) H'
theorem ok__law_written (T : Txt K mg) : Keeps P w K mg base CX0 1 d_s__law_written [] spWritten := by
  obtain ⟨fd, F⟩ := f__law_written T
  refine ⟨fd, F, F.ok sc__law_written (fun vs H Q E h => ?_) (fun cdv A outer s H vs Q E hr h => ⟨_, PSs.nox
    (Evl.pss_cut (ps_set (i := 0) sc__law_written.nd rfl (Or.inl rfl) (pe_lst (pa_cons pe_non (pa_cons pe_bl (pa_cons pe_bl (pa_cons pe_int (pa_cons pe_int (pa_cons (pe_un un_neg pe_int) (pa_cons (pe_op op_pow pe_int pe_int) (pa_cons (pe_un un_neg pe_int) (pa_cons pe_str (pa_cons pe_str (pa_cons pe_str (pa_cons pe_str (pa_cons (pe_tupF pa_nil) (pa_cons (pe_lst pa_nil) (pa_cons (pe_tupF (pa_cons pe_int pa_nil)) (pa_cons (pe_lst (pa_cons pe_int pa_nil)) (pa_cons (pe_tupF (pa_cons pe_int pa_nil)) (pa_cons (pe_tupF (pa_cons pe_bl pa_nil)) (pa_cons (pe_tupF (pa_cons pe_non pa_nil)) pa_nil)))))))))))))))))))))
      (Evl.pss_cut (ps_set (i := 0) sc__law_written.nd rfl (Or.inl rfl) (pe_op op_cat (pv 0) (pe_lst (pa_cons (pe_tupF (pa_cons pe_int (pa_cons pe_int pa_nil))) (pa_cons (pe_lst (pa_cons pe_int (pa_cons pe_int pa_nil))) (pa_cons (pe_tupF (pa_cons pe_int (pa_cons pe_int pa_nil))) (pa_cons (pe_tupF (pa_cons pe_int (pa_cons pe_int pa_nil))) (pa_cons (pe_tupF (pa_cons pe_int (pa_cons pe_int pa_nil))) (pa_cons (pe_tupF (pa_cons (pe_un un_neg pe_int) (pa_cons pe_int pa_nil))) (pa_cons (pe_tupF (pa_cons pe_int (pa_cons (pe_un un_neg pe_int) pa_nil))) (pa_cons (pe_tupF (pa_cons pe_int (pa_cons pe_int pa_nil))) (pa_cons (pe_tupF (pa_cons pe_int (pa_cons pe_int pa_nil))) (pa_cons (pe_tupF (pa_cons pe_bl (pa_cons pe_int pa_nil))) (pa_cons (pe_tupF (pa_cons pe_int (pa_cons pe_bl pa_nil))) pa_nil))))))))))))))
      (Evl.pss_cut (ps_set (i := 0) sc__law_written.nd rfl (Or.inl rfl) (pe_op op_cat (pv 0) (pe_lst (pa_cons (pe_tupF (pa_cons pe_int (pa_cons pe_int (pa_cons pe_int pa_nil)))) (pa_cons (pe_tupF (pa_cons pe_int (pa_cons pe_int pa_nil))) (pa_cons (pe_tupF (pa_cons (pe_un un_neg pe_int) (pa_cons pe_int pa_nil))) (pa_cons (pe_tupF (pa_cons pe_int (pa_cons pe_int pa_nil))) (pa_cons (pe_tupF (pa_cons pe_int (pa_cons pe_int pa_nil))) (pa_cons (pe_tupF (pa_cons (pe_op op_pow pe_int pe_int) (pa_cons pe_int pa_nil))) (pa_cons (pe_tupF (pa_cons (pe_op op_pow pe_int pe_int) (pa_cons (pe_op op_pow pe_int pe_int) pa_nil))) (pa_cons (pe_tupF (pa_cons pe_int (pa_cons pe_int pa_nil))) pa_nil)))))))))))
      (Evl.pss_cut (ps_set (i := 0) sc__law_written.nd rfl (Or.inl rfl) (pe_op op_cat (pv 0) (pe_lst (pa_cons (pe_tupF (pa_cons pe_int (pa_cons pe_int (pa_cons pe_int pa_nil)))) (pa_cons (pe_tupF (pa_cons pe_int (pa_cons pe_int (pa_cons pe_int pa_nil)))) (pa_cons (pe_tupF (pa_cons pe_int (pa_cons pe_int pa_nil))) (pa_cons (pe_tupF (pa_cons pe_int (pa_cons pe_int (pa_cons pe_int pa_nil)))) (pa_cons (pe_tupF (pa_cons pe_int (pa_cons pe_int (pa_cons pe_int pa_nil)))) (pa_cons (pe_tupF (pa_cons pe_int (pa_cons pe_int (pa_cons pe_int pa_nil)))) (pa_cons (pe_tupF (pa_cons pe_int (pa_cons pe_int (pa_cons pe_int pa_nil)))) (pa_cons (pe_tupF (pa_cons pe_int (pa_cons pe_int (pa_cons pe_int pa_nil)))) (pa_cons (pe_tupF (pa_cons pe_int (pa_cons pe_int (pa_cons pe_int pa_nil)))) pa_nil))))))))))))
      (Evl.pss_cut (ps_set (i := 0) sc__law_written.nd rfl (Or.inl rfl) (pe_op op_cat (pv 0) (pe_lst (pa_cons (pe_tupF (pa_cons pe_int (pa_cons pe_bl pa_nil))) (pa_cons (pe_tupF (pa_cons pe_int (pa_cons pe_int (pa_cons pe_bl pa_nil)))) (pa_cons (pe_tupF (pa_cons pe_int (pa_cons pe_int (pa_cons pe_int pa_nil)))) (pa_cons (pe_tupF (pa_cons pe_int (pa_cons pe_int pa_nil))) (pa_cons (pe_tupF (pa_cons pe_int (pa_cons pe_int (pa_cons pe_int pa_nil)))) (pa_cons (pe_tupF (pa_cons pe_int (pa_cons pe_int pa_nil))) (pa_cons (pe_tupF (pa_cons pe_int (pa_cons pe_int (pa_cons pe_int (pa_cons pe_int pa_nil))))) (pa_cons (pe_tupF (pa_cons pe_int (pa_cons pe_int (pa_cons pe_int (pa_cons pe_int pa_nil))))) pa_nil)))))))))))
      (Evl.pss_cut (ps_set (i := 0) sc__law_written.nd rfl (Or.inl rfl) (pe_op op_cat (pv 0) (pe_lst (pa_cons (pe_tupF (pa_cons pe_int (pa_cons pe_int (pa_cons pe_int (pa_cons pe_int pa_nil))))) (pa_cons (pe_tupF (pa_cons pe_int (pa_cons pe_int (pa_cons pe_int (pa_cons pe_int pa_nil))))) (pa_cons (pe_tupF (pa_cons pe_int (pa_cons pe_int (pa_cons pe_int (pa_cons pe_int (pa_cons pe_int pa_nil)))))) (pa_cons (pe_lst (pa_cons pe_int (pa_cons pe_int (pa_cons pe_int pa_nil)))) (pa_cons (pe_tupF (pa_cons (pe_tupF (pa_cons pe_int (pa_cons pe_int pa_nil))) pa_nil)) (pa_cons (pe_tupF (pa_cons pe_int (pa_cons (pe_tupF pa_nil) pa_nil))) (pa_cons (pe_tupF (pa_cons pe_int (pa_cons (pe_tupF pa_nil) pa_nil))) (pa_cons (pe_tupF (pa_cons pe_int (pa_cons (pe_tupF pa_nil) pa_nil))) pa_nil)))))))))))
      (Evl.pss_cut (ps_set (i := 0) sc__law_written.nd rfl (Or.inl rfl) (pe_op op_cat (pv 0) (pe_lst (pa_cons (pe_tupF (pa_cons pe_int (pa_cons (pe_lst pa_nil) pa_nil))) (pa_cons (pe_lst (pa_cons pe_int (pa_cons (pe_tupF pa_nil) pa_nil))) (pa_cons (pe_tupF (pa_cons pe_bl (pa_cons (pe_tupF pa_nil) pa_nil))) (pa_cons (pe_tupF (pa_cons pe_int (pa_cons (pe_tupF (pa_cons (pe_tupF (pa_cons pe_int (pa_cons pe_int (pa_cons pe_int pa_nil)))) pa_nil)) pa_nil))) (pa_cons (pe_tupF (pa_cons pe_int (pa_cons (pe_tupF (pa_cons (pe_tupF (pa_cons pe_int (pa_cons pe_int (pa_cons pe_int pa_nil)))) pa_nil)) pa_nil))) (pa_cons (pe_tupF (pa_cons pe_int (pa_cons (pe_tupF (pa_cons (pe_tupF (pa_cons pe_int (pa_cons pe_bl (pa_cons pe_int pa_nil)))) pa_nil)) pa_nil))) (pa_cons (pe_tupF (pa_cons pe_str (pa_cons (pe_tupF pa_nil) pa_nil))) pa_nil))))))))))
      (Evl.pss_cut (ps_set (i := 0) sc__law_written.nd rfl (Or.inl rfl) (pe_op op_cat (pv 0) (pe_lst (pa_cons (pe_tupF (pa_cons pe_int (pa_cons (pe_tupF (pa_cons (pe_tupF (pa_cons pe_int (pa_cons pe_int (pa_cons pe_bl pa_nil)))) pa_nil)) pa_nil))) (pa_cons (pe_tupF (pa_cons pe_int (pa_cons (pe_tupF (pa_cons (pe_tupF (pa_cons pe_bl (pa_cons pe_int (pa_cons pe_int pa_nil)))) pa_nil)) pa_nil))) (pa_cons (pe_tupF (pa_cons pe_int (pa_cons (pe_tupF (pa_cons (pe_tupF (pa_cons pe_int (pa_cons pe_int (pa_cons pe_int pa_nil)))) pa_nil)) pa_nil))) (pa_cons (pe_tupF (pa_cons pe_int (pa_cons (pe_tupF (pa_cons (pe_tupF (pa_cons pe_int (pa_cons pe_int (pa_cons pe_int pa_nil)))) pa_nil)) pa_nil))) (pa_cons (pe_tupF (pa_cons pe_int (pa_cons (pe_tupF (pa_cons pe_int (pa_cons pe_int (pa_cons pe_int pa_nil)))) pa_nil))) pa_nil))))))))
      (Evl.pss_cut (ps_set (i := 0) sc__law_written.nd rfl (Or.inl rfl) (pe_op op_cat (pv 0) (pe_lst (pa_cons (pe_tupF (pa_cons pe_int (pa_cons (pe_tupF (pa_cons (pe_tupF (pa_cons pe_int (pa_cons pe_int (pa_cons pe_int pa_nil)))) pa_nil)) pa_nil))) (pa_cons (pe_tupF (pa_cons pe_int (pa_cons (pe_tupF (pa_cons (pe_tupF (pa_cons pe_int (pa_cons pe_int (pa_cons pe_int pa_nil)))) (pa_cons (pe_tupF (pa_cons pe_int (pa_cons pe_int (pa_cons pe_int pa_nil)))) (pa_cons (pe_tupF (pa_cons pe_int (pa_cons pe_int (pa_cons pe_int pa_nil)))) pa_nil)))) pa_nil))) (pa_cons (pe_tupF (pa_cons pe_int (pa_cons (pe_tupF (pa_cons (pe_tupF (pa_cons pe_int (pa_cons pe_int (pa_cons pe_int pa_nil)))) (pa_cons (pe_lst (pa_cons pe_int (pa_cons pe_int (pa_cons pe_int pa_nil)))) pa_nil))) pa_nil))) (pa_cons (pe_tupF (pa_cons pe_int (pa_cons pe_str pa_nil))) pa_nil)))))))
      (Evl.pss_cut (ps_set (i := 0) sc__law_written.nd rfl (Or.inl rfl) (pe_op op_cat (pv 0) (pe_lst (pa_cons (pe_tupF (pa_cons pe_int (pa_cons (pe_tupF (pa_cons pe_str pa_nil)) pa_nil))) (pa_cons (pe_tupF (pa_cons pe_int (pa_cons (pe_tupF (pa_cons (pe_tupF (pa_cons pe_int (pa_cons pe_int pa_nil))) pa_nil)) pa_nil))) (pa_cons (pe_tupF (pa_cons pe_int (pa_cons (pe_tupF (pa_cons (pe_tupF (pa_cons pe_int (pa_cons pe_int (pa_cons pe_int (pa_cons pe_int pa_nil))))) pa_nil)) pa_nil))) (pa_cons (pe_tupF (pa_cons pe_int (pa_cons pe_non pa_nil))) (pa_cons (pe_tupF (pa_cons (pe_un un_neg pe_int) (pa_cons (pe_tupF pa_nil) pa_nil))) (pa_cons (pe_tupF (pa_cons (pe_tupF pa_nil) (pa_cons pe_int pa_nil))) (pa_cons (pe_tupF (pa_cons pe_str (pa_cons pe_str pa_nil))) pa_nil))))))))))
      (pss_cons (ps_set (i := 1) sc__law_written.nd rfl (Or.inl rfl) (pe_tupF (pa_cons pe_int pa_nil)))
      (pss_cons (ps_for PassesOwn.never rfl (pi_range1 rfl (n_range T) (pa_cons pe_int pa_nil)) (pg_name (i := 2) sc__law_written.nd rfl (Or.inl rfl)) (pss_one (ps_set (i := 1) sc__law_written.nd rfl (Or.inl rfl) (pe_tupF (pa_cons (pv 1) pa_nil)))))
      (pss_one (ps_ret (pe_op op_cat (pv 0) (pe_lst (pa_cons (pv 1) (pa_cons (pe_tupF (pa_cons pe_int (pa_cons (pv 1) pa_nil))) (pa_cons (pe_callTy call_tupF rfl (n_tuple T) (by decide +kernel) (pa_cons (pe_op op_rep (pe_lst (pa_cons pe_int pa_nil)) pe_int) pa_nil)) (pa_cons (pe_tupF (pa_cons pe_int (pa_cons (pe_tupF pa_nil) pa_nil))) (pa_cons (pe_tupF (pa_cons pe_int (pa_cons (pe_tupF (pa_cons (pe_tupF (pa_cons pe_int (pa_cons pe_int (pa_cons (pe_op op_pow pe_int pe_int) pa_nil)))) pa_nil)) pa_nil))) pa_nil))))))))))))))))))))), ?_⟩)⟩
  · obtain ⟨rfl, _⟩ := h
    rfl
  · obtain ⟨rfl, ret⟩ := h
    have hal := Old.al H
    have b59 : (10 : Int) ^ Int.toNat 59 = 10 ^ 59 := rfl
    refine ⟨fun σ' H' => Evl.Ex H H' ∧ ∃ l, σ' = [some (.ref l), none, none] ∧ Menu (Old H) big 19 H' l, ?_, ?_⟩
    · refine asg_menu (p := Old H) (B := big) (n := 19) hal ?_ (by decide) (fun l H' e _ m => ⟨e, l, rfl, m⟩)
      walk_at "evd"
    rintro σ' H' ⟨e, l, rfl, m⟩
    have hp1 := hal.ex e
    refine ⟨fun σ' H' => Evl.Ex H H' ∧ ∃ l, σ' = [some (.ref l), none, none] ∧ Menu (Old H) big 30 H' l, ?_, ?_⟩
    · refine asg_cat (p := Old H) (B := big) (n := 11) hp1 rfl m ?_ (by decide) (fun l H' e2 _ m => ⟨e.trans e2, l, rfl, m⟩)
      walk_at "evd"
    clear m hp1
    rintro σ' H' ⟨e, l, rfl, m⟩
    have hp1 := hal.ex e
    refine ⟨fun σ' H' => Evl.Ex H H' ∧ ∃ l, σ' = [some (.ref l), none, none] ∧ Menu (Old H) big 38 H' l, ?_, ?_⟩
    · refine asg_cat (p := Old H) (B := big) (n := 8) hp1 rfl m ?_ (by decide) (fun l H' e2 _ m => ⟨e.trans e2, l, rfl, m⟩)
      walk_at "evd"
    clear m hp1
    rintro σ' H' ⟨e, l, rfl, m⟩
    have hp1 := hal.ex e
    refine ⟨fun σ' H' => Evl.Ex H H' ∧ ∃ l, σ' = [some (.ref l), none, none] ∧ Menu (Old H) big 47 H' l, ?_, ?_⟩
    · refine asg_cat (p := Old H) (B := big) (n := 9) hp1 rfl m ?_ (by decide) (fun l H' e2 _ m => ⟨e.trans e2, l, rfl, m⟩)
      walk_at "evd"
    clear m hp1
    rintro σ' H' ⟨e, l, rfl, m⟩
    have hp1 := hal.ex e
    refine ⟨fun σ' H' => Evl.Ex H H' ∧ ∃ l, σ' = [some (.ref l), none, none] ∧ Menu (Old H) big 55 H' l, ?_, ?_⟩
    · refine asg_cat (p := Old H) (B := big) (n := 8) hp1 rfl m ?_ (by decide) (fun l H' e2 _ m => ⟨e.trans e2, l, rfl, m⟩)
      walk_at "evd"
    clear m hp1
    rintro σ' H' ⟨e, l, rfl, m⟩
    have hp1 := hal.ex e
    refine ⟨fun σ' H' => Evl.Ex H H' ∧ ∃ l, σ' = [some (.ref l), none, none] ∧ Menu (Old H) big 63 H' l, ?_, ?_⟩
    · refine asg_cat (p := Old H) (B := big) (n := 8) hp1 rfl m ?_ (by decide) (fun l H' e2 _ m => ⟨e.trans e2, l, rfl, m⟩)
      walk_at "evd"
    clear m hp1
    rintro σ' H' ⟨e, l, rfl, m⟩
    have hp1 := hal.ex e
    refine ⟨fun σ' H' => Evl.Ex H H' ∧ ∃ l, σ' = [some (.ref l), none, none] ∧ Menu (Old H) big 70 H' l, ?_, ?_⟩
    · refine asg_cat (p := Old H) (B := big) (n := 7) hp1 rfl m ?_ (by decide) (fun l H' e2 _ m => ⟨e.trans e2, l, rfl, m⟩)
      walk_at "evd"
    clear m hp1
    rintro σ' H' ⟨e, l, rfl, m⟩
    have hp1 := hal.ex e
    refine ⟨fun σ' H' => Evl.Ex H H' ∧ ∃ l, σ' = [some (.ref l), none, none] ∧ Menu (Old H) big 75 H' l, ?_, ?_⟩
    · refine asg_cat (p := Old H) (B := big) (n := 5) hp1 rfl m ?_ (by decide) (fun l H' e2 _ m => ⟨e.trans e2, l, rfl, m⟩)
      walk_at "evd"
    clear m hp1
    rintro σ' H' ⟨e, l, rfl, m⟩
    have hp1 := hal.ex e
    refine ⟨fun σ' H' => Evl.Ex H H' ∧ ∃ l, σ' = [some (.ref l), none, none] ∧ Menu (Old H) big 79 H' l, ?_, ?_⟩
    · refine asg_cat (p := Old H) (B := big) (n := 4) hp1 rfl m ?_ (by decide) (fun l H' e2 _ m => ⟨e.trans e2, l, rfl, m⟩)
      walk_at "evd"
    clear m hp1
    rintro σ' H' ⟨e, l, rfl, m⟩
    have hp1 := hal.ex e
    refine ⟨fun σ' H' => Evl.Ex H H' ∧ ∃ l, σ' = [some (.ref l), none, none] ∧ Menu (Old H) big 86 H' l, ?_, ?_⟩
    · refine asg_cat (p := Old H) (B := big) (n := 7) hp1 rfl m ?_ (by decide) (fun l H' e2 _ m => ⟨e.trans e2, l, rfl, m⟩)
      walk_at "evd"
    clear m hp1
    rintro σ' H' ⟨e, l, rfl, m⟩
    have hp1 := hal.ex e
    simp only [tSeq, tAsg, gName, tRet, tRetN, tDrop, tIfS, tNext, tBreak, tCont, tTest, tB, tVar, tC, tCons, tNil, tCB, tCall, tCallK, tOp, tUn, rI0, rI, rU, rEq, rNe, tAnd, tOr, tNot, tAndV, tOrV, tNotV, tTup, tLst, tIf, gTup, gCons, gNil, tPar, tAug, ipI, gSub, L2.start, cxOf, Cx.nox, List.map_cons, List.map_nil, List.length_cons, List.length_nil, List.replicate, Nat.reduceAdd, Nat.reduceSub, List.cons_append, List.nil_append, List.append_nil, List.getElem?_cons_zero, List.getElem?_cons_succ, Option.some.injEq, V.int.injEq, V.bl.injEq, V.str.injEq, V.ref.injEq, V.ty.injEq, List.cons.injEq, and_true, true_and, exists_eq_left, exists_eq_left', exists_and_left, exists_and_right, decide_eq_true_eq, List.set_cons_zero, List.set_cons_succ, Bool.not_eq_true', decide_eq_false_iff_not, isi_NoneType_int, isi_NoneType_bool, isi_NoneType_tuple, isi_NoneType_str, isi_NoneType_list, isi_bool_int, isi_bool_bool, isi_bool_tuple, isi_bool_str, isi_bool_list, isi_int_int, isi_int_bool, isi_int_tuple, isi_int_str, isi_int_list, isi_str_int, isi_str_bool, isi_str_tuple, isi_str_str, isi_str_list, isi_list_int, isi_list_bool, isi_list_tuple, isi_list_str, isi_list_list, isi_tuple_int, isi_tuple_bool, isi_tuple_tuple, isi_tuple_str, isi_tuple_list, Bool.false_eq_true, if_true, if_false, reduceIte, Bool.not_true, Bool.not_false, reduceCtorEq, false_and, and_false, exists_false, exists_const, scal_int, scal_bl, scal_str, absE, ne_eq, not_true_eq_false, not_false_eq_true, Int.natCast_add, Int.cast_ofNat_Int, and_assoc, tChain3, tTupF, rTupOfF]
    refine ⟨by decide, fun q H2 hq e2 tq => ?_⟩
    refine for_rangeE (n := 27) (by decide) (fun Q' h => h) (fun i σ' H' => Evl.Ex H H' ∧ ∃ (q : Addr) (d : PyData) (x2 : Option V), σ' = [some (.ref l), some (.ref q), x2] ∧ Menu (Old H) big 86 H' l ∧ Dt (Old H) big H' d (.ref q)) ⟨e.trans e2, q, .tuple [.int 1], _, rfl, m.ex e2, ⟨q, _, rfl, hp1.ne_new hq, tq, by decide, ⟨rfl, by decide, by decide⟩, True.intro⟩⟩ ?_ ?_
    · rintro i σ' H' _ ⟨e3, q, d, x2, rfl, m, dq⟩
      simp only [tSeq, tAsg, gName, tRet, tRetN, tDrop, tIfS, tNext, tBreak, tCont, tTest, tB, tVar, tC, tCons, tNil, tCB, tCall, tCallK, tOp, tUn, rI0, rI, rU, rEq, rNe, tAnd, tOr, tNot, tAndV, tOrV, tNotV, tTup, tLst, tIf, gTup, gCons, gNil, tPar, tAug, ipI, gSub, L2.start, cxOf, Cx.nox, List.map_cons, List.map_nil, List.length_cons, List.length_nil, List.replicate, Nat.reduceAdd, Nat.reduceSub, List.cons_append, List.nil_append, List.append_nil, List.getElem?_cons_zero, List.getElem?_cons_succ, Option.some.injEq, V.int.injEq, V.bl.injEq, V.str.injEq, V.ref.injEq, V.ty.injEq, List.cons.injEq, and_true, true_and, exists_eq_left, exists_eq_left', exists_and_left, exists_and_right, decide_eq_true_eq, List.set_cons_zero, List.set_cons_succ, Bool.not_eq_true', decide_eq_false_iff_not, isi_NoneType_int, isi_NoneType_bool, isi_NoneType_tuple, isi_NoneType_str, isi_NoneType_list, isi_bool_int, isi_bool_bool, isi_bool_tuple, isi_bool_str, isi_bool_list, isi_int_int, isi_int_bool, isi_int_tuple, isi_int_str, isi_int_list, isi_str_int, isi_str_bool, isi_str_tuple, isi_str_str, isi_str_list, isi_list_int, isi_list_bool, isi_list_tuple, isi_list_str, isi_list_list, isi_tuple_int, isi_tuple_bool, isi_tuple_tuple, isi_tuple_str, isi_tuple_list, Bool.false_eq_true, if_true, if_false, reduceIte, Bool.not_true, Bool.not_false, reduceCtorEq, false_and, and_false, exists_false, exists_const, scal_int, scal_bl, scal_str, absE, ne_eq, not_true_eq_false, not_false_eq_true, Int.natCast_add, Int.cast_ofNat_Int, and_assoc, tChain3, tTupF, rTupOfF, wipe, tYes]
      refine ⟨by decide, fun t H4 ht e4 tt => ?_⟩
      exact ⟨e3.trans e4, m.ex e4, .tuple [d], ⟨t, _, rfl, (hal.ex e3).ne_new ht, tt, Nat.le_of_ble_eq_true rfl, dq.ex e4, True.intro⟩⟩
    · rintro σ' H' ⟨e3, q, d, x2, rfl, m, dq⟩
      refine cat_menu (p := Old H) (B := big) (n := 5) (hal.ex e3) rfl m ?_ (by decide) (fun l' H5 e5 hl' m' => ret l' H5 (e3.trans e5) (Evl.fresh_back e3 hl') m')
      refine evds_cons (evd_var rfl dq) (evds_cons (evd_tup (hal.ex e3) (evds_cons (evd_int (by decide)) (evds_cons (evd_var rfl dq) evds_nil)) (by decide)) (evds_cons (evd_rep (by decide) (hal.ex e3)) ?_))
      have hp1 := hal.ex e3
      walk_at "evd"
end
end K00
end
section
set_option Elab.async false
set_option linter.all false
set_option maxRecDepth 100000
set_option maxHeartbeats 4000000
namespace K00
open PySem PySem.Spec PyProof.Rows L2 Pour
theorem DtAll.ch {p : Addr} {B B' : Int} {H H' : Hp} {ds : List PyData} {vs : List V} (h : DtAll (· = p) B H ds vs) (c : Ch p H H') (hB : B ≤ B') : DtAll (· = p) B' H' ds vs := DtAll.mono hB (fun b o nb e => c.keep b o nb e) ds vs h
theorem Dt.ch {p : Addr} {B B' : Int} {H H' : Hp} {d : PyData} {v : V} (h : Dt (· = p) B H d v) (c : Ch p H H') (hB : B ≤ B') : Dt (· = p) B' H' d v := Dt.mono hB (fun b o nb e => c.keep b o nb e) d v h
/-- the law's values stand at W -/
structure VS (p b W : Addr) (n : Int) (rows : List R3) (N : Nat) (H : Hp) : Prop where
  po : Pool H p
  net : Net p H b n rows
  ne : W ≠ p
  is : ∃ ds vs, H W = some (.lst vs) ∧ DtAll (SS p W) (big + 2) H ds vs ∧ vs.length ≤ N
theorem VS.ch {p b W : Addr} {n : Int} {rows : List R3} {N : Nat} {H H' : Hp} (h : VS p b W n rows N H) (c : Ch p H H') : VS p b W n rows N H' := by
  obtain ⟨po, net, ne, ds, vs, e, dd, l⟩ := h
  exact ⟨c.st, net.ch c po, ne, ds, vs, c.keep _ _ ne e, DtAll.mono (Int.le_refl _) (fun b o nb e => c.keep b o (fun z => nb (.inl z)) e) ds vs dd, l⟩
theorem VS.more {p b W : Addr} {n : Int} {rows : List R3} {N M : Nat} {H : Hp} (h : VS p b W n rows N H) (l : N ≤ M) : VS p b W n rows M H := by
  obtain ⟨po, net, ne, ds, vs, e, dd, l2⟩ := h
  exact ⟨po, net, ne, ds, vs, e, dd, Nat.le_trans l2 l⟩
/-- a row of ints, as it is gathered -/
def Ints (lo hi : Int) (i : Nat) (xs : List V) : Prop := ∃ ns : List Int, xs = ns.map V.int ∧ ns.length ≤ i ∧ ∀ y ∈ ns, lo ≤ y ∧ y ≤ hi
theorem Ints.nil {lo hi : Int} {i : Nat} : Ints lo hi i [] := ⟨[], rfl, Nat.zero_le _, fun _ h => by cases h⟩
theorem Ints.more {lo hi : Int} {i : Nat} {xs : List V} (h : Ints lo hi i xs) : Ints lo hi (i + 1) xs := by
  obtain ⟨ns, e, l, b⟩ := h
  exact ⟨ns, e, by omega, b⟩
theorem Ints.app {lo hi : Int} {i : Nat} {xs : List V} {y : Int} (h : Ints lo hi i xs) (h1 : lo ≤ y) (h2 : y ≤ hi) : Ints lo hi (i + 1) (xs ++ [.int y]) := by
  obtain ⟨ns, rfl, l, b⟩ := h
  refine ⟨ns ++ [y], by rw [List.map_append]; rfl, by rw [List.length_append]; show ns.length + 1 ≤ _; omega, fun z hz => ?_⟩
  obtain h | h := List.mem_append.mp hz
  · exact b z h
  · cases List.mem_singleton.mp h
    exact ⟨h1, h2⟩
theorem sm_due {H : Hp} {d : PyData} {n : Int} {rs : List Int} {a b : Addr} (h1 : H a = some (.tup (dueV d n rs))) (h2 : H b = some (.tup (dueV d n rs))) : Sm H 4 (.ref a) (.ref b) :=
  .tup h1 h2 rfl (by show 8 ≤ 12; decide) fun i x y hx hy => by
    rw [hx] at hy
    cases hy
    have m := List.mem_of_getElem? hx
    unfold dueV at m
    simp only [List.mem_cons, List.not_mem_nil, or_false] at m
    obtain rfl | rfl | rfl | rfl | rfl | rfl | rfl | rfl := m <;> exact .bl
section
variable {P : Program} {w : World} {K : PySem.W.Frag} {mg : Str → Option Value} {base : Heap}
def spLaw (K : PySem.W.Frag) : Sp := fun vs H Q _ => ∃ (a : Addr) (ns : List Int), vs = [.ref a] ∧ SqL K H a (ns.map V.int) ∧ ∀ H', Q (.bl true) H'
theorem ok_law (T : Txt K mg) : Keeps P w K mg base CX0 8 d_s_law ["_law_script"] (spLaw K) := by
  obtain ⟨fd, F⟩ := f_law T
  obtain ⟨fd__law_bent, D__law_bent⟩ := ok__law_bent (P := P) (w := w) (base := base) T
  obtain ⟨fd__law_checked, D__law_checked⟩ := ok__law_checked (P := P) (w := w) (base := base) T
  obtain ⟨fd__law_due, D__law_due⟩ := ok__law_due (P := P) (w := w) (base := base) T
  obtain ⟨fd__law_great, D__law_great⟩ := ok__law_great (P := P) (w := w) (base := base) T
  obtain ⟨fd__law_net, D__law_net⟩ := ok__law_net (P := P) (w := w) (base := base) T
  obtain ⟨fd__law_pool, D__law_pool⟩ := ok__law_pool (P := P) (w := w) (base := base) T
  obtain ⟨fd__law_same, D__law_same⟩ := ok__law_same (P := P) (w := w) (base := base) T
  obtain ⟨fd__law_spoilt, D__law_spoilt⟩ := ok__law_spoilt (P := P) (w := w) (base := base) T
  obtain ⟨fd__law_take, D__law_take⟩ := ok__law_take (P := P) (w := w) (base := base) T
  obtain ⟨fd__law_told, D__law_told⟩ := ok__law_told (P := P) (w := w) (base := base) T
  obtain ⟨fd__law_wide, D__law_wide⟩ := ok__law_wide (P := P) (w := w) (base := base) T
  obtain ⟨fd__law_written, D__law_written⟩ := ok__law_written (P := P) (w := w) (base := base) T
  obtain ⟨fd_is_joining, D_is_joining⟩ := ok_is_joining (P := P) (w := w) (base := base) T
  obtain ⟨fd_is_split, D_is_split⟩ := ok_is_split (P := P) (w := w) (base := base) T
  refine ⟨fd, F, F.ok sc_law (fun vs H Q E h => ?_) (fun cdv A outer s H vs Q E hr h => ⟨_, PSs.nox
    (pss_cons (ps_set (i := 1) sc_law.nd rfl (Or.inr rfl) (pe_call D__law_pool.2 (hr.mono (by decide)) rfl (g__law_pool T) D__law_pool.1.kp (b__law_pool D__law_pool.1) .nil pass0 (pa_cons (pv 0) pa_nil)))
      (pss_cons (ps_set (i := 2) sc_law.nd rfl (Or.inl rfl) (pe_call D__law_net.2 (hr.mono (by decide)) rfl (g__law_net T) D__law_net.1.kp (b__law_net D__law_net.1) .nil pass0 (pa_cons (pv 1) pa_nil)))
      (pss_cons (ps_set (i := 3) sc_law.nd rfl (Or.inl rfl) (pe_ix ix_tup (pv 2) pe_int (fun _ _ => rfl)))
      (pss_cons (ps_set (i := 4) sc_law.nd rfl (Or.inl rfl) (pe_cmpR op_eq (pe_call D__law_take.2 (hr.mono (by decide)) rfl (g__law_take T) D__law_take.1.kp (b__law_take D__law_take.1) .nil pass0 (pa_cons (pv 1) (pa_cons pe_int pa_nil))) pe_int (nomark _)))
      (pss_cons (ps_set (i := 6) sc_law.nd rfl (Or.inl rfl) (pe_call D__law_bent.2 (hr.mono (by decide)) rfl (g__law_bent T) D__law_bent.1.kp (b__law_bent D__law_bent.1) .nil pass0 (pa_cons (pv 1) (pa_cons (pe_lc (own := [("_law_k", 5)]) rfl sc_law.nd (pi_range1 rfl (n_range T) (pa_cons (pv 3) pa_nil)) (blkOk_by (own := [("_law_k", 5)]) (N := ["_law_script", "_law_pool_here", "_law_net_here", "_law_n", "_law_named", "_law_k", "_law_lot", "_law_purses", "_law_joins", "_law_halves", "_law_times", "_law_share", "_law_near", "_law_values", "_law_once", "_law_scene", "_law_value", "_law_due_here", "_law_row"]) (sc := defScope s_law) (by decide +kernel)) (fun _ _ _ _ _ => (pg_name (i := 5) sc_law.nd rfl (Or.inl rfl))) (fun _ _ _ _ _ => (pts_one (pt_cmpR op_eq (pe_call D__law_take.2 (hr.mono (by decide)) rfl (g__law_take T) D__law_take.1.kp (b__law_take D__law_take.1) .nil pass0 (pa_cons (pv 1) (pa_cons pe_int pa_nil))) pe_int (nomark _)))) (fun _ _ _ _ _ => (pv 5))) (pa_cons (pv 3) pa_nil)))))
      (pss_cons (ps_set (i := 7) sc_law.nd rfl (Or.inl rfl) (pe_call D__law_bent.2 (hr.mono (by decide)) rfl (g__law_bent T) D__law_bent.1.kp (b__law_bent D__law_bent.1) .nil pass0 (pa_cons (pv 1) (pa_cons (pe_lc (own := [("_law_k", 5)]) rfl sc_law.nd (pi_range1 rfl (n_range T) (pa_cons (pv 3) pa_nil)) (blkOk_by (own := [("_law_k", 5)]) (N := ["_law_script", "_law_pool_here", "_law_net_here", "_law_n", "_law_named", "_law_k", "_law_lot", "_law_purses", "_law_joins", "_law_halves", "_law_times", "_law_share", "_law_near", "_law_values", "_law_once", "_law_scene", "_law_value", "_law_due_here", "_law_row"]) (sc := defScope s_law) (by decide +kernel)) (fun _ _ _ _ _ => (pg_name (i := 5) sc_law.nd rfl (Or.inl rfl))) (fun _ _ _ _ _ => pts_nil) (fun _ _ _ _ _ => (pe_call D__law_take.2 (hr.mono (by decide)) rfl (g__law_take T) D__law_take.1.kp (b__law_take D__law_take.1) .nil pass0 (pa_cons (pv 1) (pa_cons pe_int pa_nil))))) (pa_cons (pv 3) pa_nil)))))
      (pss_cons (ps_set (i := 8) sc_law.nd rfl (Or.inl rfl) (pe_lst pa_nil))
      (pss_cons (ps_for PassesOwn.never rfl (pi_range1 rfl (n_range T) (pa_cons (pv 3) pa_nil)) (pg_name (i := 5) sc_law.nd rfl (Or.inl rfl)) (pss_one (ps_if (PW.pt (pw_and (pt_cmpR op_gt (pv 5) pe_int (nomark _)) (pw_and1 (pt_cmpR op_eq (pe_call D__law_take.2 (hr.mono (by decide)) rfl (g__law_take T) D__law_take.1.kp (b__law_take D__law_take.1) .nil pass0 (pa_cons (pv 1) (pa_cons pe_int pa_nil))) pe_int (nomark _))))) (pss_one (ps_expr (pe_bm PySem.F.plainAttrs_list PySem.F.slot_list_append PySem.F.type_list_append mt_append (pv 8) (pa_cons (pe_ix ix_list (pv 8) (pe_call D__law_take.2 (hr.mono (by decide)) rfl (g__law_take T) D__law_take.1.kp (b__law_take D__law_take.1) .nil pass0 (pa_cons (pv 1) (pa_cons (pv 5) pa_nil))) (fun _ _ => rfl)) pa_nil)))) (pss_one (ps_expr (pe_bm PySem.F.plainAttrs_list PySem.F.slot_list_append PySem.F.type_list_append mt_append (pv 8) (pa_cons (pv 5) pa_nil)))))))
      (pss_cons (ps_set (i := 9) sc_law.nd rfl (Or.inl rfl) (pe_call D__law_bent.2 (hr.mono (by decide)) rfl (g__law_bent T) D__law_bent.1.kp (b__law_bent D__law_bent.1) .nil pass0 (pa_cons (pv 1) (pa_cons (pe_lc (own := [("_law_row", 18)]) rfl sc_law.nd (pi_tup (pe_ix ix_tup (pv 2) pe_int (fun _ _ => rfl))) (blkOk_by (own := [("_law_row", 18)]) (N := ["_law_script", "_law_pool_here", "_law_net_here", "_law_n", "_law_named", "_law_k", "_law_lot", "_law_purses", "_law_joins", "_law_halves", "_law_times", "_law_share", "_law_near", "_law_values", "_law_once", "_law_scene", "_law_value", "_law_due_here", "_law_row"]) (sc := defScope s_law) (by decide +kernel)) (fun _ _ _ _ _ => (pg_name (i := 18) sc_law.nd rfl (Or.inl rfl))) (fun _ _ _ _ _ => pts_nil) (fun _ _ _ _ _ => (pe_ix (ixK_list (K := K) rfl) (pe_lst (pa_cons pe_int (pa_cons (pe_ix (ixK_tup (K := K) rfl) (pv 18) pe_int (fun _ _ => rfl)) (pa_cons (pe_op op_fdivW (pe_ix (ixK_tup (K := K) rfl) (pv 18) pe_int (fun _ _ => rfl)) pe_int) pa_nil)))) (pe_call D__law_take.2 (hr.mono (by decide)) rfl (g__law_take T) D__law_take.1.kp (b__law_take D__law_take.1) .nil pass0 (pa_cons (pv 1) (pa_cons pe_int pa_nil))) (fun _ _ => rfl)))) (pa_cons pe_int pa_nil)))))
      (pss_cons (ps_set (i := 10) sc_law.nd rfl (Or.inl rfl) (pe_op op_add pe_int (pe_call D__law_take.2 (hr.mono (by decide)) rfl (g__law_take T) D__law_take.1.kp (b__law_take D__law_take.1) .nil pass0 (pa_cons (pv 1) (pa_cons pe_int pa_nil)))))
      (pss_cons (ps_set (i := 11) sc_law.nd rfl (Or.inl rfl) (pe_tupF (pa_cons (pe_op op_mulW (pe_op op_sub (pe_call D__law_take.2 (hr.mono (by decide)) rfl (g__law_take T) D__law_take.1.kp (b__law_take D__law_take.1) .nil pass0 (pa_cons (pv 1) (pa_cons pe_int pa_nil))) pe_int) (pv 10)) (pa_cons (pe_op op_mulW (pe_op op_add pe_int (pe_call D__law_take.2 (hr.mono (by decide)) rfl (g__law_take T) D__law_take.1.kp (b__law_take D__law_take.1) .nil pass0 (pa_cons (pv 1) (pa_cons pe_int pa_nil)))) (pv 10)) pa_nil))))
      (pss_cons (ps_set (i := 12) sc_law.nd rfl (Or.inl rfl) (pe_call D__law_great.2 (hr.mono (by decide)) rfl (g__law_great T) D__law_great.1.kp (b__law_great D__law_great.1) .nil pass0 (pa_cons (pv 1) pa_nil)))
      (pss_cons (ps_set (i := 13) sc_law.nd rfl (Or.inl rfl) (pe_lst (pa_cons (pv 6) (pa_cons (pv 7) (pa_cons (pe_call D__law_bent.2 (hr.mono (by decide)) rfl (g__law_bent T) D__law_bent.1.kp (b__law_bent D__law_bent.1) .nil pass0 (pa_cons (pv 1) (pa_cons (pv 8) (pa_cons (pv 3) pa_nil)))) (pa_cons (pv 9) (pa_cons (pv 11) (pa_cons (pe_tupF (pa_cons (pv 12) (pa_cons (pe_op op_add (pv 12) pe_int) pa_nil))) (pa_cons (pe_tupF (pa_cons (pe_op op_mulW (pv 12) pe_int) (pa_cons (pe_op op_add (pe_op op_mulW (pv 12) pe_int) pe_int) pa_nil))) (pa_cons (pv 12) pa_nil))))))))))
      (pss_cons (ps_set (i := 14) sc_law.nd rfl (Or.inl rfl) (pe_call D__law_spoilt.2 (hr.mono (by decide)) rfl (g__law_spoilt T) D__law_spoilt.1.kp (b__law_spoilt D__law_spoilt.1) .nil pass0 (pa_cons (pv 1) (pa_cons (pv 2) pa_nil))))
      (pss_cons (ps_set (i := 13) sc_law.nd rfl (Or.inl rfl) (pe_op op_cat (pv 13) (pe_lst (pa_cons (pv 2) (pa_cons (pv 14) (pa_cons (pe_call D__law_spoilt.2 (hr.mono (by decide)) rfl (g__law_spoilt T) D__law_spoilt.1.kp (b__law_spoilt D__law_spoilt.1) .nil pass0 (pa_cons (pv 1) (pa_cons (pv 14) pa_nil))) (pa_cons (pe_callTy call_tupF rfl (n_tuple T) (by decide +kernel) (pa_cons (pe_lc (own := [("_law_k", 5)]) rfl sc_law.nd (pi_range1 rfl (n_range T) (pa_cons (pv 3) pa_nil)) (blkOk_by (own := [("_law_k", 5)]) (N := ["_law_script", "_law_pool_here", "_law_net_here", "_law_n", "_law_named", "_law_k", "_law_lot", "_law_purses", "_law_joins", "_law_halves", "_law_times", "_law_share", "_law_near", "_law_values", "_law_once", "_law_scene", "_law_value", "_law_due_here", "_law_row"]) (sc := defScope s_law) (by decide +kernel)) (fun _ _ _ _ _ => (pg_name (i := 5) sc_law.nd rfl (Or.inl rfl))) (fun _ _ _ _ _ => pts_nil) (fun _ _ _ _ _ => (pe_call D__law_take.2 (hr.mono (by decide)) rfl (g__law_take T) D__law_take.1.kp (b__law_take D__law_take.1) .nil pass0 (pa_cons (pv 1) (pa_cons (pe_op op_add (pv 5) pe_int) pa_nil))))) pa_nil)) pa_nil)))))))
      (pss_cons (ps_set (i := 15) sc_law.nd rfl (Or.inl rfl) (pe_call D__law_take.2 (hr.mono (by decide)) rfl (g__law_take T) D__law_take.1.kp (b__law_take D__law_take.1) .nil pass0 (pa_cons (pv 1) (pa_cons pe_int pa_nil))))
      (Evl.pss_cut (ps_if (pt_cmpR op_eq (pv 15) pe_int (nomark _)) (pss_cons (ps_set (i := 13) sc_law.nd rfl (Or.inl rfl) (pe_op op_cat (pv 13) (pe_call0 D__law_written.2 (hr.mono (by decide)) rfl (g__law_written T) D__law_written.1.kp (b__law_written D__law_written.1) .nil pass0)))
      (pss_cons (ps_set (i := 3) sc_law.nd rfl (Or.inl rfl) (pe_op op_add pe_int (pe_call D__law_take.2 (hr.mono (by decide)) rfl (g__law_take T) D__law_take.1.kp (b__law_take D__law_take.1) .nil pass0 (pa_cons (pv 1) (pa_cons pe_int pa_nil)))))
      (pss_cons (ps_set (i := 2) sc_law.nd rfl (Or.inl rfl) (pe_tupF (pa_cons (pv 3) (pa_cons (pe_tupF (pa_cons (pe_tupF (pa_cons pe_int (pa_cons pe_int (pa_cons pe_int pa_nil)))) (pa_cons (pe_tupF (pa_cons pe_int (pa_cons pe_int (pa_cons pe_int pa_nil)))) (pa_cons (pe_tupF (pa_cons pe_int (pa_cons pe_int (pa_cons pe_int pa_nil)))) pa_nil)))) pa_nil))))
      (pss_one (ps_if (PW.pt (pw_or (pt_cmpR op_isnot_bl (pe_call D_is_joining.2 (hr.mono (by decide)) rfl (g_is_joining T) D_is_joining.1.kp (b_is_joining D_is_joining.1) .nil pass0 (pa_cons pe_int (pa_cons (pe_tupF pa_nil) pa_nil))) pe_bl (nomark _)) (pw_or (pt_cmpR op_isnot_bl (pe_call D_is_joining.2 (hr.mono (by decide)) rfl (g_is_joining T) D_is_joining.1.kp (b_is_joining D_is_joining.1) .nil pass0 (pa_cons pe_int (pa_cons (pe_tupF (pa_cons pe_int pa_nil)) pa_nil))) pe_bl (nomark _)) (pw_or1 (pt_cmpR op_isnot_bl (pe_call D_is_split.2 (hr.mono (by decide)) rfl (g_is_split T) D_is_split.1.kp (b_is_split D_is_split.1) .nil pass0 (pa_cons (pe_tupF (pa_cons pe_int (pa_cons (pe_tupF pa_nil) pa_nil))) (pa_cons (pe_tupF pa_nil) pa_nil))) pe_bl (nomark _)))))) (pss_one (ps_ret pe_bl)) pss_nil))))) pss_nil)
      (Evl.pss_cut (ps_if (pt_cmpR op_eq (pv 15) pe_int (nomark _)) (pss_one (ps_expr (pe_bm PySem.F.plainAttrs_list PySem.F.slot_list_append PySem.F.type_list_append mt_append (pv 13) (pa_cons (pe_call D__law_wide.2 (hr.mono (by decide)) rfl (g__law_wide T) D__law_wide.1.kp (b__law_wide D__law_wide.1) .nil pass0 (pa_cons (pv 1) pa_nil)) pa_nil)))) pss_nil)
      (pss_cons (ps_for PassesOwn.never rfl (pi_list (pv 13)) (pg_name (i := 16) sc_law.nd rfl (Or.inl rfl)) (pss_cons (ps_set (i := 17) sc_law.nd rfl (Or.inl rfl) (pe_call D__law_due.2 (hr.mono (by decide)) rfl (g__law_due T) D__law_due.1.kp (b__law_due D__law_due.1) .nil pass0 (pa_cons (pv 16) (pa_cons (pv 3) (pa_cons (pv 2) pa_nil)))))
      (pss_cons (ps_if (pt_not (pt_val (pe_call D__law_same.2 (hr.mono (by omega)) rfl (g__law_same T) D__law_same.1.kp (b__law_same D__law_same.1) .nil pass0 (pa_cons (pe_call D__law_told.2 (hr.mono (by decide)) rfl (g__law_told T) D__law_told.1.kp (b__law_told D__law_told.1) .nil pass0 (pa_cons (pv 16) (pa_cons (pv 3) (pa_cons (pv 2) (pa_cons (pv 4) pa_nil))))) (pa_cons (pv 17) pa_nil))))) (pss_one (ps_ret pe_bl)) pss_nil)
      (pss_one (ps_if (pt_not (pt_val (pe_call D__law_checked.2 (hr.mono (by decide)) rfl (g__law_checked T) D__law_checked.1.kp (b__law_checked D__law_checked.1) .nil pass0 (pa_cons (pv 16) (pa_cons (pv 4) pa_nil))))) (pss_one (ps_ret pe_bl)) pss_nil)))))
      (pss_cons (ps_for PassesOwn.never rfl (pi_list (pe_slice sl_list (pv 13) po_none (po_some pe_int))) (pg_name (i := 16) sc_law.nd rfl (Or.inl rfl)) (pss_cons (ps_if (pt_not (pt_val (pe_call D__law_checked.2 (hr.mono (by decide)) rfl (g__law_checked T) D__law_checked.1.kp (b__law_checked D__law_checked.1) .nil pass0 (pa_cons (pv 16) (pa_cons (pe_not (pv 4)) pa_nil))))) (pss_one (ps_ret pe_bl)) pss_nil)
      (pss_one (ps_if (pt_not (pt_val (pe_call D__law_same.2 (hr.mono (by omega)) rfl (g__law_same T) D__law_same.1.kp (b__law_same D__law_same.1) .nil pass0 (pa_cons (pe_call D__law_told.2 (hr.mono (by decide)) rfl (g__law_told T) D__law_told.1.kp (b__law_told D__law_told.1) .nil pass0 (pa_cons (pv 16) (pa_cons (pv 3) (pa_cons (pv 2) (pa_cons (pe_not (pv 4)) pa_nil))))) (pa_cons (pe_call D__law_due.2 (hr.mono (by decide)) rfl (g__law_due T) D__law_due.1.kp (b__law_due D__law_due.1) .nil pass0 (pa_cons (pv 16) (pa_cons (pv 3) (pa_cons (pv 2) pa_nil)))) pa_nil))))) (pss_one (ps_ret pe_bl)) pss_nil))))
      (pss_one (ps_ret pe_bl)))))))))))))))))))))), ?_⟩)⟩
  · obtain ⟨a, ns, rfl, _⟩ := h
    rfl
  · obtain ⟨a, ns, rfl, ha, ret⟩ := h
    simp (config := {maxSteps := 10000000}) only [tSeq, tAsg, gName, tRet, tRetN, tDrop, tIfS, tNext, tBreak, tCont, tTest, tB, tVar, tC, tCons, tNil, tCB, tCall, tCallK, tOp, tUn, rI0, rI, rU, rEq, rNe, tAnd, tOr, tNot, tAndV, tOrV, tNotV, tTup, tLst, tIf, gTup, gCons, gNil, tPar, tAug, ipI, gSub, L2.start, cxOf, Cx.nox, List.map_cons, List.map_nil, List.length_cons, List.length_nil, List.replicate, Nat.reduceAdd, Nat.reduceSub, List.cons_append, List.nil_append, List.append_nil, List.getElem?_cons_zero, List.getElem?_cons_succ, Option.some.injEq, V.int.injEq, V.bl.injEq, V.str.injEq, V.ref.injEq, V.ty.injEq, List.cons.injEq, and_true, true_and, exists_eq_left, exists_eq_left', exists_and_left, exists_and_right, decide_eq_true_eq, List.set_cons_zero, List.set_cons_succ, Bool.not_eq_true', decide_eq_false_iff_not, isi_NoneType_int, isi_NoneType_bool, isi_NoneType_tuple, isi_NoneType_str, isi_NoneType_list, isi_bool_int, isi_bool_bool, isi_bool_tuple, isi_bool_str, isi_bool_list, isi_int_int, isi_int_bool, isi_int_tuple, isi_int_str, isi_int_list, isi_str_int, isi_str_bool, isi_str_tuple, isi_str_str, isi_str_list, isi_list_int, isi_list_bool, isi_list_tuple, isi_list_str, isi_list_list, isi_tuple_int, isi_tuple_bool, isi_tuple_tuple, isi_tuple_str, isi_tuple_list, Bool.false_eq_true, if_true, if_false, reduceIte, Bool.not_true, Bool.not_false, reduceCtorEq, false_and, and_false, exists_false, exists_const, scal_int, scal_bl, scal_str, absE, ne_eq, not_true_eq_false, not_false_eq_true, Int.natCast_add, Int.cast_ofNat_Int, and_assoc, tChain3, tTupF, rTupOfF, rIxL, rIxT]
    refine ⟨a, ns, rfl, ha, fun p H0 hp => ?_⟩
    refine ⟨p, rfl, hp, fun b H1 n rows c1 N => ?_⟩
    have hn1 := N.n1
    have hn2 := N.n2
    obtain ⟨m, rfl⟩ : ∃ m : Nat, n = m := ⟨n.toNat, by omega⟩
    obtain ⟨nl, nr, nb, nlt, nrs⟩ := N.is
    refine ⟨b, rfl, _, nb.sq, _, rfl, ?_⟩
    refine ⟨p, 2, rfl, c1.st, by decide, fun tk H2 t0 t1 c2 => ⟨rfl, ?_⟩⟩
    generalize enm : decide (V.int tk = V.int 1) = nm
    clear enm t0 t1 tk
    have N2 := N.ch c2 c1.st
    have hB' : (100000 : Int) ≤ big := by decide
    refine lc_rngC (n := m) (p := p) (fun D i xs _ => Ints 0 8 i xs) c2.st (by omega) (fun Q' h => ⟨_, rfl, h⟩) (fun D hD => Ints.nil) (fun x => rfl) ?_ ?_
    · intro D i xs H3 Q1 Q0 hi hD nD hl c3 l3 I q1 q0
      simp only [tSeq, tAsg, gName, tRet, tRetN, tDrop, tIfS, tNext, tBreak, tCont, tTest, tB, tVar, tC, tCons, tNil, tCB, tCall, tCallK, tOp, tUn, rI0, rI, rU, rEq, rNe, tAnd, tOr, tNot, tAndV, tOrV, tNotV, tTup, tLst, tIf, gTup, gCons, gNil, tPar, tAug, ipI, gSub, L2.start, cxOf, Cx.nox, List.map_cons, List.map_nil, List.length_cons, List.length_nil, List.replicate, Nat.reduceAdd, Nat.reduceSub, List.cons_append, List.nil_append, List.append_nil, List.getElem?_cons_zero, List.getElem?_cons_succ, Option.some.injEq, V.int.injEq, V.bl.injEq, V.str.injEq, V.ref.injEq, V.ty.injEq, List.cons.injEq, and_true, true_and, exists_eq_left, exists_eq_left', exists_and_left, exists_and_right, decide_eq_true_eq, List.set_cons_zero, List.set_cons_succ, Bool.not_eq_true', decide_eq_false_iff_not, isi_NoneType_int, isi_NoneType_bool, isi_NoneType_tuple, isi_NoneType_str, isi_NoneType_list, isi_bool_int, isi_bool_bool, isi_bool_tuple, isi_bool_str, isi_bool_list, isi_int_int, isi_int_bool, isi_int_tuple, isi_int_str, isi_int_list, isi_str_int, isi_str_bool, isi_str_tuple, isi_str_str, isi_str_list, isi_list_int, isi_list_bool, isi_list_tuple, isi_list_str, isi_list_list, isi_tuple_int, isi_tuple_bool, isi_tuple_tuple, isi_tuple_str, isi_tuple_list, Bool.false_eq_true, if_true, if_false, reduceIte, Bool.not_true, Bool.not_false, reduceCtorEq, false_and, and_false, exists_false, exists_const, scal_int, scal_bl, scal_str, absE, ne_eq, not_true_eq_false, not_false_eq_true, Int.natCast_add, Int.cast_ofNat_Int, and_assoc, tChain3, tTupF, rTupOfF, wipe, Int.zero_add]
      refine ⟨p, 2, rfl, c3.st, by decide, fun tk H4 t0 t1 c4 => ⟨rfl, ?_⟩⟩
      exact ite2 (fun z => q1 _ _ c4 (I.app (by omega) (by omega))) (fun z => q0 _ c4 I.more)
    intro M1 xs1 H3 c3 hD1 nD1 l1 hl1 I1
    obtain ⟨ns1, rfl, ll1, b1⟩ := I1
    refine ⟨p, M1, m, ns1, rfl, c3.st, nD1, l1, by omega, fun y hy => by have := b1 y hy; omega, by omega, by omega, fun d1 v1 H4 c4 D1 => ?_⟩
    have N4 := N2.ch (c3.trans c4) c2.st
    refine lc_rngC (n := m) (p := p) (fun D i xs _ => Ints 0 8 i xs) c4.st (by omega) (fun Q' h => ⟨_, rfl, h⟩) (fun D hD => Ints.nil) (fun x => rfl) ?_ ?_
    · intro D i xs H3 Q1 Q0 hi hD nD hl c3 l3 I q1 q0
      simp only [tSeq, tAsg, gName, tRet, tRetN, tDrop, tIfS, tNext, tBreak, tCont, tTest, tB, tVar, tC, tCons, tNil, tCB, tCall, tCallK, tOp, tUn, rI0, rI, rU, rEq, rNe, tAnd, tOr, tNot, tAndV, tOrV, tNotV, tTup, tLst, tIf, gTup, gCons, gNil, tPar, tAug, ipI, gSub, L2.start, cxOf, Cx.nox, List.map_cons, List.map_nil, List.length_cons, List.length_nil, List.replicate, Nat.reduceAdd, Nat.reduceSub, List.cons_append, List.nil_append, List.append_nil, List.getElem?_cons_zero, List.getElem?_cons_succ, Option.some.injEq, V.int.injEq, V.bl.injEq, V.str.injEq, V.ref.injEq, V.ty.injEq, List.cons.injEq, and_true, true_and, exists_eq_left, exists_eq_left', exists_and_left, exists_and_right, decide_eq_true_eq, List.set_cons_zero, List.set_cons_succ, Bool.not_eq_true', decide_eq_false_iff_not, isi_NoneType_int, isi_NoneType_bool, isi_NoneType_tuple, isi_NoneType_str, isi_NoneType_list, isi_bool_int, isi_bool_bool, isi_bool_tuple, isi_bool_str, isi_bool_list, isi_int_int, isi_int_bool, isi_int_tuple, isi_int_str, isi_int_list, isi_str_int, isi_str_bool, isi_str_tuple, isi_str_str, isi_str_list, isi_list_int, isi_list_bool, isi_list_tuple, isi_list_str, isi_list_list, isi_tuple_int, isi_tuple_bool, isi_tuple_tuple, isi_tuple_str, isi_tuple_list, Bool.false_eq_true, if_true, if_false, reduceIte, Bool.not_true, Bool.not_false, reduceCtorEq, false_and, and_false, exists_false, exists_const, scal_int, scal_bl, scal_str, absE, ne_eq, not_true_eq_false, not_false_eq_true, Int.natCast_add, Int.cast_ofNat_Int, and_assoc, tChain3, tTupF, rTupOfF, wipe, Int.zero_add, tYes]
      refine ⟨p, 5, rfl, c3.st, by decide, fun tk H4 t0 t1 c4 => ?_⟩
      exact q1 _ _ c4 (I.app (by omega) (by omega))
    intro M2 xs2 H5 c5 hD2 nD2 l2 hl2 I2
    obtain ⟨ns2, rfl, ll2, b2⟩ := I2
    refine ⟨p, M2, m, ns2, rfl, c5.st, nD2, l2, by omega, fun y hy => by have := b2 y hy; omega, by omega, by omega, fun d2 v2 H6 c6 D2 => ?_⟩
    have c46 := c5.trans c6
    have N6 := N4.ch c46 c4.st
    have D1' := c46.dt D1 rfl
    clear D1
    refine ⟨by decide, fun J hJ => ?_⟩
    have nJ := c6.st.ne_new hJ
    refine for_rangeE (n := m) (by omega) (fun Q' h => ⟨_, rfl, h⟩) (fun i σ' H' => Ch p H6 H' ∧ ∃ (x5 : Option V) (js : List Int), σ' = [some (.ref a), some (.ref p), some (.ref b), some (.int m), some (.bl nm), x5, some v1, some v2, some (.ref J), none, none, none, none, none, none, none, none, none, none] ∧
      H' J = some (.lst (js.map V.int)) ∧ js.length = i ∧ ∀ y ∈ js, 0 ≤ y ∧ y ≤ 8) ?_ ?_ ?_
    · exact ⟨Ch.of c6.st (Evl.Ex.new hJ), _, [], rfl, upd_same, rfl, fun _ h => by cases h⟩
    · rintro i σ' H' hi ⟨c7, x5, js, rfl, hj, lj, bj⟩
      simp only [tSeq, tAsg, gName, tRet, tRetN, tDrop, tIfS, tNext, tBreak, tCont, tTest, tB, tVar, tC, tCons, tNil, tCB, tCall, tCallK, tOp, tUn, rI0, rI, rU, rEq, rNe, tAnd, tOr, tNot, tAndV, tOrV, tNotV, tTup, tLst, tIf, gTup, gCons, gNil, tPar, tAug, ipI, gSub, L2.start, cxOf, Cx.nox, List.map_cons, List.map_nil, List.length_cons, List.length_nil, List.replicate, Nat.reduceAdd, Nat.reduceSub, List.cons_append, List.nil_append, List.append_nil, List.getElem?_cons_zero, List.getElem?_cons_succ, Option.some.injEq, V.int.injEq, V.bl.injEq, V.str.injEq, V.ref.injEq, V.ty.injEq, List.cons.injEq, and_true, true_and, exists_eq_left, exists_eq_left', exists_and_left, exists_and_right, decide_eq_true_eq, List.set_cons_zero, List.set_cons_succ, Bool.not_eq_true', decide_eq_false_iff_not, isi_NoneType_int, isi_NoneType_bool, isi_NoneType_tuple, isi_NoneType_str, isi_NoneType_list, isi_bool_int, isi_bool_bool, isi_bool_tuple, isi_bool_str, isi_bool_list, isi_int_int, isi_int_bool, isi_int_tuple, isi_int_str, isi_int_list, isi_str_int, isi_str_bool, isi_str_tuple, isi_str_str, isi_str_list, isi_list_int, isi_list_bool, isi_list_tuple, isi_list_str, isi_list_list, isi_tuple_int, isi_tuple_bool, isi_tuple_tuple, isi_tuple_str, isi_tuple_list, Bool.false_eq_true, if_true, if_false, reduceIte, Bool.not_true, Bool.not_false, reduceCtorEq, false_and, and_false, exists_false, exists_const, scal_int, scal_bl, scal_str, absE, ne_eq, not_true_eq_false, not_false_eq_true, Int.natCast_add, Int.cast_ofNat_Int, and_assoc, tChain3, tTupF, rTupOfF, wipe, Int.zero_add, tBM, rAppend, rIxL]
      have app : ∀ {H2 : Hp} {y : Int}, Ch p H' H2 → 0 ≤ y → y ≤ 8 → Ch p H6 (upd H2 J (.lst (js.map V.int ++ [.int y]))) ∧ ∃ x : List Int, upd H2 J (.lst (js.map V.int ++ [.int y])) J = some (.lst (x.map V.int)) ∧ x.length = i + 1 ∧ ∀ y ∈ x, 0 ≤ y ∧ y ≤ 8 := fun {H2 y} c h1 h2 => by
        refine ⟨(c7.trans c).mut hJ nJ, js ++ [y], by rw [upd_same, List.map_append]; rfl, by rw [List.length_append, lj]; rfl, fun z hz => ?_⟩
        obtain h | h := List.mem_append.mp hz
        · exact bj z h
        · cases List.mem_singleton.mp h
          exact ⟨h1, h2⟩
      have fin : ∀ {H2 : Hp}, Ch p H' H2 → tyV K "list" (.ref J) H2 ∧ ∃ x, H2 J = some (.lst x) ∧ x.length < sizeLine ∧ Ch p H6 (upd H2 J (.lst (x ++ [.int (i : Int)]))) ∧ ∃ x_1 : List Int, upd H2 J (.lst (x ++ [.int (i : Int)])) J = some (.lst (x_1.map V.int)) ∧ x_1.length = i + 1 ∧ ∀ y ∈ x_1, 0 ≤ y ∧ y ≤ 8 := fun {H2} c =>
        ⟨.inl ⟨rfl, _, SqL.of (c.keep _ _ nJ hj)⟩, _, c.keep _ _ nJ hj, by rw [List.length_map, lj, sizeLine_eq]; omega, app c (by omega) (by omega)⟩
      refine ite2 (fun z0 => ?_) (fun _ => fin (Ch.refl c7.st))
      refine ⟨p, 2, rfl, c7.st, by decide, fun tk H8 t0 t1 c8 => ⟨rfl, ite2 (fun _ => ?_) (fun _ => fin c8)⟩⟩
      refine ⟨.inl ⟨rfl, _, SqL.of (c8.keep _ _ nJ hj)⟩, p, i, rfl, c8.st, by omega, fun k H9 k0 k1 c9 => ?_⟩
      have hj9 := c9.keep _ _ nJ (c8.keep _ _ nJ hj)
      obtain ⟨kk, rfl⟩ : ∃ kk : Nat, k = kk := ⟨k.toNat, by omega⟩
      obtain ⟨y, hy⟩ : ∃ y, js[kk]? = some y := ⟨_, List.getElem?_eq_getElem (by omega)⟩
      have by' := bj y (List.mem_of_getElem? hy)
      refine ⟨_, _, rfl, SqL.of hj9, _, atI_nat (show (js.map V.int)[kk]? = some (.int y) by rw [List.getElem?_map, hy]; rfl), _, hj9, by rw [List.length_map, lj, sizeLine_eq]; omega, app (c8.trans c9) by'.1 by'.2⟩
    rintro σ' H7 ⟨c7, x5, js, rfl, hj, lj, bj⟩
    simp (config := {maxSteps := 10000000}) only [tSeq, tAsg, gName, tRet, tRetN, tDrop, tIfS, tNext, tBreak, tCont, tTest, tB, tVar, tC, tCons, tNil, tCB, tCall, tCallK, tOp, tUn, rI0, rI, rU, rEq, rNe, tAnd, tOr, tNot, tAndV, tOrV, tNotV, tTup, tLst, tIf, gTup, gCons, gNil, tPar, tAug, ipI, gSub, L2.start, cxOf, Cx.nox, List.map_cons, List.map_nil, List.length_cons, List.length_nil, List.replicate, Nat.reduceAdd, Nat.reduceSub, List.cons_append, List.nil_append, List.append_nil, List.getElem?_cons_zero, List.getElem?_cons_succ, Option.some.injEq, V.int.injEq, V.bl.injEq, V.str.injEq, V.ref.injEq, V.ty.injEq, List.cons.injEq, and_true, true_and, exists_eq_left, exists_eq_left', exists_and_left, exists_and_right, decide_eq_true_eq, List.set_cons_zero, List.set_cons_succ, Bool.not_eq_true', decide_eq_false_iff_not, isi_NoneType_int, isi_NoneType_bool, isi_NoneType_tuple, isi_NoneType_str, isi_NoneType_list, isi_bool_int, isi_bool_bool, isi_bool_tuple, isi_bool_str, isi_bool_list, isi_int_int, isi_int_bool, isi_int_tuple, isi_int_str, isi_int_list, isi_str_int, isi_str_bool, isi_str_tuple, isi_str_str, isi_str_list, isi_list_int, isi_list_bool, isi_list_tuple, isi_list_str, isi_list_list, isi_tuple_int, isi_tuple_bool, isi_tuple_tuple, isi_tuple_str, isi_tuple_list, Bool.false_eq_true, if_true, if_false, reduceIte, Bool.not_true, Bool.not_false, reduceCtorEq, false_and, and_false, exists_false, exists_const, scal_int, scal_bl, scal_str, absE, ne_eq, not_true_eq_false, not_false_eq_true, Int.natCast_add, Int.cast_ofNat_Int, and_assoc, tChain3, tTupF, rTupOfF, rIxL, rIxT]
    have N7 := N6.ch c7 c6.st
    have D1 := c7.dt D1' rfl
    have D2' := c7.dt D2 rfl
    clear D2 D1'
    obtain ⟨nl7, nr7, nb7, nlt7, nrs7⟩ := N7.is
    refine lc_tupC (p := p) (a := nl7) (ys := nr7) (fun D i xs _ => Ints 0 (10 ^ 30) i xs) c7.st (by rw [nrs7.len]; have := N7.len; omega) (fun Q' h => ?_) nlt7 (fun D hD => Ints.nil) (fun x => rfl) ?_ ?_
    · simp only [tSeq, tAsg, gName, tRet, tRetN, tDrop, tIfS, tNext, tBreak, tCont, tTest, tB, tVar, tC, tCons, tNil, tCB, tCall, tCallK, tOp, tUn, rI0, rI, rU, rEq, rNe, tAnd, tOr, tNot, tAndV, tOrV, tNotV, tTup, tLst, tIf, gTup, gCons, gNil, tPar, tAug, ipI, gSub, L2.start, cxOf, Cx.nox, List.map_cons, List.map_nil, List.length_cons, List.length_nil, List.replicate, Nat.reduceAdd, Nat.reduceSub, List.cons_append, List.nil_append, List.append_nil, List.getElem?_cons_zero, List.getElem?_cons_succ, Option.some.injEq, V.int.injEq, V.bl.injEq, V.str.injEq, V.ref.injEq, V.ty.injEq, List.cons.injEq, and_true, true_and, exists_eq_left, exists_eq_left', exists_and_left, exists_and_right, decide_eq_true_eq, List.set_cons_zero, List.set_cons_succ, Bool.not_eq_true', decide_eq_false_iff_not, isi_NoneType_int, isi_NoneType_bool, isi_NoneType_tuple, isi_NoneType_str, isi_NoneType_list, isi_bool_int, isi_bool_bool, isi_bool_tuple, isi_bool_str, isi_bool_list, isi_int_int, isi_int_bool, isi_int_tuple, isi_int_str, isi_int_list, isi_str_int, isi_str_bool, isi_str_tuple, isi_str_str, isi_str_list, isi_list_int, isi_list_bool, isi_list_tuple, isi_list_str, isi_list_list, isi_tuple_int, isi_tuple_bool, isi_tuple_tuple, isi_tuple_str, isi_tuple_list, Bool.false_eq_true, if_true, if_false, reduceIte, Bool.not_true, Bool.not_false, reduceCtorEq, false_and, and_false, exists_false, exists_const, scal_int, scal_bl, scal_str, absE, ne_eq, not_true_eq_false, not_false_eq_true, Int.natCast_add, Int.cast_ofNat_Int, and_assoc, tChain3, tTupF, rTupOfF, rIxT]
      exact ⟨_, nb7.sq, _, rfl, h⟩
    · intro D i x xs H8 Q1 Q0 hi hD nD hl c8 l8 I q1 q0
      simp only [tSeq, tAsg, gName, tRet, tRetN, tDrop, tIfS, tNext, tBreak, tCont, tTest, tB, tVar, tC, tCons, tNil, tCB, tCall, tCallK, tOp, tUn, rI0, rI, rU, rEq, rNe, tAnd, tOr, tNot, tAndV, tOrV, tNotV, tTup, tLst, tIf, gTup, gCons, gNil, tPar, tAug, ipI, gSub, L2.start, cxOf, Cx.nox, List.map_cons, List.map_nil, List.length_cons, List.length_nil, List.replicate, Nat.reduceAdd, Nat.reduceSub, List.cons_append, List.nil_append, List.append_nil, List.getElem?_cons_zero, List.getElem?_cons_succ, Option.some.injEq, V.int.injEq, V.bl.injEq, V.str.injEq, V.ref.injEq, V.ty.injEq, List.cons.injEq, and_true, true_and, exists_eq_left, exists_eq_left', exists_and_left, exists_and_right, decide_eq_true_eq, List.set_cons_zero, List.set_cons_succ, Bool.not_eq_true', decide_eq_false_iff_not, isi_NoneType_int, isi_NoneType_bool, isi_NoneType_tuple, isi_NoneType_str, isi_NoneType_list, isi_bool_int, isi_bool_bool, isi_bool_tuple, isi_bool_str, isi_bool_list, isi_int_int, isi_int_bool, isi_int_tuple, isi_int_str, isi_int_list, isi_str_int, isi_str_bool, isi_str_tuple, isi_str_str, isi_str_list, isi_list_int, isi_list_bool, isi_list_tuple, isi_list_str, isi_list_list, isi_tuple_int, isi_tuple_bool, isi_tuple_tuple, isi_tuple_str, isi_tuple_list, Bool.false_eq_true, if_true, if_false, reduceIte, Bool.not_true, Bool.not_false, reduceCtorEq, false_and, and_false, exists_false, exists_const, scal_int, scal_bl, scal_str, absE, ne_eq, not_true_eq_false, not_false_eq_true, Int.natCast_add, Int.cast_ofNat_Int, and_assoc, tChain3, tTupF, rTupOfF, wipe, Int.zero_add, tYes, rIxL, rIxT]
      have li := (List.getElem?_eq_some_iff.mp hi).1
      rw [nrs7.len] at li
      obtain ⟨r, hr⟩ : ∃ r, rows[i]? = some r := ⟨_, List.getElem?_eq_getElem li⟩
      obtain ⟨t, ht, tt⟩ := nrs7.get hr
      rw [hi] at ht
      cases ht
      obtain ⟨o1, o2, o3, o4, o5⟩ := N7.ok r (List.mem_of_getElem? hr)
      have tt8 := chN tt c8 c7.st
      refine ⟨t, rfl, _, tt8.sq, _, rfl, t, rfl, _, tt8.sq, _, rfl, _, rfl, ⟨by decide, by decide⟩, by decide, fun q hq => ?_⟩
      have e9 := Evl.Ex.new (o := HO.lst [V.int 0, V.int r.2.2, V.int (r.2.2 / 2)]) hq
      have nq := c8.st.ne_new hq
      have l9 : upd H8 q (HO.lst [V.int 0, V.int r.2.2, V.int (r.2.2 / 2)]) q = some (HO.lst [V.int 0, V.int r.2.2, V.int (r.2.2 / 2)]) := upd_same
      generalize upd H8 q (HO.lst [V.int 0, V.int r.2.2, V.int (r.2.2 / 2)]) = H9 at *
      have c9 := Ch.of c8.st e9
      refine ⟨p, 3, rfl, c9.st, by decide, fun k H10 k0 k1 c10 => ?_⟩
      have go : ∀ {y : Int}, 0 ≤ y → y ≤ 10 ^ 30 → Q1 (.int y) H10 := fun h1 h2 => q1 _ _ (c9.trans c10) (I.app h1 h2)
      refine ⟨_, _, rfl, SqL.of (c10.keep _ _ nq l9), ?_⟩
      obtain rfl | rfl | rfl : k = 0 ∨ k = 1 ∨ k = 2 := by omega
      · exact ⟨_, rfl, go (by omega) (by omega)⟩
      · exact ⟨_, rfl, go (by omega) (by omega)⟩
      · exact ⟨_, rfl, go (by omega) (by omega)⟩
    intro M3 xs3 H8 c8 hD3 nD3 l3 hl3 I3
    obtain ⟨ns3, rfl, ll3, b3⟩ := I3
    have := N7.len
    rw [nrs7.len] at ll3
    refine ⟨p, M3, 1, ns3, rfl, c8.st, nD3, l3, by omega, fun y hy => by have := b3 y hy; omega, by omega, by omega, fun d3 v3 H9 c9 D3 => ?_⟩
    have c79 := c8.trans c9
    refine ⟨p, 3, rfl, c9.st, by decide, fun k1 H10 k10 k11 c10 => ⟨k1, rfl, ?_⟩⟩
    refine ⟨p, 999, rfl, c10.st, by decide, fun k2 H11 k20 k21 c11 => ⟨k2, rfl, wide_mul (a := 32) (b := 20) (by omega) (by omega) (by decide) (by decide) (by decide), ?_⟩⟩
    refine ⟨p, 60, rfl, c11.st, by decide, fun k3 H12 k30 k31 c12 => ⟨k3, rfl, wide_mul (a := 32) (b := 20) (by omega) (by omega) (by decide) (by decide) (by decide), by decide, fun s1 H13 hs1 e13 ts1 => ?_⟩⟩
    have hB30 : (10 : Int) ^ 30 * 4 ≤ big := by decide
    have c13 : Ch p H9 H13 := ((c10.trans c11).trans c12).ex e13
    have D4 : Dt (· = p) big H13 (.tuple [.int ((k2 - 400) * (1 + k1)), .int ((1 + k3) * (1 + k1))]) (.ref s1) := by
      refine ⟨s1, _, rfl, c12.st.ne_new hs1, ts1, Nat.le_of_ble_eq_true rfl, ⟨rfl, ?_⟩, ⟨rfl, ?_⟩, True.intro⟩
      all_goals
        obtain rfl | rfl | rfl : k1 = 0 ∨ k1 = 1 ∨ k1 = 2 := by omega
        all_goals exact ⟨by omega, by omega⟩
    refine ⟨p, rfl, c13.st, fun g H14 g0 g1 c14 => ?_⟩
    have c914 := c13.trans c14
    have c714 := c79.trans c914
    have j14 := c714.keep _ _ nJ hj
    refine ⟨p, J, m, js, rfl, c14.st, nJ, j14, by omega, fun y hy => by have := bj y hy; omega, by omega, by omega, fun d5 v5 H15 c15 D5 => ?_⟩
    refine ⟨g, rfl, by decide, fun q1 H16 hq1 e16 tq1 => ?_⟩
    refine ⟨g, rfl, wide_mul (a := 128) (b := 20) (by omega) (by decide) (by decide) (by decide) (by decide), g, rfl, wide_mul (a := 128) (b := 20) (by omega) (by decide) (by decide) (by decide) (by decide), by decide, fun q2 H17 hq2 e17 tq2 => ?_⟩
    refine ⟨by decide, fun W0 hW0 => ?_⟩
    have c1517 := Ch.of c15.st (e16.trans e17)
    have c1417 := c15.trans c1517
    have D8 : DtAll (· = p) big H17 [d1, d2, d5, d3, .tuple [.int ((k2 - 400) * (1 + k1)), .int ((1 + k3) * (1 + k1))], .tuple [.int g, .int (g + 1)], .tuple [.int (g * 3), .int (g * 3 + 3)], .int g]
        [v1, v2, v5, v3, .ref s1, .ref q1, .ref q2, .int g] :=
      ⟨D1.ch (c714.trans c1417) (Int.le_refl _), D2'.ch (c714.trans c1417) (Int.le_refl _), D5.ch c1517 (Int.le_refl _), D3.ch (c914.trans c1417) (Int.le_refl _), D4.ch (c14.trans c1417) (Int.le_refl _),
        ⟨q1, _, rfl, c15.st.ne_new hq1, tq1.ex e17, Nat.le_of_ble_eq_true rfl, ⟨rfl, by omega, by omega⟩, ⟨rfl, by omega, by omega⟩, True.intro⟩,
        ⟨q2, _, rfl, (c15.st.ex e16).ne_new hq2, tq2, Nat.le_of_ble_eq_true rfl, ⟨rfl, by omega, by omega⟩, ⟨rfl, by omega, by omega⟩, True.intro⟩, ⟨rfl, by omega, by omega⟩, True.intro⟩
    have e18 := Evl.Ex.new (o := HO.lst [v1, v2, v5, v3, .ref s1, .ref q1, .ref q2, .int g]) hW0
    have w18 : upd H17 W0 (HO.lst [v1, v2, v5, v3, .ref s1, .ref q1, .ref q2, .int g]) W0 = some (HO.lst [v1, v2, v5, v3, .ref s1, .ref q1, .ref q2, .int g]) := upd_same
    have nW0 := c1517.st.ne_new hW0
    generalize upd H17 W0 (HO.lst [v1, v2, v5, v3, .ref s1, .ref q1, .ref q2, .int g]) = H18 at *
    have c18 := Ch.of c1517.st e18
    have c718 := (c714.trans c1417).trans c18
    have N18 := N7.ch c718 c7.st
    refine ⟨p, big, _, _, rfl, c18.st, Int.le_refl _, N18.dt c18.st, fun d6 v6 H19 c19 D6 => ?_⟩
    refine ⟨p, big + 1, _, _, rfl, c19.st, by omega, D6, fun d7 v7 H20 c20 D7 => ?_⟩
    have N20 := (N18.ch c19 c18.st).ch c20 c19.st
    refine lc_rngC (n := m) (p := p) (fun D i xs _ => Ints 0 8 i xs) c20.st (by omega) (fun Q' h => ⟨_, rfl, h⟩) (fun D hD => Ints.nil) (fun x => rfl) ?_ ?_
    · intro D i xs H3 Q1 Q0 hi hD nD hl c3 l3 I q1 q0
      simp only [tSeq, tAsg, gName, tRet, tRetN, tDrop, tIfS, tNext, tBreak, tCont, tTest, tB, tVar, tC, tCons, tNil, tCB, tCall, tCallK, tOp, tUn, rI0, rI, rU, rEq, rNe, tAnd, tOr, tNot, tAndV, tOrV, tNotV, tTup, tLst, tIf, gTup, gCons, gNil, tPar, tAug, ipI, gSub, L2.start, cxOf, Cx.nox, List.map_cons, List.map_nil, List.length_cons, List.length_nil, List.replicate, Nat.reduceAdd, Nat.reduceSub, List.cons_append, List.nil_append, List.append_nil, List.getElem?_cons_zero, List.getElem?_cons_succ, Option.some.injEq, V.int.injEq, V.bl.injEq, V.str.injEq, V.ref.injEq, V.ty.injEq, List.cons.injEq, and_true, true_and, exists_eq_left, exists_eq_left', exists_and_left, exists_and_right, decide_eq_true_eq, List.set_cons_zero, List.set_cons_succ, Bool.not_eq_true', decide_eq_false_iff_not, isi_NoneType_int, isi_NoneType_bool, isi_NoneType_tuple, isi_NoneType_str, isi_NoneType_list, isi_bool_int, isi_bool_bool, isi_bool_tuple, isi_bool_str, isi_bool_list, isi_int_int, isi_int_bool, isi_int_tuple, isi_int_str, isi_int_list, isi_str_int, isi_str_bool, isi_str_tuple, isi_str_str, isi_str_list, isi_list_int, isi_list_bool, isi_list_tuple, isi_list_str, isi_list_list, isi_tuple_int, isi_tuple_bool, isi_tuple_tuple, isi_tuple_str, isi_tuple_list, Bool.false_eq_true, if_true, if_false, reduceIte, Bool.not_true, Bool.not_false, reduceCtorEq, false_and, and_false, exists_false, exists_const, scal_int, scal_bl, scal_str, absE, ne_eq, not_true_eq_false, not_false_eq_true, Int.natCast_add, Int.cast_ofNat_Int, and_assoc, tChain3, tTupF, rTupOfF, wipe, Int.zero_add, tYes]
      refine ⟨p, _, rfl, c3.st, by omega, fun tk H4 t0 t1 c4 => ?_⟩
      exact q1 _ _ c4 (I.app (by omega) (by omega))
    intro M4 xs4 H21 c21 hD4 nD4 l4 hl4 I4
    obtain ⟨ns4, rfl, ll4, b4⟩ := I4
    refine ⟨M4, rfl, _, SqL.of l4, fun s2 H22 hs2 e22 ts2 => ?_⟩
    refine ⟨by decide, fun W1 hW1 => ?_⟩
    have c2022 := c21.ex e22
    have D4' : DtAll (· = p) (big + 2) H22 [netD m rows, d6, d7, .tuple (ns4.map PyData.int)] [.ref b, v6, v7, .ref s2] :=
      ⟨((N20.ch c2022 c20.st).dt c2022.st).ch (Ch.refl c2022.st) (by omega), D6.ch (c20.trans c2022) (by omega), D7.ch c2022 (by omega),
        ⟨s2, _, rfl, c21.st.ne_new hs2, ts2, by rw [List.length_map]; omega, DtAll.ints fun y hy => by have := b4 y hy; omega⟩, True.intro⟩
    have e23 := Evl.Ex.new (o := HO.lst [.ref b, v6, v7, .ref s2]) hW1
    have w23 : upd H22 W1 (HO.lst [.ref b, v6, v7, .ref s2]) W1 = some (HO.lst [.ref b, v6, v7, .ref s2]) := upd_same
    generalize upd H22 W1 (HO.lst [.ref b, v6, v7, .ref s2]) = H23 at *
    have c2023 := c2022.ex e23
    have c1823 := (c19.trans c20).trans c2023
    refine ⟨W0, W1, _, _, rfl, rfl, c1823.keep _ _ nW0 w18, w23, (by show 12 ≤ sizeLine; decide), fun W hW => ?_⟩
    have D12 : DtAll (· = p) (big + 2) H23 _ _ := DtAll.app (D8.ch (c18.trans c1823) (by omega)) (D4'.ch (Ch.of c2022.st e23) (Int.le_refl _))
    have e24 := Evl.Ex.new (o := HO.lst ([v1, v2, v5, v3, .ref s1, .ref q1, .ref q2, .int g] ++ [.ref b, v6, v7, .ref s2])) hW
    have w24 : upd H23 W (HO.lst ([v1, v2, v5, v3, .ref s1, .ref q1, .ref q2, .int g] ++ [.ref b, v6, v7, .ref s2])) W = some (HO.lst ([v1, v2, v5, v3, .ref s1, .ref q1, .ref q2, .int g] ++ [.ref b, v6, v7, .ref s2])) := upd_same
    have nW := c2023.st.ne_new hW
    have fr : ∀ a, SS p W a → a = p ∨ H23 a = none := fun a z => z.elim .inl fun z => .inr (by rw [z]; exact hW)
    have vs24 : VS p b W m rows 12 (upd H23 W (HO.lst ([v1, v2, v5, v3, .ref s1, .ref q1, .ref q2, .int g] ++ [.ref b, v6, v7, .ref s2]))) :=
      ⟨c2023.st.ex e24, (N20.ch c2023 c20.st).ch (Ch.of c2023.st e24) c2023.st, nW, _, _, w24, (DtAll.more fr _ _ D12).ex e24, Nat.le_of_ble_eq_true rfl⟩
    generalize upd H23 W (HO.lst ([v1, v2, v5, v3, .ref s1, .ref q1, .ref q2, .int g] ++ [.ref b, v6, v7, .ref s2])) = H24 at *
    refine ⟨p, 8, rfl, vs24.po, by decide, fun sc H25 sc0 sc1 c25 => ?_⟩
    have vs25 := vs24.ch c25
    generalize V.int (1 + k1) = y10, V.ref s1 = y11, V.int g = y12
    clear vs24 c25 D12 fr w24 e24 c1823 e23 c2023 D4' D8 c2022 N20 D7 D6 N18
    refine ⟨fun σ' H' => ∃ (b : Addr) (n : Int) (rows : List R3) (W : Addr) (y5 : Option V), σ' = [some (.ref a), some (.ref p), some (.ref b), some (.int n), some (.bl nm), y5, some v1, some v2, some (.ref J), some v3, some y10, some y11, some y12, some (.ref W), some v6, some (.int sc), none, none, none] ∧ VS p b W n rows 103 H', ?_, ?_⟩
    · simp (config := {maxSteps := 10000000}) only [tSeq, tAsg, gName, tRet, tRetN, tDrop, tIfS, tNext, tBreak, tCont, tTest, tB, tVar, tC, tCons, tNil, tCB, tCall, tCallK, tOp, tUn, rI0, rI, rU, rEq, rNe, tAnd, tOr, tNot, tAndV, tOrV, tNotV, tTup, tLst, tIf, gTup, gCons, gNil, tPar, tAug, ipI, gSub, L2.start, cxOf, Cx.nox, List.map_cons, List.map_nil, List.length_cons, List.length_nil, List.replicate, Nat.reduceAdd, Nat.reduceSub, List.cons_append, List.nil_append, List.append_nil, List.getElem?_cons_zero, List.getElem?_cons_succ, Option.some.injEq, V.int.injEq, V.bl.injEq, V.str.injEq, V.ref.injEq, V.ty.injEq, List.cons.injEq, and_true, true_and, exists_eq_left, exists_eq_left', exists_and_left, exists_and_right, decide_eq_true_eq, List.set_cons_zero, List.set_cons_succ, Bool.not_eq_true', decide_eq_false_iff_not, isi_NoneType_int, isi_NoneType_bool, isi_NoneType_tuple, isi_NoneType_str, isi_NoneType_list, isi_bool_int, isi_bool_bool, isi_bool_tuple, isi_bool_str, isi_bool_list, isi_int_int, isi_int_bool, isi_int_tuple, isi_int_str, isi_int_list, isi_str_int, isi_str_bool, isi_str_tuple, isi_str_str, isi_str_list, isi_list_int, isi_list_bool, isi_list_tuple, isi_list_str, isi_list_list, isi_tuple_int, isi_tuple_bool, isi_tuple_tuple, isi_tuple_str, isi_tuple_list, Bool.false_eq_true, if_true, if_false, reduceIte, Bool.not_true, Bool.not_false, reduceCtorEq, false_and, and_false, exists_false, exists_const, scal_int, scal_bl, scal_str, absE, ne_eq, not_true_eq_false, not_false_eq_true, Int.natCast_add, Int.cast_ofNat_Int, and_assoc, tChain3, tTupF, rTupOfF, rIxL]
      refine ite2 (fun _ => ?_) (fun _ => ⟨rows, vs25.more (by decide)⟩)
      refine ⟨rfl, fun l H1 e1 hl M => ?_⟩
      obtain ⟨po, net, ne, ds, vs, hw, dd, lv⟩ := vs25
      obtain ⟨nol, es, us, hl1, dl, ul⟩ := M
      refine ⟨W, l, vs, us, rfl, rfl, e1 _ _ hw, hl1, by rw [ul, sizeLine_eq]; omega, fun W2 hW2 => ?_⟩
      have po1 := po.ex e1
      have d1 : DtAll (· = p) (big + 2) H1 (ds ++ es) (vs ++ us) := DtAll.app ((DtAll.weak (fun a z => .inl z) _ _ dd).ex e1) (DtAll.mono (by omega) (Keep.of (Evl.Ex.refl _)) _ _ (DtAll.weak (fun a (z : a = p) => by subst z; exact po.old) _ _ dl))
      have e2 := Evl.Ex.new (o := HO.lst (vs ++ us)) hW2
      have d2 := (DtAll.more (p' := SS p W2) (fun a z => z.elim .inl fun z => .inr (by rw [z]; exact hW2)) _ _ d1).ex e2
      have w2 : upd H1 W2 (HO.lst (vs ++ us)) W2 = some (HO.lst (vs ++ us)) := upd_same
      have ne2 := po1.ne_new hW2
      have po2 := po1.ex e2
      generalize upd H1 W2 (HO.lst (vs ++ us)) = H2 at *
      refine ⟨p, 4, rfl, po2, by decide, fun k H3 k0 k1 c3 => ⟨k, rfl, by decide, fun t1 H4 h1 f1 n1 => ⟨by decide, fun t2 H5 h2 f2 n2 => ⟨by decide, fun t3 H6 h3 f3 n3 => ⟨by decide, fun t4 H7 h4 f4 n4 => ⟨by decide, fun t5 H8 h5 f5 n5 => ⟨by decide, fun t6 H9 h6 f6 n6 => ?_⟩⟩⟩⟩⟩⟩⟩
      have f36 := ((f3.trans f4).trans f5).trans f6
      have c9 : Ch p H2 H9 := c3.ex ((f1.trans f2).trans f36)
      have N9 : Net p H9 t5 (2 + k) [(0, 1, 1), (0, 1, 2), (0, 1, 2)] := by
        refine ⟨by omega, by omega, by decide, fun x hx => ?_, t4, _, n5.ex f6, n4.ex (f5.trans f6), ⟨t1, rfl, n1.ex (f2.trans f36)⟩, ⟨t2, rfl, n2.ex f36⟩, ⟨t3, rfl, n3.ex ((f4.trans f5).trans f6)⟩, True.intro⟩
        simp only [List.mem_cons, List.not_mem_nil, or_false] at hx
        obtain rfl | rfl | rfl := hx <;> exact ⟨by decide, by decide, by show (1 : Int) < _; omega, by decide, by decide⟩
      have V9 : VS p t5 W2 (2 + k) [(0, 1, 1), (0, 1, 2), (0, 1, 2)] 103 H9 :=
        ⟨c9.st, N9, ne2, _, _, c9.keep _ _ ne2 w2, DtAll.mono (Int.le_refl _) (fun b o nb e => c9.keep b o (fun z => nb (.inl z)) e) _ _ d2, by rw [List.length_append]; omega⟩
      refine ⟨(· = p), big, .tuple [], .ref t6, 0, rfl, ⟨t6, [], rfl, (c9.st.ex (Evl.Ex.refl _)).ne_N n6, n6, by decide, True.intro⟩, fun H10 e10 => ⟨true, rfl, ?_⟩⟩
      rw [if_neg (by decide)]
      have po10 := c9.st.ex e10
      refine ⟨by decide, fun t7 H11 h7 f7 n7 => ⟨(· = p), big, .tuple [.int 0], .ref t7, 0, rfl, ⟨t7, _, rfl, po10.ne_new h7, n7, by decide, ⟨rfl, by decide, by decide⟩, True.intro⟩, fun H12 e12 => ⟨false, rfl, ?_⟩⟩⟩
      rw [if_neg (by decide)]
      have po12 := (po10.ex f7).ex e12
      refine ⟨by decide, fun t8 H13 h8 f8 n8 => ⟨by decide, fun t9 H14 h9 f9 n9 => ⟨by decide, fun t10 H15 h10 f10 n10 => ?_⟩⟩⟩
      have po15 := po12.ex ((f8.trans f9).trans f10)
      refine ⟨(· = p), big, .tuple [], .ref t9, .ref t10, 2, [], rfl, ⟨t9, t8, [], rfl, n9.ex f10, n8.ex (f9.trans f10), rfl, fun i x hx => by simp at hx⟩, ⟨t10, [], rfl, po15.ne_N n10, n10, by decide, True.intro⟩, fun H16 e16 => ⟨true, rfl, ?_⟩⟩
      rw [if_neg (by decide)]
      have eF := ((((e10.trans f7).trans e12).trans ((f8.trans f9).trans f10)).trans e16)
      exact ⟨_, W2, rfl, V9.ch (Ch.of c9.st eF)⟩
    rintro σ' H26 ⟨b, n, rows, W, y5, rfl, vs26⟩
    refine ⟨fun σ' H' => ∃ (b : Addr) (n : Int) (rows : List R3) (W : Addr) (y5 : Option V), σ' = [some (.ref a), some (.ref p), some (.ref b), some (.int n), some (.bl nm), y5, some v1, some v2, some (.ref J), some v3, some y10, some y11, some y12, some (.ref W), some v6, some (.int sc), none, none, none] ∧ VS p b W n rows 104 H', ?_, ?_⟩
    · simp (config := {maxSteps := 10000000}) only [tSeq, tAsg, gName, tRet, tRetN, tDrop, tIfS, tNext, tBreak, tCont, tTest, tB, tVar, tC, tCons, tNil, tCB, tCall, tCallK, tOp, tUn, rI0, rI, rU, rEq, rNe, tAnd, tOr, tNot, tAndV, tOrV, tNotV, tTup, tLst, tIf, gTup, gCons, gNil, tPar, tAug, ipI, gSub, L2.start, cxOf, Cx.nox, List.map_cons, List.map_nil, List.length_cons, List.length_nil, List.replicate, Nat.reduceAdd, Nat.reduceSub, List.cons_append, List.nil_append, List.append_nil, List.getElem?_cons_zero, List.getElem?_cons_succ, Option.some.injEq, V.int.injEq, V.bl.injEq, V.str.injEq, V.ref.injEq, V.ty.injEq, List.cons.injEq, and_true, true_and, exists_eq_left, exists_eq_left', exists_and_left, exists_and_right, decide_eq_true_eq, List.set_cons_zero, List.set_cons_succ, Bool.not_eq_true', decide_eq_false_iff_not, isi_NoneType_int, isi_NoneType_bool, isi_NoneType_tuple, isi_NoneType_str, isi_NoneType_list, isi_bool_int, isi_bool_bool, isi_bool_tuple, isi_bool_str, isi_bool_list, isi_int_int, isi_int_bool, isi_int_tuple, isi_int_str, isi_int_list, isi_str_int, isi_str_bool, isi_str_tuple, isi_str_str, isi_str_list, isi_list_int, isi_list_bool, isi_list_tuple, isi_list_str, isi_list_list, isi_tuple_int, isi_tuple_bool, isi_tuple_tuple, isi_tuple_str, isi_tuple_list, Bool.false_eq_true, if_true, if_false, reduceIte, Bool.not_true, Bool.not_false, reduceCtorEq, false_and, and_false, exists_false, exists_const, scal_int, scal_bl, scal_str, absE, ne_eq, not_true_eq_false, not_false_eq_true, Int.natCast_add, Int.cast_ofNat_Int, and_assoc, tChain3, tTupF, rTupOfF, rIxL, tBM, rAppend]
      refine ite2 (fun _ => ?_) (fun _ => ⟨rows, vs26.more (by decide)⟩)
      obtain ⟨po, net, ne, ds, vs, hw, dd, lv⟩ := vs26
      refine ⟨.inl ⟨rfl, _, SqL.of hw⟩, p, W, _, rfl, po, ne, hw, fun d v H1 c1 D => ⟨_, c1.keep _ _ ne hw, by rw [sizeLine_eq]; omega, rows, ?_⟩⟩
      have po1 := c1.st
      have d1 : DtAll (SS p W) (big + 2) H1 ds vs := DtAll.mono (Int.le_refl _) (fun b o nb e => c1.keep b o (fun z => nb (.inl z)) e) _ _ dd
      have k1 : Keep (SS p W) H1 (upd H1 W (.lst (vs ++ [v]))) := fun b o nb q => by
        rw [upd_ne fun z => nb (.inr z)]
        exact q
      have tk : ∀ q xs, TupN H1 q xs → TupN (upd H1 W (.lst (vs ++ [v]))) q xs := fun q xs hq => hq.by fun o e => by
        have nq : q ≠ W := by
          rintro rfl
          obtain ⟨_, _, hq⟩ := hq
          rw [c1.keep _ _ ne hw] at hq
          cases hq
        rw [upd_ne nq]
        exact e
      refine ⟨?_, ?_, ne, ds ++ [d], _, upd_same, DtAll.app (ys := [v]) (es := [d]) (DtAll.mono (Int.le_refl _) k1 _ _ d1) ⟨Dt.mono (by omega) k1 _ _ D, True.intro⟩, by rw [List.length_append]; show vs.length + 1 ≤ _; omega⟩
      · obtain ⟨ns, e, hh⟩ := po1
        exact ⟨ns, by rw [upd_ne (Ne.symm ne)]; exact e, hh⟩
      · obtain ⟨n1, n2, len, ok, l, rs, h1, h2, h3⟩ := net.ch c1 po
        exact ⟨n1, n2, len, ok, l, rs, tk _ _ h1, tk _ _ h2, h3.tk tk⟩
    rintro σ' H27 ⟨b, n, rows, W, y5, rfl, vs27⟩
    obtain ⟨po, net, ne, ds, vs, hw, dd, lv⟩ := vs27
    have n1 := net.n1
    have n2 := net.n2
    have hB : big + 2 ≤ 2 ^ 197 := by decide
    have dd2 : DtAll (· = p) (2 ^ 197) H27 ds vs := DtAll.mono hB (Keep.of (Evl.Ex.refl _)) _ _ (DtAll.weak (fun a z => .inl z) _ _ dd)
    have both : ∀ {d : PyData} {v : V} {H H' : Hp}, 1 = 1 := rfl
    refine for_lstE (K := K) (a := W) (xs := vs) (fun Q' h => ⟨_, rfl, h⟩) (fun i σ' H' => Evl.Ex H27 H' ∧ ∃ x16 x17 : Option V, σ' = [some (.ref a), some (.ref p), some (.ref b), some (.int n), some (.bl nm), y5, some v1, some v2, some (.ref J), some v3, some y10, some y11, some y12, some (.ref W), some v6, some (.int sc), x16, x17, none]) ?_ ?_ ?_ ?_
    · exact ⟨Evl.Ex.refl _, _, _, rfl⟩
    · rintro i σ' H' _ ⟨e, _⟩
      exact e _ _ hw
    · rintro i v σ' H' hv ⟨e, x16, x17, rfl⟩
      obtain ⟨d, hd, D⟩ := dd2.get hv
      simp only [tSeq, tAsg, gName, tRet, tRetN, tDrop, tIfS, tNext, tBreak, tCont, tTest, tB, tVar, tC, tCons, tNil, tCB, tCall, tCallK, tOp, tUn, rI0, rI, rU, rEq, rNe, tAnd, tOr, tNot, tAndV, tOrV, tNotV, tTup, tLst, tIf, gTup, gCons, gNil, tPar, tAug, ipI, gSub, L2.start, cxOf, Cx.nox, List.map_cons, List.map_nil, List.length_cons, List.length_nil, List.replicate, Nat.reduceAdd, Nat.reduceSub, List.cons_append, List.nil_append, List.append_nil, List.getElem?_cons_zero, List.getElem?_cons_succ, Option.some.injEq, V.int.injEq, V.bl.injEq, V.str.injEq, V.ref.injEq, V.ty.injEq, List.cons.injEq, and_true, true_and, exists_eq_left, exists_eq_left', exists_and_left, exists_and_right, decide_eq_true_eq, List.set_cons_zero, List.set_cons_succ, Bool.not_eq_true', decide_eq_false_iff_not, isi_NoneType_int, isi_NoneType_bool, isi_NoneType_tuple, isi_NoneType_str, isi_NoneType_list, isi_bool_int, isi_bool_bool, isi_bool_tuple, isi_bool_str, isi_bool_list, isi_int_int, isi_int_bool, isi_int_tuple, isi_int_str, isi_int_list, isi_str_int, isi_str_bool, isi_str_tuple, isi_str_str, isi_str_list, isi_list_int, isi_list_bool, isi_list_tuple, isi_list_str, isi_list_list, isi_tuple_int, isi_tuple_bool, isi_tuple_tuple, isi_tuple_str, isi_tuple_list, Bool.false_eq_true, if_true, if_false, reduceIte, Bool.not_true, Bool.not_false, reduceCtorEq, false_and, and_false, exists_false, exists_const, scal_int, scal_bl, scal_str, absE, ne_eq, not_true_eq_false, not_false_eq_true, Int.natCast_add, Int.cast_ofNat_Int, and_assoc, tChain3, tTupF, rTupOfF]
      refine ⟨(· = p), p, d, v, n, n, b, rows, rfl, D.ex e, by omega, by omega, net.ch (Ch.of po e) po, fun a1 H1 e1 h1 => ?_⟩
      refine ⟨(· = p), p, d, v, n, n, b, rows, nm, rfl, D.ex (e.trans e1), net.ch (Ch.of po (e.trans e1)) po, fun a2 H2 e2 h2 => ?_⟩
      refine ⟨_, _, rfl, sm_due h2 (e2 _ _ h1), true, rfl, ?_⟩
      rw [if_neg (by decide)]
      refine ⟨(· = p), 2 ^ 197, d, v, nm, rfl, D.ex ((e.trans e1).trans e2), fun H3 e3 => ⟨true, rfl, ?_⟩⟩
      rw [if_neg (by decide)]
      exact ⟨((e.trans e1).trans e2).trans e3, _, rfl⟩
    rintro σ' H28 ⟨e28, x16, x17, rfl⟩
    simp only [tSeq, tAsg, gName, tRet, tRetN, tDrop, tIfS, tNext, tBreak, tCont, tTest, tB, tVar, tC, tCons, tNil, tCB, tCall, tCallK, tOp, tUn, rI0, rI, rU, rEq, rNe, tAnd, tOr, tNot, tAndV, tOrV, tNotV, tTup, tLst, tIf, gTup, gCons, gNil, tPar, tAug, ipI, gSub, L2.start, cxOf, Cx.nox, List.map_cons, List.map_nil, List.length_cons, List.length_nil, List.replicate, Nat.reduceAdd, Nat.reduceSub, List.cons_append, List.nil_append, List.append_nil, List.getElem?_cons_zero, List.getElem?_cons_succ, Option.some.injEq, V.int.injEq, V.bl.injEq, V.str.injEq, V.ref.injEq, V.ty.injEq, List.cons.injEq, and_true, true_and, exists_eq_left, exists_eq_left', exists_and_left, exists_and_right, decide_eq_true_eq, List.set_cons_zero, List.set_cons_succ, Bool.not_eq_true', decide_eq_false_iff_not, isi_NoneType_int, isi_NoneType_bool, isi_NoneType_tuple, isi_NoneType_str, isi_NoneType_list, isi_bool_int, isi_bool_bool, isi_bool_tuple, isi_bool_str, isi_bool_list, isi_int_int, isi_int_bool, isi_int_tuple, isi_int_str, isi_int_list, isi_str_int, isi_str_bool, isi_str_tuple, isi_str_str, isi_str_list, isi_list_int, isi_list_bool, isi_list_tuple, isi_list_str, isi_list_list, isi_tuple_int, isi_tuple_bool, isi_tuple_tuple, isi_tuple_str, isi_tuple_list, Bool.false_eq_true, if_true, if_false, reduceIte, Bool.not_true, Bool.not_false, reduceCtorEq, false_and, and_false, exists_false, exists_const, scal_int, scal_bl, scal_str, absE, ne_eq, not_true_eq_false, not_false_eq_true, Int.natCast_add, Int.cast_ofNat_Int, and_assoc, tChain3, tTupF, rTupOfF]
    refine for_lstG fun R hR => ?_
    simp only [tSeq, tAsg, gName, tRet, tRetN, tDrop, tIfS, tNext, tBreak, tCont, tTest, tB, tVar, tC, tCons, tNil, tCB, tCall, tCallK, tOp, tUn, rI0, rI, rU, rEq, rNe, tAnd, tOr, tNot, tAndV, tOrV, tNotV, tTup, tLst, tIf, gTup, gCons, gNil, tPar, tAug, ipI, gSub, L2.start, cxOf, Cx.nox, List.map_cons, List.map_nil, List.length_cons, List.length_nil, List.replicate, Nat.reduceAdd, Nat.reduceSub, List.cons_append, List.nil_append, List.append_nil, List.getElem?_cons_zero, List.getElem?_cons_succ, Option.some.injEq, V.int.injEq, V.bl.injEq, V.str.injEq, V.ref.injEq, V.ty.injEq, List.cons.injEq, and_true, true_and, exists_eq_left, exists_eq_left', exists_and_left, exists_and_right, decide_eq_true_eq, List.set_cons_zero, List.set_cons_succ, Bool.not_eq_true', decide_eq_false_iff_not, isi_NoneType_int, isi_NoneType_bool, isi_NoneType_tuple, isi_NoneType_str, isi_NoneType_list, isi_bool_int, isi_bool_bool, isi_bool_tuple, isi_bool_str, isi_bool_list, isi_int_int, isi_int_bool, isi_int_tuple, isi_int_str, isi_int_list, isi_str_int, isi_str_bool, isi_str_tuple, isi_str_str, isi_str_list, isi_list_int, isi_list_bool, isi_list_tuple, isi_list_str, isi_list_list, isi_tuple_int, isi_tuple_bool, isi_tuple_tuple, isi_tuple_str, isi_tuple_list, Bool.false_eq_true, if_true, if_false, reduceIte, Bool.not_true, Bool.not_false, reduceCtorEq, false_and, and_false, exists_false, exists_const, scal_int, scal_bl, scal_str, absE, ne_eq, not_true_eq_false, not_false_eq_true, Int.natCast_add, Int.cast_ofNat_Int, and_assoc, tChain3, tTupF, rTupOfF, tSl, rSlL, tNoPart, tPart]
    refine ⟨_, SqL.of (e28 _ _ hw), fun q hq => hR q _ _ (fun i σ' H' => Evl.Ex (upd H28 q (.lst (cutV vs none (some 12)))) H' ∧ ∃ x16 : Option V, σ' = [some (.ref a), some (.ref p), some (.ref b), some (.int n), some (.bl nm), y5, some v1, some v2, some (.ref J), some v3, some y10, some y11, some y12, some (.ref W), some v6, some (.int sc), x16, x17, none]) ⟨Evl.Ex.refl _, _, rfl⟩ (fun i σ' H' _ ⟨e, _⟩ => e _ _ upd_same) ?_ (fun σ' H' ⟨e, x16, es⟩ => ?_)⟩
    · rintro i v σ' H' hv ⟨e0, x16, rfl⟩
      have e : Evl.Ex H27 H' := (e28.trans (Evl.Ex.new hq)).trans e0
      obtain ⟨d, hd, D⟩ := (cut_dt dd2).get hv
      simp only [tSeq, tAsg, gName, tRet, tRetN, tDrop, tIfS, tNext, tBreak, tCont, tTest, tB, tVar, tC, tCons, tNil, tCB, tCall, tCallK, tOp, tUn, rI0, rI, rU, rEq, rNe, tAnd, tOr, tNot, tAndV, tOrV, tNotV, tTup, tLst, tIf, gTup, gCons, gNil, tPar, tAug, ipI, gSub, L2.start, cxOf, Cx.nox, List.map_cons, List.map_nil, List.length_cons, List.length_nil, List.replicate, Nat.reduceAdd, Nat.reduceSub, List.cons_append, List.nil_append, List.append_nil, List.getElem?_cons_zero, List.getElem?_cons_succ, Option.some.injEq, V.int.injEq, V.bl.injEq, V.str.injEq, V.ref.injEq, V.ty.injEq, List.cons.injEq, and_true, true_and, exists_eq_left, exists_eq_left', exists_and_left, exists_and_right, decide_eq_true_eq, List.set_cons_zero, List.set_cons_succ, Bool.not_eq_true', decide_eq_false_iff_not, isi_NoneType_int, isi_NoneType_bool, isi_NoneType_tuple, isi_NoneType_str, isi_NoneType_list, isi_bool_int, isi_bool_bool, isi_bool_tuple, isi_bool_str, isi_bool_list, isi_int_int, isi_int_bool, isi_int_tuple, isi_int_str, isi_int_list, isi_str_int, isi_str_bool, isi_str_tuple, isi_str_str, isi_str_list, isi_list_int, isi_list_bool, isi_list_tuple, isi_list_str, isi_list_list, isi_tuple_int, isi_tuple_bool, isi_tuple_tuple, isi_tuple_str, isi_tuple_list, Bool.false_eq_true, if_true, if_false, reduceIte, Bool.not_true, Bool.not_false, reduceCtorEq, false_and, and_false, exists_false, exists_const, scal_int, scal_bl, scal_str, absE, ne_eq, not_true_eq_false, not_false_eq_true, Int.natCast_add, Int.cast_ofNat_Int, and_assoc, tChain3, tTupF, rTupOfF]
      refine ⟨(· = p), 2 ^ 197, d, v, !nm, rfl, D.ex e, fun H1 e1 => ⟨true, rfl, ?_⟩⟩
      rw [if_neg (by decide)]
      refine ⟨(· = p), p, d, v, n, n, b, rows, !nm, rfl, D.ex (e.trans e1), net.ch (Ch.of po (e.trans e1)) po, fun a2 H2 e2 h2 => ?_⟩
      have e02 := (e.trans e1).trans e2
      refine ⟨(· = p), p, d, v, n, n, b, rows, rfl, D.ex e02, by omega, by omega, net.ch (Ch.of po e02) po, fun a1 H3 e3 h1 => ?_⟩
      refine ⟨_, _, rfl, sm_due (e3 _ _ h2) h1, true, rfl, ?_⟩
      rw [if_neg (by decide)]
      exact ⟨((e0.trans e1).trans e2).trans e3, _, rfl⟩
    · subst es
      exact ret H'
end
end K00
end
section
set_option Elab.async false
set_option linter.all false
set_option maxRecDepth 100000
set_option maxHeartbeats 4000000
open PySem PySem.W PySem.Calls PyProof.Rows
theorem PySem.Challenge.cw_howeverled_k00_kinds_and_the_web_checker_holds : PySem.Challenge.rw_howeverled_k00_kinds_and_the_web_checker.Holds := by
  refine K00.head ?_
  refine L2.walk_ofE (l := PySem.Challenge.rw_howeverled_k00_kinds_and_the_web_checker) (n := 63) (k := 8) (x := "_law_script") (CX := L2.CX0) rfl (by decide) (by kernel_rfl) ⟨rfl, by decide, by decide⟩ ?_ (fun _ _ _ _ z => z)
  intro w mg f h Y G hmg0
  obtain ⟨K, KX, c⟩ := Y
  have hmg : mg ("law" : PySem.Str) = some (.ref f) := by
    have e : (HandSHeadRun.topDef K00.R.prog 37).name = ("law" : PySem.Str) := by kernel_rfl
    rw [← e]
    exact hmg0
  have T : K00.Txt K mg := ⟨c.t.d, c.more, fun i x hx => He.glo_ok KX G (c.t.d.fact i hx), fun i x hx => He.free_ok KX G (c.t.d.fact i hx)⟩
  obtain ⟨fd, F, hF⟩ := K00.ok_law (P := (PySem.Challenge.rw_howeverled_k00_kinds_and_the_web_checker).prog) (w := w) (base := h) T
  have e := hmg.symm.trans (K00.g_law T)
  cases e
  have b := L2.FunD.bindsA (ps := ["_law_script"]) F fun _ _ _ _ _ _ us hl => match us, hl with | [_], _ => rfl
  refine ⟨K, fd, K00.spLaw K, KX, fun s v => b s [v] rfl, fun H a ns hl _ hS => ⟨a, ns, rfl, hS, fun _ => rfl⟩, fun base _ _ => ?_⟩
  obtain ⟨fd2, F2, hF2⟩ := K00.ok_law (P := (PySem.Challenge.rw_howeverled_k00_kinds_and_the_web_checker).prog) (w := w) (base := base) T
  obtain ⟨oc, od, dV, kV, doc, pm, an, cdv, ct, osl, _, lk, _⟩ := F.ex
  obtain ⟨oc2, od2, dV2, kV2, doc2, pm2, an2, cdv2, ct2, osl2, _, lk2, _⟩ := F2.ex
  have e2 := lk.symm.trans lk2
  cases e2
  exact hF2
end
