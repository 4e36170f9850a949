import PyProof.Rows.All
import Wide.All
import OpenK.AllK
import Wide.FinOn
import HandS.ForMost
import HandS.Wide
import HandS.IsInst
import HandS.Flow
import HandS.Walk
import HandS.Exc
import HandS.WordsExc
import HandS.ExcInit
import HandS.Zip
import HandS.Small
import HandS.More
import HandS.Lambda
import HandS.Defaults
import HandS.ExcField
import KE.KExcInit
import KE.KNestM
import KE.KLam
import HandS.Style
import HandS.WideBits
import HandS.TupAny
import HandS.TupLen
import PyProof.ReprRoads
import PyProof.CallFns
import HandS.EndBits
import KE.GoesMore
import PyProof.Draws
import HandS.TryMany
import PyProof.Rows.FactsN_abs
import PyProof.Rows.FactsN_isinstance
import PyProof.Rows.FactsT3
import KE.GoesZip
import PyProof.ReprLen
import KE.DataEq
import KE.KDictPairs
import KE.KEqDict
import KE.KDictDisplayH
import KE.KDictWalk
import KE.DataMinMax
import KE.SortData
import KE.KDictCopyH
import HandS.NoneIn
import HandS.Codes
import HandS.ExcIs
import HandS.ExcOwn
import PySem.Challenge.RW_curvemeets_k10_lines_refused
set_option Elab.async false
set_option linter.all false
set_option maxRecDepth 100000
set_option maxHeartbeats 4000000
namespace k10
open PySem PySem.Spec PyProof.Rows L2
def top (i : Nat) : Stmt := PySem.Challenge.pw_curvemeets_k10_lines_refused.main.body.getD i (.Pass ⟨0, 0, 0, 0⟩)
abbrev st_is_integer : Stmt := top 9
abbrev st_is_list : Stmt := top 10
abbrev st_divisor_of : Stmt := top 13
abbrev st_power_by : Stmt := top 15
abbrev st_square_root : Stmt := top 16
abbrev st_has_divisor : Stmt := top 17
abbrev st_trimmed : Stmt := top 22
abbrev st_scaled_line : Stmt := top 24
abbrev st_times_lines : Stmt := top 26
abbrev st_value_at : Stmt := top 27
abbrev st_slope_of : Stmt := top 28
abbrev st_rest_by : Stmt := top 52
abbrev st__law_pot : Stmt := top 63
abbrev st__law_draw : Stmt := top 64
abbrev st_greatest_of : Stmt := top 14
abbrev st_plus_lines : Stmt := top 23
abbrev st_line_in : Stmt := top 33
abbrev st_fit_prime : Stmt := top 51
abbrev st_undone_by : Stmt := top 53
abbrev st_want_at_most : Stmt := top 11
abbrev st_want_number : Stmt := top 18
abbrev st_minus_lines : Stmt := top 25
abbrev st_plain_of : Stmt := top 29
abbrev st_want_line : Stmt := top 34
abbrev st_lifted_root : Stmt := top 54
abbrev st_greatest : Stmt := top 19
abbrev st_parted : Stmt := top 30
abbrev st_two_lines : Stmt := top 35
abbrev st_degree : Stmt := top 37
abbrev st_line_value : Stmt := top 38
abbrev st_line_slope : Stmt := top 39
abbrev st_plain_line : Stmt := top 40
abbrev st_want_standing : Stmt := top 58
abbrev st_common_of : Stmt := top 31
abbrev st_resultant_of : Stmt := top 32
abbrev st_two_standing : Stmt := top 36
abbrev st_line_sum : Stmt := top 41
abbrev st_line_less : Stmt := top 42
abbrev st_line_times : Stmt := top 43
abbrev st_line_divided : Stmt := top 44
abbrev st_line_common : Stmt := top 45
abbrev st_resultant : Stmt := top 46
abbrev st_plain_parts_of : Stmt := top 49
abbrev st_single_part : Stmt := top 50
abbrev st_whole_roots_of : Stmt := top 55
abbrev st_plain_parts : Stmt := top 59
abbrev st_two_quadratic : Stmt := top 56
abbrev st_whole_roots : Stmt := top 60
abbrev st_monic_parts_of : Stmt := top 57
abbrev st_monic_parts : Stmt := top 61
abbrev st__law_heard : Stmt := top 65
abbrev st__law_are : Stmt := top 66
abbrev st__law_lines_right : Stmt := top 67
abbrev st__law_numbers_right : Stmt := top 68
abbrev st__law_behind_right : Stmt := top 69
abbrev st__law_right : Stmt := top 70
abbrev st_law : Stmt := top 71
def clsInit (s : Stmt) : Stmt := match s with | .ClassDef (body := b) .. => b.getD 0 s | _ => s
abbrev st__TooMany : Stmt := clsInit (top 7)
abbrev st__InvalidNumber : Stmt := clsInit (top 5)
abbrev st__InvalidLine : Stmt := clsInit (top 4)
def xtbl : List (Str × List Str) := [("TooMany", ["TooMany", "LimitError", "ArithmeticError"]), ("InvalidNumber", ["InvalidNumber", "CurveError", "ValueError"]), ("InvalidLine", ["InvalidLine", "CurveError", "ValueError"]), ("ZeroLine", ["ZeroLine", "StateError", "RuntimeError"])]
/-- what K tells of the def x -/
def DefK (K : PySem.W.Frag) (x : Str) (st : Stmt) : Prop := ∃ (f : Addr) (oc : Value) (od : Option Addr) (kV doc pm : Value) (an : Option Addr) (cdv ct : Value) (osl : Array (Option Value)), PySem.W.nsIn K mainGlobals x = some (some (.ref f)) ∧ PySem.W.keepIn K (.ref f) = true ∧
  K.lookup f = some ⟨oc, od, .func (PySem.W.fnOf x x (defArgs st) (defBody st) (defScope st) .none kV doc pm an cdv ct), osl⟩ ∧ PySem.W.codeIn K cdv x = true
def ClsK (K : PySem.W.Frag) (x : Str) (newId : String) (bmB : List Value) (st : Stmt) (fl : List Str) : Prop := ∃ (C fI : Addr) (kV doc pm : Value) (an : Option Addr) (cdv ct oc : Value) (od : Option Addr) (osl : Array (Option Value)),
  PySem.W.nsIn K mainGlobals x = some (some (.ref C)) ∧ (∃ nm q N bs bm sn sub ab col dd k0 k1 k2 k3 k5, K.lookup C = some (excClassObj nm q C N bs bm true sn sub ab col dd k0 k1 k2 k3 k5 newId) ∧ PySem.W.excTail bmB bm = true) ∧
  PySem.W.findIn K (.ref C) "__setattr__" = some (some (.builtin "object.__setattr__")) ∧ PySem.W.subIn K (.ref C) (.type "BaseException") = some true ∧ PySem.W.typeIn K (.ref C) = some (.type "type") ∧ PySem.W.keepIn K (.ref C) = true ∧
  PySem.W.findIn K (.ref C) "__init__" = some (some (.ref fI)) ∧ PySem.W.typeIn K (.ref fI) = some (.type "function") ∧ K.lookup fI = some ⟨oc, od, .func (PySem.W.fnOf "__init__" (x ++ ".__init__") (defArgs st) (defBody st) (defScope st) .none kV doc pm an cdv ct), osl⟩ ∧ PySem.W.codeIn K cdv (x ++ ".__init__") = true ∧
  ∀ f ∈ fl, PySem.W.findIn K (.ref C) f = some none
def Cls0K (K : PySem.W.Frag) (x : Str) (newId : String) (bmB : List Value) : Prop := ∃ C, PySem.W.nsIn K mainGlobals x = some (some (.ref C)) ∧ PySem.W.excIn K C bmB newId = true ∧ PySem.W.keepIn K (.ref C) = true ∧ PySem.W.subIn K (.ref C) (.type "BaseException") = some true ∧ PySem.W.typeIn K (.ref C) = some (.type "type")
def MkK (K : PySem.W.Frag) (ts : List Addr) (q : Str) (c P : Addr) : Prop := ∃ (f : Addr) (oc : Value) (od : Option Addr) (fd : FuncData) (osl : Array (Option Value)) (oC : Value) (dC : Option Addr) (vs : Array Value) (sC : Array (Option Value)),
  PySem.W.nsIn K mainGlobals q = some (some (.ref f)) ∧ K.lookup f = some ⟨oc, od, .func fd, osl⟩ ∧ fd.code = .ref c ∧ K.lookup c = some ⟨oC, dC, .fields vs, sC⟩ ∧ vs[11]? = some (.ref P) ∧ PySem.W.codeHdIn K c P = true ∧ K.lookup P = none ∧ P ∈ ts
structure Facts (K : PySem.W.Frag) (ts : List Addr) : Prop where
  d_is_integer : DefK K "is_integer" st_is_integer
  d_is_list : DefK K "is_list" st_is_list
  d_divisor_of : DefK K "divisor_of" st_divisor_of
  d_power_by : DefK K "power_by" st_power_by
  d_square_root : DefK K "square_root" st_square_root
  d_has_divisor : DefK K "has_divisor" st_has_divisor
  d_trimmed : DefK K "trimmed" st_trimmed
  d_scaled_line : DefK K "scaled_line" st_scaled_line
  d_times_lines : DefK K "times_lines" st_times_lines
  d_value_at : DefK K "value_at" st_value_at
  d_slope_of : DefK K "slope_of" st_slope_of
  d_rest_by : DefK K "rest_by" st_rest_by
  d__law_pot : DefK K "_law_pot" st__law_pot
  d__law_draw : DefK K "_law_draw" st__law_draw
  d_greatest_of : DefK K "greatest_of" st_greatest_of
  d_plus_lines : DefK K "plus_lines" st_plus_lines
  d_line_in : DefK K "line_in" st_line_in
  d_fit_prime : DefK K "fit_prime" st_fit_prime
  d_undone_by : DefK K "undone_by" st_undone_by
  d_want_at_most : DefK K "want_at_most" st_want_at_most
  d_want_number : DefK K "want_number" st_want_number
  d_minus_lines : DefK K "minus_lines" st_minus_lines
  d_plain_of : DefK K "plain_of" st_plain_of
  d_want_line : DefK K "want_line" st_want_line
  d_lifted_root : DefK K "lifted_root" st_lifted_root
  d_greatest : DefK K "greatest" st_greatest
  d_parted : DefK K "parted" st_parted
  d_two_lines : DefK K "two_lines" st_two_lines
  d_degree : DefK K "degree" st_degree
  d_line_value : DefK K "line_value" st_line_value
  d_line_slope : DefK K "line_slope" st_line_slope
  d_plain_line : DefK K "plain_line" st_plain_line
  d_want_standing : DefK K "want_standing" st_want_standing
  d_common_of : DefK K "common_of" st_common_of
  d_resultant_of : DefK K "resultant_of" st_resultant_of
  d_two_standing : DefK K "two_standing" st_two_standing
  d_line_sum : DefK K "line_sum" st_line_sum
  d_line_less : DefK K "line_less" st_line_less
  d_line_times : DefK K "line_times" st_line_times
  d_line_divided : DefK K "line_divided" st_line_divided
  d_line_common : DefK K "line_common" st_line_common
  d_resultant : DefK K "resultant" st_resultant
  d_plain_parts_of : DefK K "plain_parts_of" st_plain_parts_of
  d_single_part : DefK K "single_part" st_single_part
  d_whole_roots_of : DefK K "whole_roots_of" st_whole_roots_of
  d_plain_parts : DefK K "plain_parts" st_plain_parts
  d_two_quadratic : DefK K "two_quadratic" st_two_quadratic
  d_whole_roots : DefK K "whole_roots" st_whole_roots
  d_monic_parts_of : DefK K "monic_parts_of" st_monic_parts_of
  d_monic_parts : DefK K "monic_parts" st_monic_parts
  d__law_heard : DefK K "_law_heard" st__law_heard
  d__law_are : DefK K "_law_are" st__law_are
  d__law_lines_right : DefK K "_law_lines_right" st__law_lines_right
  d__law_numbers_right : DefK K "_law_numbers_right" st__law_numbers_right
  d__law_behind_right : DefK K "_law_behind_right" st__law_behind_right
  d__law_right : DefK K "_law_right" st__law_right
  d_law : DefK K "law" st_law
  z_abs : PySem.W.nsIn K mainGlobals "abs" = some none
  z_all : PySem.W.nsIn K mainGlobals "all" = some none
  z_bool : PySem.W.nsIn K mainGlobals "bool" = some none
  z_divmod : PySem.W.nsIn K mainGlobals "divmod" = some none
  z_enumerate : PySem.W.nsIn K mainGlobals "enumerate" = some none
  z_int : PySem.W.nsIn K mainGlobals "int" = some none
  z_isinstance : PySem.W.nsIn K mainGlobals "isinstance" = some none
  z_len : PySem.W.nsIn K mainGlobals "len" = some none
  z_list : PySem.W.nsIn K mainGlobals "list" = some none
  z_max : PySem.W.nsIn K mainGlobals "max" = some none
  z_range : PySem.W.nsIn K mainGlobals "range" = some none
  z_repr : PySem.W.nsIn K mainGlobals "repr" = some none
  z_sorted : PySem.W.nsIn K mainGlobals "sorted" = some none
  z_tuple : PySem.W.nsIn K mainGlobals "tuple" = some none
  g_MOST_DEGREE : ∃ t, PySem.W.nsIn K mainGlobals "MOST_DEGREE" = some (some (.int 12 t))
  g_MOST_MONIC : ∃ t, PySem.W.nsIn K mainGlobals "MOST_MONIC" = some (some (.int 4 t))
  c_TooMany : ClsK K "TooMany" "ArithmeticError.__new__" [.type "ArithmeticError", .type "Exception", .type "BaseException", .type "object"] st__TooMany ["what", "limit"]
  c_InvalidNumber : ClsK K "InvalidNumber" "ValueError.__new__" [.type "ValueError", .type "Exception", .type "BaseException", .type "object"] st__InvalidNumber ["value"]
  c_InvalidLine : ClsK K "InvalidLine" "ValueError.__new__" [.type "ValueError", .type "Exception", .type "BaseException", .type "object"] st__InvalidLine ["value"]
  c_ZeroLine : Cls0K K "ZeroLine" "RuntimeError.__new__" [.type "RuntimeError", .type "Exception", .type "BaseException", .type "object"]
  h_InvalidLine : ∃ cv, PySem.W.nsIn K mainGlobals "InvalidLine" = some (some cv) ∧ ∀ y ∈ xtbl, ∃ xv, PySem.W.nsIn K mainGlobals y.1 = some (some xv) ∧ PySem.W.exmOne K xv cv = some (y.2.contains "InvalidLine")
  h_InvalidNumber : ∃ cv, PySem.W.nsIn K mainGlobals "InvalidNumber" = some (some cv) ∧ ∀ y ∈ xtbl, ∃ xv, PySem.W.nsIn K mainGlobals y.1 = some (some xv) ∧ PySem.W.exmOne K xv cv = some (y.2.contains "InvalidNumber")
  h_ZeroLine : ∃ cv, PySem.W.nsIn K mainGlobals "ZeroLine" = some (some cv) ∧ ∀ y ∈ xtbl, ∃ xv, PySem.W.nsIn K mainGlobals y.1 = some (some xv) ∧ PySem.W.exmOne K xv cv = some (y.2.contains "ZeroLine")
  h_TooMany : ∃ cv, PySem.W.nsIn K mainGlobals "TooMany" = some (some cv) ∧ ∀ y ∈ xtbl, ∃ xv, PySem.W.nsIn K mainGlobals y.1 = some (some xv) ∧ PySem.W.exmOne K xv cv = some (y.2.contains "TooMany")
  i_CurveError : ∃ a, PySem.W.nsIn K mainGlobals "CurveError" = some (some (.ref a)) ∧ ∀ y ∈ xtbl, y.2.contains "CurveError" = true → ∃ C, PySem.W.nsIn K mainGlobals y.1 = some (some (.ref C)) ∧ PySem.W.kitOne K (.ref C) (.ref a) = some true
  i_ValueError : PySem.W.nsIn K mainGlobals "ValueError" = some none ∧ ∀ y ∈ xtbl, y.2.contains "ValueError" = true → ∃ C, PySem.W.nsIn K mainGlobals y.1 = some (some (.ref C)) ∧ PySem.W.kitOne K (.ref C) (.type "ValueError") = some true
  i_StateError : ∃ a, PySem.W.nsIn K mainGlobals "StateError" = some (some (.ref a)) ∧ ∀ y ∈ xtbl, y.2.contains "StateError" = true → ∃ C, PySem.W.nsIn K mainGlobals y.1 = some (some (.ref C)) ∧ PySem.W.kitOne K (.ref C) (.ref a) = some true
  i_LimitError : ∃ a, PySem.W.nsIn K mainGlobals "LimitError" = some (some (.ref a)) ∧ ∀ y ∈ xtbl, y.2.contains "LimitError" = true → ∃ C, PySem.W.nsIn K mainGlobals y.1 = some (some (.ref C)) ∧ PySem.W.kitOne K (.ref C) (.ref a) = some true
  f_value : ∀ y ∈ xtbl, ∃ C, PySem.W.nsIn K mainGlobals y.1 = some (some (.ref C)) ∧ XfC K C ∧ PySem.W.findIn K (.ref C) "value" = some none
  f_what : ∀ y ∈ xtbl, ∃ C, PySem.W.nsIn K mainGlobals y.1 = some (some (.ref C)) ∧ XfC K C ∧ PySem.W.findIn K (.ref C) "what" = some none
  f_limit : ∀ y ∈ xtbl, ∃ C, PySem.W.nsIn K mainGlobals y.1 = some (some (.ref C)) ∧ XfC K C ∧ PySem.W.findIn K (.ref C) "limit" = some none
  t : ∃ c52 P52 c53 P53 c54 P54 : Addr, MkK K ts "_law_lines_right" c52 P52 ∧ MkK K ts "_law_numbers_right" c53 P53 ∧ MkK K ts "_law_behind_right" c54 P54 ∧ [P52, P53, P54].Nodup
theorem facts_mk {K : PySem.W.Frag} {f0 f1 f2 f3 f4 f5 f6 f7 f8 f9 f10 f11 f12 f13 f14 f15 f16 f17 f18 f19 f20 f21 f22 f23 f24 f25 f26 f27 f28 f29 f30 f31 f32 f33 f34 f35 f36 f37 f38 f39 f40 f41 f42 f43 f44 f45 f46 f47 f48 f49 f50 f51 f52 f53 f54 f55 f56 : Addr}
    {od0 an0 od1 an1 od2 an2 od3 an3 od4 an4 od5 an5 od6 an6 od7 an7 od8 an8 od9 an9 od10 an10 od11 an11 od12 an12 od13 an13 od14 an14 od15 an15 od16 an16 od17 an17 od18 an18 od19 an19 od20 an20 od21 an21 od22 an22 od23 an23 od24 an24 od25 an25 od26 an26 od27 an27 od28 an28 od29 an29 od30 an30 od31 an31 od32 an32 od33 an33 od34 an34 od35 an35 od36 an36 od37 an37 od38 an38 od39 an39 od40 an40 od41 an41 od42 an42 od43 an43 od44 an44 od45 an45 od46 an46 od47 an47 od48 an48 od49 an49 od50 an50 od51 an51 od52 an52 od53 an53 od54 an54 od55 an55 od56 an56 : Option Addr} {sl0 sl1 sl2 sl3 sl4 sl5 sl6 sl7 sl8 sl9 sl10 sl11 sl12 sl13 sl14 sl15 sl16 sl17 sl18 sl19 sl20 sl21 sl22 sl23 sl24 sl25 sl26 sl27 sl28 sl29 sl30 sl31 sl32 sl33 sl34 sl35 sl36 sl37 sl38 sl39 sl40 sl41 sl42 sl43 sl44 sl45 sl46 sl47 sl48 sl49 sl50 sl51 sl52 sl53 sl54 sl55 sl56 : Array (Option Value)} {oc0 kV0 dc0 pm0 cd0 ct0 oc1 kV1 dc1 pm1 cd1 ct1 oc2 kV2 dc2 pm2 cd2 ct2 oc3 kV3 dc3 pm3 cd3 ct3 oc4 kV4 dc4 pm4 cd4 ct4 oc5 kV5 dc5 pm5 cd5 ct5 oc6 kV6 dc6 pm6 cd6 ct6 oc7 kV7 dc7 pm7 cd7 ct7 oc8 kV8 dc8 pm8 cd8 ct8 oc9 kV9 dc9 pm9 cd9 ct9 oc10 kV10 dc10 pm10 cd10 ct10 oc11 kV11 dc11 pm11 cd11 ct11 oc12 kV12 dc12 pm12 cd12 ct12 oc13 kV13 dc13 pm13 cd13 ct13 oc14 kV14 dc14 pm14 cd14 ct14 oc15 kV15 dc15 pm15 cd15 ct15 oc16 kV16 dc16 pm16 cd16 ct16 oc17 kV17 dc17 pm17 cd17 ct17 oc18 kV18 dc18 pm18 cd18 ct18 oc19 kV19 dc19 pm19 cd19 ct19 oc20 kV20 dc20 pm20 cd20 ct20 oc21 kV21 dc21 pm21 cd21 ct21 oc22 kV22 dc22 pm22 cd22 ct22 oc23 kV23 dc23 pm23 cd23 ct23 oc24 kV24 dc24 pm24 cd24 ct24 oc25 kV25 dc25 pm25 cd25 ct25 oc26 kV26 dc26 pm26 cd26 ct26 oc27 kV27 dc27 pm27 cd27 ct27 oc28 kV28 dc28 pm28 cd28 ct28 oc29 kV29 dc29 pm29 cd29 ct29 oc30 kV30 dc30 pm30 cd30 ct30 oc31 kV31 dc31 pm31 cd31 ct31 oc32 kV32 dc32 pm32 cd32 ct32 oc33 kV33 dc33 pm33 cd33 ct33 oc34 kV34 dc34 pm34 cd34 ct34 oc35 kV35 dc35 pm35 cd35 ct35 oc36 kV36 dc36 pm36 cd36 ct36 oc37 kV37 dc37 pm37 cd37 ct37 oc38 kV38 dc38 pm38 cd38 ct38 oc39 kV39 dc39 pm39 cd39 ct39 oc40 kV40 dc40 pm40 cd40 ct40 oc41 kV41 dc41 pm41 cd41 ct41 oc42 kV42 dc42 pm42 cd42 ct42 oc43 kV43 dc43 pm43 cd43 ct43 oc44 kV44 dc44 pm44 cd44 ct44 oc45 kV45 dc45 pm45 cd45 ct45 oc46 kV46 dc46 pm46 cd46 ct46 oc47 kV47 dc47 pm47 cd47 ct47 oc48 kV48 dc48 pm48 cd48 ct48 oc49 kV49 dc49 pm49 cd49 ct49 oc50 kV50 dc50 pm50 cd50 ct50 oc51 kV51 dc51 pm51 cd51 ct51 oc52 kV52 dc52 pm52 cd52 ct52 oc53 kV53 dc53 pm53 cd53 ct53 oc54 kV54 dc54 pm54 cd54 ct54 oc55 kV55 dc55 pm55 cd55 ct55 oc56 kV56 dc56 pm56 cd56 ct56 : Value}
    {t_MOST_DEGREE t_MOST_MONIC : Tok}
    {ts : List Addr}
    (a0 : PySem.W.nsIn K mainGlobals "is_integer" = some (some (.ref f0))) (l0 : K.lookup f0 = some ⟨oc0, od0, .func (PySem.W.fnOf "is_integer" "is_integer" (defArgs st_is_integer) (defBody st_is_integer) (defScope st_is_integer) .none kV0 dc0 pm0 an0 cd0 ct0), sl0⟩) (c0 : PySem.W.codeIn K cd0 "is_integer" = true) (k0 : PySem.W.keepIn K (.ref f0) = true)
    (a1 : PySem.W.nsIn K mainGlobals "is_list" = some (some (.ref f1))) (l1 : K.lookup f1 = some ⟨oc1, od1, .func (PySem.W.fnOf "is_list" "is_list" (defArgs st_is_list) (defBody st_is_list) (defScope st_is_list) .none kV1 dc1 pm1 an1 cd1 ct1), sl1⟩) (c1 : PySem.W.codeIn K cd1 "is_list" = true) (k1 : PySem.W.keepIn K (.ref f1) = true)
    (a2 : PySem.W.nsIn K mainGlobals "divisor_of" = some (some (.ref f2))) (l2 : K.lookup f2 = some ⟨oc2, od2, .func (PySem.W.fnOf "divisor_of" "divisor_of" (defArgs st_divisor_of) (defBody st_divisor_of) (defScope st_divisor_of) .none kV2 dc2 pm2 an2 cd2 ct2), sl2⟩) (c2 : PySem.W.codeIn K cd2 "divisor_of" = true) (k2 : PySem.W.keepIn K (.ref f2) = true)
    (a3 : PySem.W.nsIn K mainGlobals "power_by" = some (some (.ref f3))) (l3 : K.lookup f3 = some ⟨oc3, od3, .func (PySem.W.fnOf "power_by" "power_by" (defArgs st_power_by) (defBody st_power_by) (defScope st_power_by) .none kV3 dc3 pm3 an3 cd3 ct3), sl3⟩) (c3 : PySem.W.codeIn K cd3 "power_by" = true) (k3 : PySem.W.keepIn K (.ref f3) = true)
    (a4 : PySem.W.nsIn K mainGlobals "square_root" = some (some (.ref f4))) (l4 : K.lookup f4 = some ⟨oc4, od4, .func (PySem.W.fnOf "square_root" "square_root" (defArgs st_square_root) (defBody st_square_root) (defScope st_square_root) .none kV4 dc4 pm4 an4 cd4 ct4), sl4⟩) (c4 : PySem.W.codeIn K cd4 "square_root" = true) (k4 : PySem.W.keepIn K (.ref f4) = true)
    (a5 : PySem.W.nsIn K mainGlobals "has_divisor" = some (some (.ref f5))) (l5 : K.lookup f5 = some ⟨oc5, od5, .func (PySem.W.fnOf "has_divisor" "has_divisor" (defArgs st_has_divisor) (defBody st_has_divisor) (defScope st_has_divisor) .none kV5 dc5 pm5 an5 cd5 ct5), sl5⟩) (c5 : PySem.W.codeIn K cd5 "has_divisor" = true) (k5 : PySem.W.keepIn K (.ref f5) = true)
    (a6 : PySem.W.nsIn K mainGlobals "trimmed" = some (some (.ref f6))) (l6 : K.lookup f6 = some ⟨oc6, od6, .func (PySem.W.fnOf "trimmed" "trimmed" (defArgs st_trimmed) (defBody st_trimmed) (defScope st_trimmed) .none kV6 dc6 pm6 an6 cd6 ct6), sl6⟩) (c6 : PySem.W.codeIn K cd6 "trimmed" = true) (k6 : PySem.W.keepIn K (.ref f6) = true)
    (a7 : PySem.W.nsIn K mainGlobals "scaled_line" = some (some (.ref f7))) (l7 : K.lookup f7 = some ⟨oc7, od7, .func (PySem.W.fnOf "scaled_line" "scaled_line" (defArgs st_scaled_line) (defBody st_scaled_line) (defScope st_scaled_line) .none kV7 dc7 pm7 an7 cd7 ct7), sl7⟩) (c7 : PySem.W.codeIn K cd7 "scaled_line" = true) (k7 : PySem.W.keepIn K (.ref f7) = true)
    (a8 : PySem.W.nsIn K mainGlobals "times_lines" = some (some (.ref f8))) (l8 : K.lookup f8 = some ⟨oc8, od8, .func (PySem.W.fnOf "times_lines" "times_lines" (defArgs st_times_lines) (defBody st_times_lines) (defScope st_times_lines) .none kV8 dc8 pm8 an8 cd8 ct8), sl8⟩) (c8 : PySem.W.codeIn K cd8 "times_lines" = true) (k8 : PySem.W.keepIn K (.ref f8) = true)
    (a9 : PySem.W.nsIn K mainGlobals "value_at" = some (some (.ref f9))) (l9 : K.lookup f9 = some ⟨oc9, od9, .func (PySem.W.fnOf "value_at" "value_at" (defArgs st_value_at) (defBody st_value_at) (defScope st_value_at) .none kV9 dc9 pm9 an9 cd9 ct9), sl9⟩) (c9 : PySem.W.codeIn K cd9 "value_at" = true) (k9 : PySem.W.keepIn K (.ref f9) = true)
    (a10 : PySem.W.nsIn K mainGlobals "slope_of" = some (some (.ref f10))) (l10 : K.lookup f10 = some ⟨oc10, od10, .func (PySem.W.fnOf "slope_of" "slope_of" (defArgs st_slope_of) (defBody st_slope_of) (defScope st_slope_of) .none kV10 dc10 pm10 an10 cd10 ct10), sl10⟩) (c10 : PySem.W.codeIn K cd10 "slope_of" = true) (k10 : PySem.W.keepIn K (.ref f10) = true)
    (a11 : PySem.W.nsIn K mainGlobals "rest_by" = some (some (.ref f11))) (l11 : K.lookup f11 = some ⟨oc11, od11, .func (PySem.W.fnOf "rest_by" "rest_by" (defArgs st_rest_by) (defBody st_rest_by) (defScope st_rest_by) .none kV11 dc11 pm11 an11 cd11 ct11), sl11⟩) (c11 : PySem.W.codeIn K cd11 "rest_by" = true) (k11 : PySem.W.keepIn K (.ref f11) = true)
    (a12 : PySem.W.nsIn K mainGlobals "_law_pot" = some (some (.ref f12))) (l12 : K.lookup f12 = some ⟨oc12, od12, .func (PySem.W.fnOf "_law_pot" "_law_pot" (defArgs st__law_pot) (defBody st__law_pot) (defScope st__law_pot) .none kV12 dc12 pm12 an12 cd12 ct12), sl12⟩) (c12 : PySem.W.codeIn K cd12 "_law_pot" = true) (k12 : PySem.W.keepIn K (.ref f12) = true)
    (a13 : PySem.W.nsIn K mainGlobals "_law_draw" = some (some (.ref f13))) (l13 : K.lookup f13 = some ⟨oc13, od13, .func (PySem.W.fnOf "_law_draw" "_law_draw" (defArgs st__law_draw) (defBody st__law_draw) (defScope st__law_draw) .none kV13 dc13 pm13 an13 cd13 ct13), sl13⟩) (c13 : PySem.W.codeIn K cd13 "_law_draw" = true) (k13 : PySem.W.keepIn K (.ref f13) = true)
    (a14 : PySem.W.nsIn K mainGlobals "greatest_of" = some (some (.ref f14))) (l14 : K.lookup f14 = some ⟨oc14, od14, .func (PySem.W.fnOf "greatest_of" "greatest_of" (defArgs st_greatest_of) (defBody st_greatest_of) (defScope st_greatest_of) .none kV14 dc14 pm14 an14 cd14 ct14), sl14⟩) (c14 : PySem.W.codeIn K cd14 "greatest_of" = true) (k14 : PySem.W.keepIn K (.ref f14) = true)
    (a15 : PySem.W.nsIn K mainGlobals "plus_lines" = some (some (.ref f15))) (l15 : K.lookup f15 = some ⟨oc15, od15, .func (PySem.W.fnOf "plus_lines" "plus_lines" (defArgs st_plus_lines) (defBody st_plus_lines) (defScope st_plus_lines) .none kV15 dc15 pm15 an15 cd15 ct15), sl15⟩) (c15 : PySem.W.codeIn K cd15 "plus_lines" = true) (k15 : PySem.W.keepIn K (.ref f15) = true)
    (a16 : PySem.W.nsIn K mainGlobals "line_in" = some (some (.ref f16))) (l16 : K.lookup f16 = some ⟨oc16, od16, .func (PySem.W.fnOf "line_in" "line_in" (defArgs st_line_in) (defBody st_line_in) (defScope st_line_in) .none kV16 dc16 pm16 an16 cd16 ct16), sl16⟩) (c16 : PySem.W.codeIn K cd16 "line_in" = true) (k16 : PySem.W.keepIn K (.ref f16) = true)
    (a17 : PySem.W.nsIn K mainGlobals "fit_prime" = some (some (.ref f17))) (l17 : K.lookup f17 = some ⟨oc17, od17, .func (PySem.W.fnOf "fit_prime" "fit_prime" (defArgs st_fit_prime) (defBody st_fit_prime) (defScope st_fit_prime) .none kV17 dc17 pm17 an17 cd17 ct17), sl17⟩) (c17 : PySem.W.codeIn K cd17 "fit_prime" = true) (k17 : PySem.W.keepIn K (.ref f17) = true)
    (a18 : PySem.W.nsIn K mainGlobals "undone_by" = some (some (.ref f18))) (l18 : K.lookup f18 = some ⟨oc18, od18, .func (PySem.W.fnOf "undone_by" "undone_by" (defArgs st_undone_by) (defBody st_undone_by) (defScope st_undone_by) .none kV18 dc18 pm18 an18 cd18 ct18), sl18⟩) (c18 : PySem.W.codeIn K cd18 "undone_by" = true) (k18 : PySem.W.keepIn K (.ref f18) = true)
    (a19 : PySem.W.nsIn K mainGlobals "want_at_most" = some (some (.ref f19))) (l19 : K.lookup f19 = some ⟨oc19, od19, .func (PySem.W.fnOf "want_at_most" "want_at_most" (defArgs st_want_at_most) (defBody st_want_at_most) (defScope st_want_at_most) .none kV19 dc19 pm19 an19 cd19 ct19), sl19⟩) (c19 : PySem.W.codeIn K cd19 "want_at_most" = true) (k19 : PySem.W.keepIn K (.ref f19) = true)
    (a20 : PySem.W.nsIn K mainGlobals "want_number" = some (some (.ref f20))) (l20 : K.lookup f20 = some ⟨oc20, od20, .func (PySem.W.fnOf "want_number" "want_number" (defArgs st_want_number) (defBody st_want_number) (defScope st_want_number) .none kV20 dc20 pm20 an20 cd20 ct20), sl20⟩) (c20 : PySem.W.codeIn K cd20 "want_number" = true) (k20 : PySem.W.keepIn K (.ref f20) = true)
    (a21 : PySem.W.nsIn K mainGlobals "minus_lines" = some (some (.ref f21))) (l21 : K.lookup f21 = some ⟨oc21, od21, .func (PySem.W.fnOf "minus_lines" "minus_lines" (defArgs st_minus_lines) (defBody st_minus_lines) (defScope st_minus_lines) .none kV21 dc21 pm21 an21 cd21 ct21), sl21⟩) (c21 : PySem.W.codeIn K cd21 "minus_lines" = true) (k21 : PySem.W.keepIn K (.ref f21) = true)
    (a22 : PySem.W.nsIn K mainGlobals "plain_of" = some (some (.ref f22))) (l22 : K.lookup f22 = some ⟨oc22, od22, .func (PySem.W.fnOf "plain_of" "plain_of" (defArgs st_plain_of) (defBody st_plain_of) (defScope st_plain_of) .none kV22 dc22 pm22 an22 cd22 ct22), sl22⟩) (c22 : PySem.W.codeIn K cd22 "plain_of" = true) (k22 : PySem.W.keepIn K (.ref f22) = true)
    (a23 : PySem.W.nsIn K mainGlobals "want_line" = some (some (.ref f23))) (l23 : K.lookup f23 = some ⟨oc23, od23, .func (PySem.W.fnOf "want_line" "want_line" (defArgs st_want_line) (defBody st_want_line) (defScope st_want_line) .none kV23 dc23 pm23 an23 cd23 ct23), sl23⟩) (c23 : PySem.W.codeIn K cd23 "want_line" = true) (k23 : PySem.W.keepIn K (.ref f23) = true)
    (a24 : PySem.W.nsIn K mainGlobals "lifted_root" = some (some (.ref f24))) (l24 : K.lookup f24 = some ⟨oc24, od24, .func (PySem.W.fnOf "lifted_root" "lifted_root" (defArgs st_lifted_root) (defBody st_lifted_root) (defScope st_lifted_root) .none kV24 dc24 pm24 an24 cd24 ct24), sl24⟩) (c24 : PySem.W.codeIn K cd24 "lifted_root" = true) (k24 : PySem.W.keepIn K (.ref f24) = true)
    (a25 : PySem.W.nsIn K mainGlobals "greatest" = some (some (.ref f25))) (l25 : K.lookup f25 = some ⟨oc25, od25, .func (PySem.W.fnOf "greatest" "greatest" (defArgs st_greatest) (defBody st_greatest) (defScope st_greatest) .none kV25 dc25 pm25 an25 cd25 ct25), sl25⟩) (c25 : PySem.W.codeIn K cd25 "greatest" = true) (k25 : PySem.W.keepIn K (.ref f25) = true)
    (a26 : PySem.W.nsIn K mainGlobals "parted" = some (some (.ref f26))) (l26 : K.lookup f26 = some ⟨oc26, od26, .func (PySem.W.fnOf "parted" "parted" (defArgs st_parted) (defBody st_parted) (defScope st_parted) .none kV26 dc26 pm26 an26 cd26 ct26), sl26⟩) (c26 : PySem.W.codeIn K cd26 "parted" = true) (k26 : PySem.W.keepIn K (.ref f26) = true)
    (a27 : PySem.W.nsIn K mainGlobals "two_lines" = some (some (.ref f27))) (l27 : K.lookup f27 = some ⟨oc27, od27, .func (PySem.W.fnOf "two_lines" "two_lines" (defArgs st_two_lines) (defBody st_two_lines) (defScope st_two_lines) .none kV27 dc27 pm27 an27 cd27 ct27), sl27⟩) (c27 : PySem.W.codeIn K cd27 "two_lines" = true) (k27 : PySem.W.keepIn K (.ref f27) = true)
    (a28 : PySem.W.nsIn K mainGlobals "degree" = some (some (.ref f28))) (l28 : K.lookup f28 = some ⟨oc28, od28, .func (PySem.W.fnOf "degree" "degree" (defArgs st_degree) (defBody st_degree) (defScope st_degree) .none kV28 dc28 pm28 an28 cd28 ct28), sl28⟩) (c28 : PySem.W.codeIn K cd28 "degree" = true) (k28 : PySem.W.keepIn K (.ref f28) = true)
    (a29 : PySem.W.nsIn K mainGlobals "line_value" = some (some (.ref f29))) (l29 : K.lookup f29 = some ⟨oc29, od29, .func (PySem.W.fnOf "line_value" "line_value" (defArgs st_line_value) (defBody st_line_value) (defScope st_line_value) .none kV29 dc29 pm29 an29 cd29 ct29), sl29⟩) (c29 : PySem.W.codeIn K cd29 "line_value" = true) (k29 : PySem.W.keepIn K (.ref f29) = true)
    (a30 : PySem.W.nsIn K mainGlobals "line_slope" = some (some (.ref f30))) (l30 : K.lookup f30 = some ⟨oc30, od30, .func (PySem.W.fnOf "line_slope" "line_slope" (defArgs st_line_slope) (defBody st_line_slope) (defScope st_line_slope) .none kV30 dc30 pm30 an30 cd30 ct30), sl30⟩) (c30 : PySem.W.codeIn K cd30 "line_slope" = true) (k30 : PySem.W.keepIn K (.ref f30) = true)
    (a31 : PySem.W.nsIn K mainGlobals "plain_line" = some (some (.ref f31))) (l31 : K.lookup f31 = some ⟨oc31, od31, .func (PySem.W.fnOf "plain_line" "plain_line" (defArgs st_plain_line) (defBody st_plain_line) (defScope st_plain_line) .none kV31 dc31 pm31 an31 cd31 ct31), sl31⟩) (c31 : PySem.W.codeIn K cd31 "plain_line" = true) (k31 : PySem.W.keepIn K (.ref f31) = true)
    (a32 : PySem.W.nsIn K mainGlobals "want_standing" = some (some (.ref f32))) (l32 : K.lookup f32 = some ⟨oc32, od32, .func (PySem.W.fnOf "want_standing" "want_standing" (defArgs st_want_standing) (defBody st_want_standing) (defScope st_want_standing) .none kV32 dc32 pm32 an32 cd32 ct32), sl32⟩) (c32 : PySem.W.codeIn K cd32 "want_standing" = true) (k32 : PySem.W.keepIn K (.ref f32) = true)
    (a33 : PySem.W.nsIn K mainGlobals "common_of" = some (some (.ref f33))) (l33 : K.lookup f33 = some ⟨oc33, od33, .func (PySem.W.fnOf "common_of" "common_of" (defArgs st_common_of) (defBody st_common_of) (defScope st_common_of) .none kV33 dc33 pm33 an33 cd33 ct33), sl33⟩) (c33 : PySem.W.codeIn K cd33 "common_of" = true) (k33 : PySem.W.keepIn K (.ref f33) = true)
    (a34 : PySem.W.nsIn K mainGlobals "resultant_of" = some (some (.ref f34))) (l34 : K.lookup f34 = some ⟨oc34, od34, .func (PySem.W.fnOf "resultant_of" "resultant_of" (defArgs st_resultant_of) (defBody st_resultant_of) (defScope st_resultant_of) .none kV34 dc34 pm34 an34 cd34 ct34), sl34⟩) (c34 : PySem.W.codeIn K cd34 "resultant_of" = true) (k34 : PySem.W.keepIn K (.ref f34) = true)
    (a35 : PySem.W.nsIn K mainGlobals "two_standing" = some (some (.ref f35))) (l35 : K.lookup f35 = some ⟨oc35, od35, .func (PySem.W.fnOf "two_standing" "two_standing" (defArgs st_two_standing) (defBody st_two_standing) (defScope st_two_standing) .none kV35 dc35 pm35 an35 cd35 ct35), sl35⟩) (c35 : PySem.W.codeIn K cd35 "two_standing" = true) (k35 : PySem.W.keepIn K (.ref f35) = true)
    (a36 : PySem.W.nsIn K mainGlobals "line_sum" = some (some (.ref f36))) (l36 : K.lookup f36 = some ⟨oc36, od36, .func (PySem.W.fnOf "line_sum" "line_sum" (defArgs st_line_sum) (defBody st_line_sum) (defScope st_line_sum) .none kV36 dc36 pm36 an36 cd36 ct36), sl36⟩) (c36 : PySem.W.codeIn K cd36 "line_sum" = true) (k36 : PySem.W.keepIn K (.ref f36) = true)
    (a37 : PySem.W.nsIn K mainGlobals "line_less" = some (some (.ref f37))) (l37 : K.lookup f37 = some ⟨oc37, od37, .func (PySem.W.fnOf "line_less" "line_less" (defArgs st_line_less) (defBody st_line_less) (defScope st_line_less) .none kV37 dc37 pm37 an37 cd37 ct37), sl37⟩) (c37 : PySem.W.codeIn K cd37 "line_less" = true) (k37 : PySem.W.keepIn K (.ref f37) = true)
    (a38 : PySem.W.nsIn K mainGlobals "line_times" = some (some (.ref f38))) (l38 : K.lookup f38 = some ⟨oc38, od38, .func (PySem.W.fnOf "line_times" "line_times" (defArgs st_line_times) (defBody st_line_times) (defScope st_line_times) .none kV38 dc38 pm38 an38 cd38 ct38), sl38⟩) (c38 : PySem.W.codeIn K cd38 "line_times" = true) (k38 : PySem.W.keepIn K (.ref f38) = true)
    (a39 : PySem.W.nsIn K mainGlobals "line_divided" = some (some (.ref f39))) (l39 : K.lookup f39 = some ⟨oc39, od39, .func (PySem.W.fnOf "line_divided" "line_divided" (defArgs st_line_divided) (defBody st_line_divided) (defScope st_line_divided) .none kV39 dc39 pm39 an39 cd39 ct39), sl39⟩) (c39 : PySem.W.codeIn K cd39 "line_divided" = true) (k39 : PySem.W.keepIn K (.ref f39) = true)
    (a40 : PySem.W.nsIn K mainGlobals "line_common" = some (some (.ref f40))) (l40 : K.lookup f40 = some ⟨oc40, od40, .func (PySem.W.fnOf "line_common" "line_common" (defArgs st_line_common) (defBody st_line_common) (defScope st_line_common) .none kV40 dc40 pm40 an40 cd40 ct40), sl40⟩) (c40 : PySem.W.codeIn K cd40 "line_common" = true) (k40 : PySem.W.keepIn K (.ref f40) = true)
    (a41 : PySem.W.nsIn K mainGlobals "resultant" = some (some (.ref f41))) (l41 : K.lookup f41 = some ⟨oc41, od41, .func (PySem.W.fnOf "resultant" "resultant" (defArgs st_resultant) (defBody st_resultant) (defScope st_resultant) .none kV41 dc41 pm41 an41 cd41 ct41), sl41⟩) (c41 : PySem.W.codeIn K cd41 "resultant" = true) (k41 : PySem.W.keepIn K (.ref f41) = true)
    (a42 : PySem.W.nsIn K mainGlobals "plain_parts_of" = some (some (.ref f42))) (l42 : K.lookup f42 = some ⟨oc42, od42, .func (PySem.W.fnOf "plain_parts_of" "plain_parts_of" (defArgs st_plain_parts_of) (defBody st_plain_parts_of) (defScope st_plain_parts_of) .none kV42 dc42 pm42 an42 cd42 ct42), sl42⟩) (c42 : PySem.W.codeIn K cd42 "plain_parts_of" = true) (k42 : PySem.W.keepIn K (.ref f42) = true)
    (a43 : PySem.W.nsIn K mainGlobals "single_part" = some (some (.ref f43))) (l43 : K.lookup f43 = some ⟨oc43, od43, .func (PySem.W.fnOf "single_part" "single_part" (defArgs st_single_part) (defBody st_single_part) (defScope st_single_part) .none kV43 dc43 pm43 an43 cd43 ct43), sl43⟩) (c43 : PySem.W.codeIn K cd43 "single_part" = true) (k43 : PySem.W.keepIn K (.ref f43) = true)
    (a44 : PySem.W.nsIn K mainGlobals "whole_roots_of" = some (some (.ref f44))) (l44 : K.lookup f44 = some ⟨oc44, od44, .func (PySem.W.fnOf "whole_roots_of" "whole_roots_of" (defArgs st_whole_roots_of) (defBody st_whole_roots_of) (defScope st_whole_roots_of) .none kV44 dc44 pm44 an44 cd44 ct44), sl44⟩) (c44 : PySem.W.codeIn K cd44 "whole_roots_of" = true) (k44 : PySem.W.keepIn K (.ref f44) = true)
    (a45 : PySem.W.nsIn K mainGlobals "plain_parts" = some (some (.ref f45))) (l45 : K.lookup f45 = some ⟨oc45, od45, .func (PySem.W.fnOf "plain_parts" "plain_parts" (defArgs st_plain_parts) (defBody st_plain_parts) (defScope st_plain_parts) .none kV45 dc45 pm45 an45 cd45 ct45), sl45⟩) (c45 : PySem.W.codeIn K cd45 "plain_parts" = true) (k45 : PySem.W.keepIn K (.ref f45) = true)
    (a46 : PySem.W.nsIn K mainGlobals "two_quadratic" = some (some (.ref f46))) (l46 : K.lookup f46 = some ⟨oc46, od46, .func (PySem.W.fnOf "two_quadratic" "two_quadratic" (defArgs st_two_quadratic) (defBody st_two_quadratic) (defScope st_two_quadratic) .none kV46 dc46 pm46 an46 cd46 ct46), sl46⟩) (c46 : PySem.W.codeIn K cd46 "two_quadratic" = true) (k46 : PySem.W.keepIn K (.ref f46) = true)
    (a47 : PySem.W.nsIn K mainGlobals "whole_roots" = some (some (.ref f47))) (l47 : K.lookup f47 = some ⟨oc47, od47, .func (PySem.W.fnOf "whole_roots" "whole_roots" (defArgs st_whole_roots) (defBody st_whole_roots) (defScope st_whole_roots) .none kV47 dc47 pm47 an47 cd47 ct47), sl47⟩) (c47 : PySem.W.codeIn K cd47 "whole_roots" = true) (k47 : PySem.W.keepIn K (.ref f47) = true)
    (a48 : PySem.W.nsIn K mainGlobals "monic_parts_of" = some (some (.ref f48))) (l48 : K.lookup f48 = some ⟨oc48, od48, .func (PySem.W.fnOf "monic_parts_of" "monic_parts_of" (defArgs st_monic_parts_of) (defBody st_monic_parts_of) (defScope st_monic_parts_of) .none kV48 dc48 pm48 an48 cd48 ct48), sl48⟩) (c48 : PySem.W.codeIn K cd48 "monic_parts_of" = true) (k48 : PySem.W.keepIn K (.ref f48) = true)
    (a49 : PySem.W.nsIn K mainGlobals "monic_parts" = some (some (.ref f49))) (l49 : K.lookup f49 = some ⟨oc49, od49, .func (PySem.W.fnOf "monic_parts" "monic_parts" (defArgs st_monic_parts) (defBody st_monic_parts) (defScope st_monic_parts) .none kV49 dc49 pm49 an49 cd49 ct49), sl49⟩) (c49 : PySem.W.codeIn K cd49 "monic_parts" = true) (k49 : PySem.W.keepIn K (.ref f49) = true)
    (a50 : PySem.W.nsIn K mainGlobals "_law_heard" = some (some (.ref f50))) (l50 : K.lookup f50 = some ⟨oc50, od50, .func (PySem.W.fnOf "_law_heard" "_law_heard" (defArgs st__law_heard) (defBody st__law_heard) (defScope st__law_heard) .none kV50 dc50 pm50 an50 cd50 ct50), sl50⟩) (c50 : PySem.W.codeIn K cd50 "_law_heard" = true) (k50 : PySem.W.keepIn K (.ref f50) = true)
    (a51 : PySem.W.nsIn K mainGlobals "_law_are" = some (some (.ref f51))) (l51 : K.lookup f51 = some ⟨oc51, od51, .func (PySem.W.fnOf "_law_are" "_law_are" (defArgs st__law_are) (defBody st__law_are) (defScope st__law_are) .none kV51 dc51 pm51 an51 cd51 ct51), sl51⟩) (c51 : PySem.W.codeIn K cd51 "_law_are" = true) (k51 : PySem.W.keepIn K (.ref f51) = true)
    (a52 : PySem.W.nsIn K mainGlobals "_law_lines_right" = some (some (.ref f52))) (l52 : K.lookup f52 = some ⟨oc52, od52, .func (PySem.W.fnOf "_law_lines_right" "_law_lines_right" (defArgs st__law_lines_right) (defBody st__law_lines_right) (defScope st__law_lines_right) .none kV52 dc52 pm52 an52 cd52 ct52), sl52⟩) (c52 : PySem.W.codeIn K cd52 "_law_lines_right" = true) (k52 : PySem.W.keepIn K (.ref f52) = true)
    (a53 : PySem.W.nsIn K mainGlobals "_law_numbers_right" = some (some (.ref f53))) (l53 : K.lookup f53 = some ⟨oc53, od53, .func (PySem.W.fnOf "_law_numbers_right" "_law_numbers_right" (defArgs st__law_numbers_right) (defBody st__law_numbers_right) (defScope st__law_numbers_right) .none kV53 dc53 pm53 an53 cd53 ct53), sl53⟩) (c53 : PySem.W.codeIn K cd53 "_law_numbers_right" = true) (k53 : PySem.W.keepIn K (.ref f53) = true)
    (a54 : PySem.W.nsIn K mainGlobals "_law_behind_right" = some (some (.ref f54))) (l54 : K.lookup f54 = some ⟨oc54, od54, .func (PySem.W.fnOf "_law_behind_right" "_law_behind_right" (defArgs st__law_behind_right) (defBody st__law_behind_right) (defScope st__law_behind_right) .none kV54 dc54 pm54 an54 cd54 ct54), sl54⟩) (c54 : PySem.W.codeIn K cd54 "_law_behind_right" = true) (k54 : PySem.W.keepIn K (.ref f54) = true)
    (a55 : PySem.W.nsIn K mainGlobals "_law_right" = some (some (.ref f55))) (l55 : K.lookup f55 = some ⟨oc55, od55, .func (PySem.W.fnOf "_law_right" "_law_right" (defArgs st__law_right) (defBody st__law_right) (defScope st__law_right) .none kV55 dc55 pm55 an55 cd55 ct55), sl55⟩) (c55 : PySem.W.codeIn K cd55 "_law_right" = true) (k55 : PySem.W.keepIn K (.ref f55) = true)
    (a56 : PySem.W.nsIn K mainGlobals "law" = some (some (.ref f56))) (l56 : K.lookup f56 = some ⟨oc56, od56, .func (PySem.W.fnOf "law" "law" (defArgs st_law) (defBody st_law) (defScope st_law) .none kV56 dc56 pm56 an56 cd56 ct56), sl56⟩) (c56 : PySem.W.codeIn K cd56 "law" = true) (k56 : PySem.W.keepIn K (.ref f56) = true)
    (z_abs : PySem.W.nsIn K mainGlobals "abs" = some none)
    (z_all : PySem.W.nsIn K mainGlobals "all" = some none)
    (z_bool : PySem.W.nsIn K mainGlobals "bool" = some none)
    (z_divmod : PySem.W.nsIn K mainGlobals "divmod" = some none)
    (z_enumerate : PySem.W.nsIn K mainGlobals "enumerate" = some none)
    (z_int : PySem.W.nsIn K mainGlobals "int" = some none)
    (z_isinstance : PySem.W.nsIn K mainGlobals "isinstance" = some none)
    (z_len : PySem.W.nsIn K mainGlobals "len" = some none)
    (z_list : PySem.W.nsIn K mainGlobals "list" = some none)
    (z_max : PySem.W.nsIn K mainGlobals "max" = some none)
    (z_range : PySem.W.nsIn K mainGlobals "range" = some none)
    (z_repr : PySem.W.nsIn K mainGlobals "repr" = some none)
    (z_sorted : PySem.W.nsIn K mainGlobals "sorted" = some none)
    (z_tuple : PySem.W.nsIn K mainGlobals "tuple" = some none)
    (g_MOST_DEGREE : PySem.W.nsIn K mainGlobals "MOST_DEGREE" = some (some (.int 12 t_MOST_DEGREE)))
    (g_MOST_MONIC : PySem.W.nsIn K mainGlobals "MOST_MONIC" = some (some (.int 4 t_MOST_MONIC)))
    {C_TooMany : Addr} (n_TooMany : PySem.W.nsIn K mainGlobals "TooMany" = some (some (.ref C_TooMany)))
    {C_InvalidNumber : Addr} (n_InvalidNumber : PySem.W.nsIn K mainGlobals "InvalidNumber" = some (some (.ref C_InvalidNumber)))
    {C_InvalidLine : Addr} (n_InvalidLine : PySem.W.nsIn K mainGlobals "InvalidLine" = some (some (.ref C_InvalidLine)))
    {C_ZeroLine : Addr} (n_ZeroLine : PySem.W.nsIn K mainGlobals "ZeroLine" = some (some (.ref C_ZeroLine)))
    {C_CurveError : Addr} (n_CurveError : PySem.W.nsIn K mainGlobals "CurveError" = some (some (.ref C_CurveError)))
    {C_StateError : Addr} (n_StateError : PySem.W.nsIn K mainGlobals "StateError" = some (some (.ref C_StateError)))
    {C_LimitError : Addr} (n_LimitError : PySem.W.nsIn K mainGlobals "LimitError" = some (some (.ref C_LimitError)))
    {nm_TooMany q_TooMany : Str} {N_TooMany : Addr} {bs_TooMany bm_TooMany sub_TooMany : List Value} {sn_TooMany : List Str} {ab_TooMany : Bool} {col_TooMany : Option Bool} {dd_TooMany : Option Addr} {k0_TooMany k1_TooMany k2_TooMany k3_TooMany k5_TooMany : Option Value}
    (cl_TooMany : K.lookup C_TooMany = some (excClassObj nm_TooMany q_TooMany C_TooMany N_TooMany bs_TooMany bm_TooMany true sn_TooMany sub_TooMany ab_TooMany col_TooMany dd_TooMany k0_TooMany k1_TooMany k2_TooMany k3_TooMany k5_TooMany "ArithmeticError.__new__"))
    (tl_TooMany : PySem.W.excTail [.type "ArithmeticError", .type "Exception", .type "BaseException", .type "object"] bm_TooMany = true)
    (sa_TooMany : PySem.W.findIn K (.ref C_TooMany) "__setattr__" = some (some (.builtin "object.__setattr__"))) (su_TooMany : PySem.W.subIn K (.ref C_TooMany) (.type "BaseException") = some true) (ty_TooMany : PySem.W.typeIn K (.ref C_TooMany) = some (.type "type")) (ke_TooMany : PySem.W.keepIn K (.ref C_TooMany) = true)
    {fI_TooMany : Addr} {oc_TooMany kV_TooMany dc_TooMany pm_TooMany cd_TooMany ct_TooMany : Value} {od_TooMany an_TooMany : Option Addr} {sl_TooMany : Array (Option Value)}
    (in_TooMany : PySem.W.findIn K (.ref C_TooMany) "__init__" = some (some (.ref fI_TooMany))) (tf_TooMany : PySem.W.typeIn K (.ref fI_TooMany) = some (.type "function"))
    (li_TooMany : K.lookup fI_TooMany = some ⟨oc_TooMany, od_TooMany, .func (PySem.W.fnOf "__init__" (("TooMany" : Str) ++ ".__init__") (defArgs st__TooMany) (defBody st__TooMany) (defScope st__TooMany) .none kV_TooMany dc_TooMany pm_TooMany an_TooMany cd_TooMany ct_TooMany), sl_TooMany⟩) (ci_TooMany : PySem.W.codeIn K cd_TooMany (("TooMany" : Str) ++ ".__init__") = true)
    (ga_TooMany : PySem.W.findIn K (.ref C_TooMany) "__getattribute__" = some (some (.builtin "BaseException.__getattribute__"))) (gg_TooMany : PySem.W.findIn K (.ref C_TooMany) "__getattr__" = some none) (hd_TooMany : PySem.W.hasDictIn K C_TooMany = true)
    (fl_TooMany_value : PySem.W.findIn K (.ref C_TooMany) "value" = some none)
    (fl_TooMany_what : PySem.W.findIn K (.ref C_TooMany) "what" = some none)
    (fl_TooMany_limit : PySem.W.findIn K (.ref C_TooMany) "limit" = some none)
    (e_TooMany_InvalidLine : PySem.W.exmOne K (.ref C_TooMany) (.ref C_InvalidLine) = some false)
    (e_TooMany_InvalidNumber : PySem.W.exmOne K (.ref C_TooMany) (.ref C_InvalidNumber) = some false)
    (e_TooMany_ZeroLine : PySem.W.exmOne K (.ref C_TooMany) (.ref C_ZeroLine) = some false)
    (e_TooMany_TooMany : PySem.W.exmOne K (.ref C_TooMany) (.ref C_TooMany) = some true)
    (q_TooMany_LimitError : PySem.W.kitOne K (.ref C_TooMany) (.ref C_LimitError) = some true)
    {nm_InvalidNumber q_InvalidNumber : Str} {N_InvalidNumber : Addr} {bs_InvalidNumber bm_InvalidNumber sub_InvalidNumber : List Value} {sn_InvalidNumber : List Str} {ab_InvalidNumber : Bool} {col_InvalidNumber : Option Bool} {dd_InvalidNumber : Option Addr} {k0_InvalidNumber k1_InvalidNumber k2_InvalidNumber k3_InvalidNumber k5_InvalidNumber : Option Value}
    (cl_InvalidNumber : K.lookup C_InvalidNumber = some (excClassObj nm_InvalidNumber q_InvalidNumber C_InvalidNumber N_InvalidNumber bs_InvalidNumber bm_InvalidNumber true sn_InvalidNumber sub_InvalidNumber ab_InvalidNumber col_InvalidNumber dd_InvalidNumber k0_InvalidNumber k1_InvalidNumber k2_InvalidNumber k3_InvalidNumber k5_InvalidNumber "ValueError.__new__"))
    (tl_InvalidNumber : PySem.W.excTail [.type "ValueError", .type "Exception", .type "BaseException", .type "object"] bm_InvalidNumber = true)
    (sa_InvalidNumber : PySem.W.findIn K (.ref C_InvalidNumber) "__setattr__" = some (some (.builtin "object.__setattr__"))) (su_InvalidNumber : PySem.W.subIn K (.ref C_InvalidNumber) (.type "BaseException") = some true) (ty_InvalidNumber : PySem.W.typeIn K (.ref C_InvalidNumber) = some (.type "type")) (ke_InvalidNumber : PySem.W.keepIn K (.ref C_InvalidNumber) = true)
    {fI_InvalidNumber : Addr} {oc_InvalidNumber kV_InvalidNumber dc_InvalidNumber pm_InvalidNumber cd_InvalidNumber ct_InvalidNumber : Value} {od_InvalidNumber an_InvalidNumber : Option Addr} {sl_InvalidNumber : Array (Option Value)}
    (in_InvalidNumber : PySem.W.findIn K (.ref C_InvalidNumber) "__init__" = some (some (.ref fI_InvalidNumber))) (tf_InvalidNumber : PySem.W.typeIn K (.ref fI_InvalidNumber) = some (.type "function"))
    (li_InvalidNumber : K.lookup fI_InvalidNumber = some ⟨oc_InvalidNumber, od_InvalidNumber, .func (PySem.W.fnOf "__init__" (("InvalidNumber" : Str) ++ ".__init__") (defArgs st__InvalidNumber) (defBody st__InvalidNumber) (defScope st__InvalidNumber) .none kV_InvalidNumber dc_InvalidNumber pm_InvalidNumber an_InvalidNumber cd_InvalidNumber ct_InvalidNumber), sl_InvalidNumber⟩) (ci_InvalidNumber : PySem.W.codeIn K cd_InvalidNumber (("InvalidNumber" : Str) ++ ".__init__") = true)
    (ga_InvalidNumber : PySem.W.findIn K (.ref C_InvalidNumber) "__getattribute__" = some (some (.builtin "BaseException.__getattribute__"))) (gg_InvalidNumber : PySem.W.findIn K (.ref C_InvalidNumber) "__getattr__" = some none) (hd_InvalidNumber : PySem.W.hasDictIn K C_InvalidNumber = true)
    (fl_InvalidNumber_value : PySem.W.findIn K (.ref C_InvalidNumber) "value" = some none)
    (fl_InvalidNumber_what : PySem.W.findIn K (.ref C_InvalidNumber) "what" = some none)
    (fl_InvalidNumber_limit : PySem.W.findIn K (.ref C_InvalidNumber) "limit" = some none)
    (e_InvalidNumber_InvalidLine : PySem.W.exmOne K (.ref C_InvalidNumber) (.ref C_InvalidLine) = some false)
    (e_InvalidNumber_InvalidNumber : PySem.W.exmOne K (.ref C_InvalidNumber) (.ref C_InvalidNumber) = some true)
    (e_InvalidNumber_ZeroLine : PySem.W.exmOne K (.ref C_InvalidNumber) (.ref C_ZeroLine) = some false)
    (e_InvalidNumber_TooMany : PySem.W.exmOne K (.ref C_InvalidNumber) (.ref C_TooMany) = some false)
    (q_InvalidNumber_CurveError : PySem.W.kitOne K (.ref C_InvalidNumber) (.ref C_CurveError) = some true)
    (q_InvalidNumber_ValueError : PySem.W.kitOne K (.ref C_InvalidNumber) (.type "ValueError") = some true)
    {nm_InvalidLine q_InvalidLine : Str} {N_InvalidLine : Addr} {bs_InvalidLine bm_InvalidLine sub_InvalidLine : List Value} {sn_InvalidLine : List Str} {ab_InvalidLine : Bool} {col_InvalidLine : Option Bool} {dd_InvalidLine : Option Addr} {k0_InvalidLine k1_InvalidLine k2_InvalidLine k3_InvalidLine k5_InvalidLine : Option Value}
    (cl_InvalidLine : K.lookup C_InvalidLine = some (excClassObj nm_InvalidLine q_InvalidLine C_InvalidLine N_InvalidLine bs_InvalidLine bm_InvalidLine true sn_InvalidLine sub_InvalidLine ab_InvalidLine col_InvalidLine dd_InvalidLine k0_InvalidLine k1_InvalidLine k2_InvalidLine k3_InvalidLine k5_InvalidLine "ValueError.__new__"))
    (tl_InvalidLine : PySem.W.excTail [.type "ValueError", .type "Exception", .type "BaseException", .type "object"] bm_InvalidLine = true)
    (sa_InvalidLine : PySem.W.findIn K (.ref C_InvalidLine) "__setattr__" = some (some (.builtin "object.__setattr__"))) (su_InvalidLine : PySem.W.subIn K (.ref C_InvalidLine) (.type "BaseException") = some true) (ty_InvalidLine : PySem.W.typeIn K (.ref C_InvalidLine) = some (.type "type")) (ke_InvalidLine : PySem.W.keepIn K (.ref C_InvalidLine) = true)
    {fI_InvalidLine : Addr} {oc_InvalidLine kV_InvalidLine dc_InvalidLine pm_InvalidLine cd_InvalidLine ct_InvalidLine : Value} {od_InvalidLine an_InvalidLine : Option Addr} {sl_InvalidLine : Array (Option Value)}
    (in_InvalidLine : PySem.W.findIn K (.ref C_InvalidLine) "__init__" = some (some (.ref fI_InvalidLine))) (tf_InvalidLine : PySem.W.typeIn K (.ref fI_InvalidLine) = some (.type "function"))
    (li_InvalidLine : K.lookup fI_InvalidLine = some ⟨oc_InvalidLine, od_InvalidLine, .func (PySem.W.fnOf "__init__" (("InvalidLine" : Str) ++ ".__init__") (defArgs st__InvalidLine) (defBody st__InvalidLine) (defScope st__InvalidLine) .none kV_InvalidLine dc_InvalidLine pm_InvalidLine an_InvalidLine cd_InvalidLine ct_InvalidLine), sl_InvalidLine⟩) (ci_InvalidLine : PySem.W.codeIn K cd_InvalidLine (("InvalidLine" : Str) ++ ".__init__") = true)
    (ga_InvalidLine : PySem.W.findIn K (.ref C_InvalidLine) "__getattribute__" = some (some (.builtin "BaseException.__getattribute__"))) (gg_InvalidLine : PySem.W.findIn K (.ref C_InvalidLine) "__getattr__" = some none) (hd_InvalidLine : PySem.W.hasDictIn K C_InvalidLine = true)
    (fl_InvalidLine_value : PySem.W.findIn K (.ref C_InvalidLine) "value" = some none)
    (fl_InvalidLine_what : PySem.W.findIn K (.ref C_InvalidLine) "what" = some none)
    (fl_InvalidLine_limit : PySem.W.findIn K (.ref C_InvalidLine) "limit" = some none)
    (e_InvalidLine_InvalidLine : PySem.W.exmOne K (.ref C_InvalidLine) (.ref C_InvalidLine) = some true)
    (e_InvalidLine_InvalidNumber : PySem.W.exmOne K (.ref C_InvalidLine) (.ref C_InvalidNumber) = some false)
    (e_InvalidLine_ZeroLine : PySem.W.exmOne K (.ref C_InvalidLine) (.ref C_ZeroLine) = some false)
    (e_InvalidLine_TooMany : PySem.W.exmOne K (.ref C_InvalidLine) (.ref C_TooMany) = some false)
    (q_InvalidLine_CurveError : PySem.W.kitOne K (.ref C_InvalidLine) (.ref C_CurveError) = some true)
    (q_InvalidLine_ValueError : PySem.W.kitOne K (.ref C_InvalidLine) (.type "ValueError") = some true)
    (xi_ZeroLine : PySem.W.excIn K C_ZeroLine [.type "RuntimeError", .type "Exception", .type "BaseException", .type "object"] "RuntimeError.__new__" = true) (su_ZeroLine : PySem.W.subIn K (.ref C_ZeroLine) (.type "BaseException") = some true) (ty_ZeroLine : PySem.W.typeIn K (.ref C_ZeroLine) = some (.type "type")) (ke_ZeroLine : PySem.W.keepIn K (.ref C_ZeroLine) = true)
    (ga_ZeroLine : PySem.W.findIn K (.ref C_ZeroLine) "__getattribute__" = some (some (.builtin "BaseException.__getattribute__"))) (gg_ZeroLine : PySem.W.findIn K (.ref C_ZeroLine) "__getattr__" = some none) (hd_ZeroLine : PySem.W.hasDictIn K C_ZeroLine = true)
    (fl_ZeroLine_value : PySem.W.findIn K (.ref C_ZeroLine) "value" = some none)
    (fl_ZeroLine_what : PySem.W.findIn K (.ref C_ZeroLine) "what" = some none)
    (fl_ZeroLine_limit : PySem.W.findIn K (.ref C_ZeroLine) "limit" = some none)
    (e_ZeroLine_InvalidLine : PySem.W.exmOne K (.ref C_ZeroLine) (.ref C_InvalidLine) = some false)
    (e_ZeroLine_InvalidNumber : PySem.W.exmOne K (.ref C_ZeroLine) (.ref C_InvalidNumber) = some false)
    (e_ZeroLine_ZeroLine : PySem.W.exmOne K (.ref C_ZeroLine) (.ref C_ZeroLine) = some true)
    (e_ZeroLine_TooMany : PySem.W.exmOne K (.ref C_ZeroLine) (.ref C_TooMany) = some false)
    (q_ZeroLine_StateError : PySem.W.kitOne K (.ref C_ZeroLine) (.ref C_StateError) = some true)
    (zk_ValueError : PySem.W.nsIn K mainGlobals "ValueError" = some none)
    {cc52 P52 : Addr} {oC52 : Value} {eC52 : Option Addr} {vs52 : Array Value} {sC52 : Array (Option Value)} (w52 : cd52 = .ref cc52) (lc52 : K.lookup cc52 = some ⟨oC52, eC52, .fields vs52, sC52⟩) (v52 : vs52[11]? = some (.ref P52)) (ch52 : PySem.W.codeHdIn K cc52 P52 = true) (no52 : K.lookup P52 = none) (pt52 : P52 ∈ ts)
    {cc53 P53 : Addr} {oC53 : Value} {eC53 : Option Addr} {vs53 : Array Value} {sC53 : Array (Option Value)} (w53 : cd53 = .ref cc53) (lc53 : K.lookup cc53 = some ⟨oC53, eC53, .fields vs53, sC53⟩) (v53 : vs53[11]? = some (.ref P53)) (ch53 : PySem.W.codeHdIn K cc53 P53 = true) (no53 : K.lookup P53 = none) (pt53 : P53 ∈ ts)
    {cc54 P54 : Addr} {oC54 : Value} {eC54 : Option Addr} {vs54 : Array Value} {sC54 : Array (Option Value)} (w54 : cd54 = .ref cc54) (lc54 : K.lookup cc54 = some ⟨oC54, eC54, .fields vs54, sC54⟩) (v54 : vs54[11]? = some (.ref P54)) (ch54 : PySem.W.codeHdIn K cc54 P54 = true) (no54 : K.lookup P54 = none) (pt54 : P54 ∈ ts)
    (nd : [P52, P53, P54].Nodup) : Facts K ts :=
  ⟨⟨_, _, _, _, _, _, _, _, _, _, a0, k0, l0, c0⟩,
    ⟨_, _, _, _, _, _, _, _, _, _, a1, k1, l1, c1⟩,
    ⟨_, _, _, _, _, _, _, _, _, _, a2, k2, l2, c2⟩,
    ⟨_, _, _, _, _, _, _, _, _, _, a3, k3, l3, c3⟩,
    ⟨_, _, _, _, _, _, _, _, _, _, a4, k4, l4, c4⟩,
    ⟨_, _, _, _, _, _, _, _, _, _, a5, k5, l5, c5⟩,
    ⟨_, _, _, _, _, _, _, _, _, _, a6, k6, l6, c6⟩,
    ⟨_, _, _, _, _, _, _, _, _, _, a7, k7, l7, c7⟩,
    ⟨_, _, _, _, _, _, _, _, _, _, a8, k8, l8, c8⟩,
    ⟨_, _, _, _, _, _, _, _, _, _, a9, k9, l9, c9⟩,
    ⟨_, _, _, _, _, _, _, _, _, _, a10, k10, l10, c10⟩,
    ⟨_, _, _, _, _, _, _, _, _, _, a11, k11, l11, c11⟩,
    ⟨_, _, _, _, _, _, _, _, _, _, a12, k12, l12, c12⟩,
    ⟨_, _, _, _, _, _, _, _, _, _, a13, k13, l13, c13⟩,
    ⟨_, _, _, _, _, _, _, _, _, _, a14, k14, l14, c14⟩,
    ⟨_, _, _, _, _, _, _, _, _, _, a15, k15, l15, c15⟩,
    ⟨_, _, _, _, _, _, _, _, _, _, a16, k16, l16, c16⟩,
    ⟨_, _, _, _, _, _, _, _, _, _, a17, k17, l17, c17⟩,
    ⟨_, _, _, _, _, _, _, _, _, _, a18, k18, l18, c18⟩,
    ⟨_, _, _, _, _, _, _, _, _, _, a19, k19, l19, c19⟩,
    ⟨_, _, _, _, _, _, _, _, _, _, a20, k20, l20, c20⟩,
    ⟨_, _, _, _, _, _, _, _, _, _, a21, k21, l21, c21⟩,
    ⟨_, _, _, _, _, _, _, _, _, _, a22, k22, l22, c22⟩,
    ⟨_, _, _, _, _, _, _, _, _, _, a23, k23, l23, c23⟩,
    ⟨_, _, _, _, _, _, _, _, _, _, a24, k24, l24, c24⟩,
    ⟨_, _, _, _, _, _, _, _, _, _, a25, k25, l25, c25⟩,
    ⟨_, _, _, _, _, _, _, _, _, _, a26, k26, l26, c26⟩,
    ⟨_, _, _, _, _, _, _, _, _, _, a27, k27, l27, c27⟩,
    ⟨_, _, _, _, _, _, _, _, _, _, a28, k28, l28, c28⟩,
    ⟨_, _, _, _, _, _, _, _, _, _, a29, k29, l29, c29⟩,
    ⟨_, _, _, _, _, _, _, _, _, _, a30, k30, l30, c30⟩,
    ⟨_, _, _, _, _, _, _, _, _, _, a31, k31, l31, c31⟩,
    ⟨_, _, _, _, _, _, _, _, _, _, a32, k32, l32, c32⟩,
    ⟨_, _, _, _, _, _, _, _, _, _, a33, k33, l33, c33⟩,
    ⟨_, _, _, _, _, _, _, _, _, _, a34, k34, l34, c34⟩,
    ⟨_, _, _, _, _, _, _, _, _, _, a35, k35, l35, c35⟩,
    ⟨_, _, _, _, _, _, _, _, _, _, a36, k36, l36, c36⟩,
    ⟨_, _, _, _, _, _, _, _, _, _, a37, k37, l37, c37⟩,
    ⟨_, _, _, _, _, _, _, _, _, _, a38, k38, l38, c38⟩,
    ⟨_, _, _, _, _, _, _, _, _, _, a39, k39, l39, c39⟩,
    ⟨_, _, _, _, _, _, _, _, _, _, a40, k40, l40, c40⟩,
    ⟨_, _, _, _, _, _, _, _, _, _, a41, k41, l41, c41⟩,
    ⟨_, _, _, _, _, _, _, _, _, _, a42, k42, l42, c42⟩,
    ⟨_, _, _, _, _, _, _, _, _, _, a43, k43, l43, c43⟩,
    ⟨_, _, _, _, _, _, _, _, _, _, a44, k44, l44, c44⟩,
    ⟨_, _, _, _, _, _, _, _, _, _, a45, k45, l45, c45⟩,
    ⟨_, _, _, _, _, _, _, _, _, _, a46, k46, l46, c46⟩,
    ⟨_, _, _, _, _, _, _, _, _, _, a47, k47, l47, c47⟩,
    ⟨_, _, _, _, _, _, _, _, _, _, a48, k48, l48, c48⟩,
    ⟨_, _, _, _, _, _, _, _, _, _, a49, k49, l49, c49⟩,
    ⟨_, _, _, _, _, _, _, _, _, _, a50, k50, l50, c50⟩,
    ⟨_, _, _, _, _, _, _, _, _, _, a51, k51, l51, c51⟩,
    ⟨_, _, _, _, _, _, _, _, _, _, a52, k52, l52, c52⟩,
    ⟨_, _, _, _, _, _, _, _, _, _, a53, k53, l53, c53⟩,
    ⟨_, _, _, _, _, _, _, _, _, _, a54, k54, l54, c54⟩,
    ⟨_, _, _, _, _, _, _, _, _, _, a55, k55, l55, c55⟩,
    ⟨_, _, _, _, _, _, _, _, _, _, a56, k56, l56, c56⟩,
    z_abs,
    z_all,
    z_bool,
    z_divmod,
    z_enumerate,
    z_int,
    z_isinstance,
    z_len,
    z_list,
    z_max,
    z_range,
    z_repr,
    z_sorted,
    z_tuple,
    ⟨_, g_MOST_DEGREE⟩,
    ⟨_, g_MOST_MONIC⟩,
    ⟨_, _, _, _, _, _, _, _, _, _, _, n_TooMany, ⟨_, _, _, _, _, _, _, _, _, _, _, _, _, _, _, cl_TooMany, tl_TooMany⟩, sa_TooMany, su_TooMany, ty_TooMany, ke_TooMany, in_TooMany, tf_TooMany, li_TooMany, ci_TooMany, List.forall_mem_cons.mpr ⟨fl_TooMany_what, List.forall_mem_cons.mpr ⟨fl_TooMany_limit, fun _ h => nomatch h⟩⟩⟩,
    ⟨_, _, _, _, _, _, _, _, _, _, _, n_InvalidNumber, ⟨_, _, _, _, _, _, _, _, _, _, _, _, _, _, _, cl_InvalidNumber, tl_InvalidNumber⟩, sa_InvalidNumber, su_InvalidNumber, ty_InvalidNumber, ke_InvalidNumber, in_InvalidNumber, tf_InvalidNumber, li_InvalidNumber, ci_InvalidNumber, List.forall_mem_cons.mpr ⟨fl_InvalidNumber_value, fun _ h => nomatch h⟩⟩,
    ⟨_, _, _, _, _, _, _, _, _, _, _, n_InvalidLine, ⟨_, _, _, _, _, _, _, _, _, _, _, _, _, _, _, cl_InvalidLine, tl_InvalidLine⟩, sa_InvalidLine, su_InvalidLine, ty_InvalidLine, ke_InvalidLine, in_InvalidLine, tf_InvalidLine, li_InvalidLine, ci_InvalidLine, List.forall_mem_cons.mpr ⟨fl_InvalidLine_value, fun _ h => nomatch h⟩⟩,
    ⟨_, n_ZeroLine, xi_ZeroLine, ke_ZeroLine, su_ZeroLine, ty_ZeroLine⟩,
    ⟨_, n_InvalidLine, List.forall_mem_cons.mpr ⟨⟨_, n_TooMany, e_TooMany_InvalidLine.trans (by decide +kernel)⟩, List.forall_mem_cons.mpr ⟨⟨_, n_InvalidNumber, e_InvalidNumber_InvalidLine.trans (by decide +kernel)⟩, List.forall_mem_cons.mpr ⟨⟨_, n_InvalidLine, e_InvalidLine_InvalidLine.trans (by decide +kernel)⟩, List.forall_mem_cons.mpr ⟨⟨_, n_ZeroLine, e_ZeroLine_InvalidLine.trans (by decide +kernel)⟩, fun _ h => nomatch h⟩⟩⟩⟩⟩,
    ⟨_, n_InvalidNumber, List.forall_mem_cons.mpr ⟨⟨_, n_TooMany, e_TooMany_InvalidNumber.trans (by decide +kernel)⟩, List.forall_mem_cons.mpr ⟨⟨_, n_InvalidNumber, e_InvalidNumber_InvalidNumber.trans (by decide +kernel)⟩, List.forall_mem_cons.mpr ⟨⟨_, n_InvalidLine, e_InvalidLine_InvalidNumber.trans (by decide +kernel)⟩, List.forall_mem_cons.mpr ⟨⟨_, n_ZeroLine, e_ZeroLine_InvalidNumber.trans (by decide +kernel)⟩, fun _ h => nomatch h⟩⟩⟩⟩⟩,
    ⟨_, n_ZeroLine, List.forall_mem_cons.mpr ⟨⟨_, n_TooMany, e_TooMany_ZeroLine.trans (by decide +kernel)⟩, List.forall_mem_cons.mpr ⟨⟨_, n_InvalidNumber, e_InvalidNumber_ZeroLine.trans (by decide +kernel)⟩, List.forall_mem_cons.mpr ⟨⟨_, n_InvalidLine, e_InvalidLine_ZeroLine.trans (by decide +kernel)⟩, List.forall_mem_cons.mpr ⟨⟨_, n_ZeroLine, e_ZeroLine_ZeroLine.trans (by decide +kernel)⟩, fun _ h => nomatch h⟩⟩⟩⟩⟩,
    ⟨_, n_TooMany, List.forall_mem_cons.mpr ⟨⟨_, n_TooMany, e_TooMany_TooMany.trans (by decide +kernel)⟩, List.forall_mem_cons.mpr ⟨⟨_, n_InvalidNumber, e_InvalidNumber_TooMany.trans (by decide +kernel)⟩, List.forall_mem_cons.mpr ⟨⟨_, n_InvalidLine, e_InvalidLine_TooMany.trans (by decide +kernel)⟩, List.forall_mem_cons.mpr ⟨⟨_, n_ZeroLine, e_ZeroLine_TooMany.trans (by decide +kernel)⟩, fun _ h => nomatch h⟩⟩⟩⟩⟩,
    ⟨_, n_CurveError, List.forall_mem_cons.mpr ⟨fun z => absurd z (by decide +kernel), List.forall_mem_cons.mpr ⟨fun _ => ⟨_, n_InvalidNumber, q_InvalidNumber_CurveError⟩, List.forall_mem_cons.mpr ⟨fun _ => ⟨_, n_InvalidLine, q_InvalidLine_CurveError⟩, List.forall_mem_cons.mpr ⟨fun z => absurd z (by decide +kernel), fun _ h => nomatch h⟩⟩⟩⟩⟩,
    ⟨zk_ValueError, List.forall_mem_cons.mpr ⟨fun z => absurd z (by decide +kernel), List.forall_mem_cons.mpr ⟨fun _ => ⟨_, n_InvalidNumber, q_InvalidNumber_ValueError⟩, List.forall_mem_cons.mpr ⟨fun _ => ⟨_, n_InvalidLine, q_InvalidLine_ValueError⟩, List.forall_mem_cons.mpr ⟨fun z => absurd z (by decide +kernel), fun _ h => nomatch h⟩⟩⟩⟩⟩,
    ⟨_, n_StateError, List.forall_mem_cons.mpr ⟨fun z => absurd z (by decide +kernel), List.forall_mem_cons.mpr ⟨fun z => absurd z (by decide +kernel), List.forall_mem_cons.mpr ⟨fun z => absurd z (by decide +kernel), List.forall_mem_cons.mpr ⟨fun _ => ⟨_, n_ZeroLine, q_ZeroLine_StateError⟩, fun _ h => nomatch h⟩⟩⟩⟩⟩,
    ⟨_, n_LimitError, List.forall_mem_cons.mpr ⟨fun _ => ⟨_, n_TooMany, q_TooMany_LimitError⟩, List.forall_mem_cons.mpr ⟨fun z => absurd z (by decide +kernel), List.forall_mem_cons.mpr ⟨fun z => absurd z (by decide +kernel), List.forall_mem_cons.mpr ⟨fun z => absurd z (by decide +kernel), fun _ h => nomatch h⟩⟩⟩⟩⟩,
    List.forall_mem_cons.mpr ⟨⟨_, n_TooMany, ⟨ga_TooMany, gg_TooMany, su_TooMany, hd_TooMany⟩, fl_TooMany_value⟩, List.forall_mem_cons.mpr ⟨⟨_, n_InvalidNumber, ⟨ga_InvalidNumber, gg_InvalidNumber, su_InvalidNumber, hd_InvalidNumber⟩, fl_InvalidNumber_value⟩, List.forall_mem_cons.mpr ⟨⟨_, n_InvalidLine, ⟨ga_InvalidLine, gg_InvalidLine, su_InvalidLine, hd_InvalidLine⟩, fl_InvalidLine_value⟩, List.forall_mem_cons.mpr ⟨⟨_, n_ZeroLine, ⟨ga_ZeroLine, gg_ZeroLine, su_ZeroLine, hd_ZeroLine⟩, fl_ZeroLine_value⟩, fun _ h => nomatch h⟩⟩⟩⟩,
    List.forall_mem_cons.mpr ⟨⟨_, n_TooMany, ⟨ga_TooMany, gg_TooMany, su_TooMany, hd_TooMany⟩, fl_TooMany_what⟩, List.forall_mem_cons.mpr ⟨⟨_, n_InvalidNumber, ⟨ga_InvalidNumber, gg_InvalidNumber, su_InvalidNumber, hd_InvalidNumber⟩, fl_InvalidNumber_what⟩, List.forall_mem_cons.mpr ⟨⟨_, n_InvalidLine, ⟨ga_InvalidLine, gg_InvalidLine, su_InvalidLine, hd_InvalidLine⟩, fl_InvalidLine_what⟩, List.forall_mem_cons.mpr ⟨⟨_, n_ZeroLine, ⟨ga_ZeroLine, gg_ZeroLine, su_ZeroLine, hd_ZeroLine⟩, fl_ZeroLine_what⟩, fun _ h => nomatch h⟩⟩⟩⟩,
    List.forall_mem_cons.mpr ⟨⟨_, n_TooMany, ⟨ga_TooMany, gg_TooMany, su_TooMany, hd_TooMany⟩, fl_TooMany_limit⟩, List.forall_mem_cons.mpr ⟨⟨_, n_InvalidNumber, ⟨ga_InvalidNumber, gg_InvalidNumber, su_InvalidNumber, hd_InvalidNumber⟩, fl_InvalidNumber_limit⟩, List.forall_mem_cons.mpr ⟨⟨_, n_InvalidLine, ⟨ga_InvalidLine, gg_InvalidLine, su_InvalidLine, hd_InvalidLine⟩, fl_InvalidLine_limit⟩, List.forall_mem_cons.mpr ⟨⟨_, n_ZeroLine, ⟨ga_ZeroLine, gg_ZeroLine, su_ZeroLine, hd_ZeroLine⟩, fl_ZeroLine_limit⟩, fun _ h => nomatch h⟩⟩⟩⟩,
    ⟨_, _, _, _, _, _, ⟨_, _, _, _, _, _, _, _, _, a52, l52, w52, lc52, v52, ch52, no52, pt52⟩, ⟨_, _, _, _, _, _, _, _, _, a53, l53, w53, lc53, v53, ch53, no53, pt53⟩, ⟨_, _, _, _, _, _, _, _, _, a54, l54, w54, lc54, v54, ch54, no54, pt54⟩, nd⟩⟩
def AllMk : Prop := ∀ (q : Program) (loose : List Str) (XP : (Str → Option Value) → Heap → Prop) (YP : World → Heap → Prop) (d : PySem.DefRec) (K : PySem.Params → PySem.W.Frag) (ts : List Addr), PyProof.Rows.importsNone q = true → (∀ (w : World) (h : Heap), YP w h → (K w.params).In h) → d.name = "law" → d.params.defaults = [] →
  (∀ (w : World) (h : Heap), YP w h → ∀ P ∈ ts, h.get? P = some { cls := .none, data := .fields #[] }) →
  (∀ w : World, Facts (K w.params) ts) → PySem.W.WalkO q loose XP YP PySem.Challenge.rw_curvemeets_k10_lines_refused.row.toRowW d [] (fun f vs => PySem.call f vs)
theorem two {A B : Prop} (hc : A) (main : A → B) : B := main hc
end k10
open PySem PySem.W PyProof.Rows in
set_option maxRecDepth 100000 in
set_option maxHeartbeats 0 in
theorem k10.head0 (hyp : k10.AllMk) : PySem.Challenge.rw_curvemeets_k10_lines_refused.Holds := by
  w_on; o_law
  apply k10.two
  case main =>
    intro z
    clear z
    k_head
    (case hw => w_witness2)
  case hc =>
  k_fill
  refine hyp _ _ _ _ _ _ _ (by decide +kernel) (fun w h Y => PySem.W.km_in_of Y) rfl rfl (fun w h Y => PySem.W.km_tabs_of Y) ?F
  case F =>
    intro w
    refine' k10.facts_mk ?a0 ?l0 ?c0 ?k0 ?a1 ?l1 ?c1 ?k1 ?a2 ?l2 ?c2 ?k2 ?a3 ?l3 ?c3 ?k3 ?a4 ?l4 ?c4 ?k4 ?a5 ?l5 ?c5 ?k5 ?a6 ?l6 ?c6 ?k6 ?a7 ?l7 ?c7 ?k7 ?a8 ?l8 ?c8 ?k8 ?a9 ?l9 ?c9 ?k9 ?a10 ?l10 ?c10 ?k10 ?a11 ?l11 ?c11 ?k11 ?a12 ?l12 ?c12 ?k12 ?a13 ?l13 ?c13 ?k13 ?a14 ?l14 ?c14 ?k14 ?a15 ?l15 ?c15 ?k15 ?a16 ?l16 ?c16 ?k16 ?a17 ?l17 ?c17 ?k17 ?a18 ?l18 ?c18 ?k18 ?a19 ?l19 ?c19 ?k19 ?a20 ?l20 ?c20 ?k20 ?a21 ?l21 ?c21 ?k21 ?a22 ?l22 ?c22 ?k22 ?a23 ?l23 ?c23 ?k23 ?a24 ?l24 ?c24 ?k24 ?a25 ?l25 ?c25 ?k25 ?a26 ?l26 ?c26 ?k26 ?a27 ?l27 ?c27 ?k27 ?a28 ?l28 ?c28 ?k28 ?a29 ?l29 ?c29 ?k29 ?a30 ?l30 ?c30 ?k30 ?a31 ?l31 ?c31 ?k31 ?a32 ?l32 ?c32 ?k32 ?a33 ?l33 ?c33 ?k33 ?a34 ?l34 ?c34 ?k34 ?a35 ?l35 ?c35 ?k35 ?a36 ?l36 ?c36 ?k36 ?a37 ?l37 ?c37 ?k37 ?a38 ?l38 ?c38 ?k38 ?a39 ?l39 ?c39 ?k39 ?a40 ?l40 ?c40 ?k40 ?a41 ?l41 ?c41 ?k41 ?a42 ?l42 ?c42 ?k42 ?a43 ?l43 ?c43 ?k43 ?a44 ?l44 ?c44 ?k44 ?a45 ?l45 ?c45 ?k45 ?a46 ?l46 ?c46 ?k46 ?a47 ?l47 ?c47 ?k47 ?a48 ?l48 ?c48 ?k48 ?a49 ?l49 ?c49 ?k49 ?a50 ?l50 ?c50 ?k50 ?a51 ?l51 ?c51 ?k51 ?a52 ?l52 ?c52 ?k52 ?a53 ?l53 ?c53 ?k53 ?a54 ?l54 ?c54 ?k54 ?a55 ?l55 ?c55 ?k55 ?a56 ?l56 ?c56 ?k56 ?z_abs ?z_all ?z_bool ?z_divmod ?z_enumerate ?z_int ?z_isinstance ?z_len ?z_list ?z_max ?z_range ?z_repr ?z_sorted ?z_tuple ?g_MOST_DEGREE ?g_MOST_MONIC ?n_TooMany ?n_InvalidNumber ?n_InvalidLine ?n_ZeroLine ?n_CurveError ?n_StateError ?n_LimitError ?cl_TooMany ?tl_TooMany ?sa_TooMany ?su_TooMany ?ty_TooMany ?ke_TooMany ?in_TooMany ?tf_TooMany ?li_TooMany ?ci_TooMany ?ga_TooMany ?gg_TooMany ?hd_TooMany ?fl_TooMany_value ?fl_TooMany_what ?fl_TooMany_limit ?e_TooMany_InvalidLine ?e_TooMany_InvalidNumber ?e_TooMany_ZeroLine ?e_TooMany_TooMany ?q_TooMany_LimitError ?cl_InvalidNumber ?tl_InvalidNumber ?sa_InvalidNumber ?su_InvalidNumber ?ty_InvalidNumber ?ke_InvalidNumber ?in_InvalidNumber ?tf_InvalidNumber ?li_InvalidNumber ?ci_InvalidNumber ?ga_InvalidNumber ?gg_InvalidNumber ?hd_InvalidNumber ?fl_InvalidNumber_value ?fl_InvalidNumber_what ?fl_InvalidNumber_limit ?e_InvalidNumber_InvalidLine ?e_InvalidNumber_InvalidNumber ?e_InvalidNumber_ZeroLine ?e_InvalidNumber_TooMany ?q_InvalidNumber_CurveError ?q_InvalidNumber_ValueError ?cl_InvalidLine ?tl_InvalidLine ?sa_InvalidLine ?su_InvalidLine ?ty_InvalidLine ?ke_InvalidLine ?in_InvalidLine ?tf_InvalidLine ?li_InvalidLine ?ci_InvalidLine ?ga_InvalidLine ?gg_InvalidLine ?hd_InvalidLine ?fl_InvalidLine_value ?fl_InvalidLine_what ?fl_InvalidLine_limit ?e_InvalidLine_InvalidLine ?e_InvalidLine_InvalidNumber ?e_InvalidLine_ZeroLine ?e_InvalidLine_TooMany ?q_InvalidLine_CurveError ?q_InvalidLine_ValueError ?xi_ZeroLine ?su_ZeroLine ?ty_ZeroLine ?ke_ZeroLine ?ga_ZeroLine ?gg_ZeroLine ?hd_ZeroLine ?fl_ZeroLine_value ?fl_ZeroLine_what ?fl_ZeroLine_limit ?e_ZeroLine_InvalidLine ?e_ZeroLine_InvalidNumber ?e_ZeroLine_ZeroLine ?e_ZeroLine_TooMany ?q_ZeroLine_StateError ?zk_ValueError ?w52 ?lc52 ?v52 ?ch52 ?no52 ?pt52 ?w53 ?lc53 ?v53 ?ch53 ?no53 ?pt53 ?w54 ?lc54 ?v54 ?ch54 ?no54 ?pt54 ?nd
    (case a0 => k_is)
    (case l0 => k_is)
    (case c0 => k_is)
    (case k0 => k_is)
    (case a1 => k_is)
    (case l1 => k_is)
    (case c1 => k_is)
    (case k1 => k_is)
    (case a2 => k_is)
    (case l2 => k_is)
    (case c2 => k_is)
    (case k2 => k_is)
    (case a3 => k_is)
    (case l3 => k_is)
    (case c3 => k_is)
    (case k3 => k_is)
    (case a4 => k_is)
    (case l4 => k_is)
    (case c4 => k_is)
    (case k4 => k_is)
    (case a5 => k_is)
    (case l5 => k_is)
    (case c5 => k_is)
    (case k5 => k_is)
    (case a6 => k_is)
    (case l6 => k_is)
    (case c6 => k_is)
    (case k6 => k_is)
    (case a7 => k_is)
    (case l7 => k_is)
    (case c7 => k_is)
    (case k7 => k_is)
    (case a8 => k_is)
    (case l8 => k_is)
    (case c8 => k_is)
    (case k8 => k_is)
    (case a9 => k_is)
    (case l9 => k_is)
    (case c9 => k_is)
    (case k9 => k_is)
    (case a10 => k_is)
    (case l10 => k_is)
    (case c10 => k_is)
    (case k10 => k_is)
    (case a11 => k_is)
    (case l11 => k_is)
    (case c11 => k_is)
    (case k11 => k_is)
    (case a12 => k_is)
    (case l12 => k_is)
    (case c12 => k_is)
    (case k12 => k_is)
    (case a13 => k_is)
    (case l13 => k_is)
    (case c13 => k_is)
    (case k13 => k_is)
    (case a14 => k_is)
    (case l14 => k_is)
    (case c14 => k_is)
    (case k14 => k_is)
    (case a15 => k_is)
    (case l15 => k_is)
    (case c15 => k_is)
    (case k15 => k_is)
    (case a16 => k_is)
    (case l16 => k_is)
    (case c16 => k_is)
    (case k16 => k_is)
    (case a17 => k_is)
    (case l17 => k_is)
    (case c17 => k_is)
    (case k17 => k_is)
    (case a18 => k_is)
    (case l18 => k_is)
    (case c18 => k_is)
    (case k18 => k_is)
    (case a19 => k_is)
    (case l19 => k_is)
    (case c19 => k_is)
    (case k19 => k_is)
    (case a20 => k_is)
    (case l20 => k_is)
    (case c20 => k_is)
    (case k20 => k_is)
    (case a21 => k_is)
    (case l21 => k_is)
    (case c21 => k_is)
    (case k21 => k_is)
    (case a22 => k_is)
    (case l22 => k_is)
    (case c22 => k_is)
    (case k22 => k_is)
    (case a23 => k_is)
    (case l23 => k_is)
    (case c23 => k_is)
    (case k23 => k_is)
    (case a24 => k_is)
    (case l24 => k_is)
    (case c24 => k_is)
    (case k24 => k_is)
    (case a25 => k_is)
    (case l25 => k_is)
    (case c25 => k_is)
    (case k25 => k_is)
    (case a26 => k_is)
    (case l26 => k_is)
    (case c26 => k_is)
    (case k26 => k_is)
    (case a27 => k_is)
    (case l27 => k_is)
    (case c27 => k_is)
    (case k27 => k_is)
    (case a28 => k_is)
    (case l28 => k_is)
    (case c28 => k_is)
    (case k28 => k_is)
    (case a29 => k_is)
    (case l29 => k_is)
    (case c29 => k_is)
    (case k29 => k_is)
    (case a30 => k_is)
    (case l30 => k_is)
    (case c30 => k_is)
    (case k30 => k_is)
    (case a31 => k_is)
    (case l31 => k_is)
    (case c31 => k_is)
    (case k31 => k_is)
    (case a32 => k_is)
    (case l32 => k_is)
    (case c32 => k_is)
    (case k32 => k_is)
    (case a33 => k_is)
    (case l33 => k_is)
    (case c33 => k_is)
    (case k33 => k_is)
    (case a34 => k_is)
    (case l34 => k_is)
    (case c34 => k_is)
    (case k34 => k_is)
    (case a35 => k_is)
    (case l35 => k_is)
    (case c35 => k_is)
    (case k35 => k_is)
    (case a36 => k_is)
    (case l36 => k_is)
    (case c36 => k_is)
    (case k36 => k_is)
    (case a37 => k_is)
    (case l37 => k_is)
    (case c37 => k_is)
    (case k37 => k_is)
    (case a38 => k_is)
    (case l38 => k_is)
    (case c38 => k_is)
    (case k38 => k_is)
    (case a39 => k_is)
    (case l39 => k_is)
    (case c39 => k_is)
    (case k39 => k_is)
    (case a40 => k_is)
    (case l40 => k_is)
    (case c40 => k_is)
    (case k40 => k_is)
    (case a41 => k_is)
    (case l41 => k_is)
    (case c41 => k_is)
    (case k41 => k_is)
    (case a42 => k_is)
    (case l42 => k_is)
    (case c42 => k_is)
    (case k42 => k_is)
    (case a43 => k_is)
    (case l43 => k_is)
    (case c43 => k_is)
    (case k43 => k_is)
    (case a44 => k_is)
    (case l44 => k_is)
    (case c44 => k_is)
    (case k44 => k_is)
    (case a45 => k_is)
    (case l45 => k_is)
    (case c45 => k_is)
    (case k45 => k_is)
    (case a46 => k_is)
    (case l46 => k_is)
    (case c46 => k_is)
    (case k46 => k_is)
    (case a47 => k_is)
    (case l47 => k_is)
    (case c47 => k_is)
    (case k47 => k_is)
    (case a48 => k_is)
    (case l48 => k_is)
    (case c48 => k_is)
    (case k48 => k_is)
    (case a49 => k_is)
    (case l49 => k_is)
    (case c49 => k_is)
    (case k49 => k_is)
    (case a50 => k_is)
    (case l50 => k_is)
    (case c50 => k_is)
    (case k50 => k_is)
    (case a51 => k_is)
    (case l51 => k_is)
    (case c51 => k_is)
    (case k51 => k_is)
    (case a52 => k_is)
    (case l52 => k_is)
    (case c52 => k_is)
    (case k52 => k_is)
    (case a53 => k_is)
    (case l53 => k_is)
    (case c53 => k_is)
    (case k53 => k_is)
    (case a54 => k_is)
    (case l54 => k_is)
    (case c54 => k_is)
    (case k54 => k_is)
    (case a55 => k_is)
    (case l55 => k_is)
    (case c55 => k_is)
    (case k55 => k_is)
    (case a56 => k_is)
    (case l56 => k_is)
    (case c56 => k_is)
    (case k56 => k_is)
    (case z_abs => k_is)
    (case z_all => k_is)
    (case z_bool => k_is)
    (case z_divmod => k_is)
    (case z_enumerate => k_is)
    (case z_int => k_is)
    (case z_isinstance => k_is)
    (case z_len => k_is)
    (case z_list => k_is)
    (case z_max => k_is)
    (case z_range => k_is)
    (case z_repr => k_is)
    (case z_sorted => k_is)
    (case z_tuple => k_is)
    (case g_MOST_DEGREE => k_is)
    (case g_MOST_MONIC => k_is)
    (case n_TooMany => k_is)
    (case n_InvalidNumber => k_is)
    (case n_InvalidLine => k_is)
    (case n_ZeroLine => k_is)
    (case n_CurveError => k_is)
    (case n_StateError => k_is)
    (case n_LimitError => k_is)
    (case cl_TooMany => k_is)
    (case tl_TooMany => first | rfl | decide +kernel)
    (case sa_TooMany => k_is)
    (case su_TooMany => k_is)
    (case ty_TooMany => k_is)
    (case ke_TooMany => k_is)
    (case in_TooMany => k_is)
    (case tf_TooMany => k_is)
    (case li_TooMany => k_is)
    (case ci_TooMany => k_is)
    (case ga_TooMany => k_is)
    (case gg_TooMany => k_is)
    (case hd_TooMany => first | k_is | kernel_rfl | decide +kernel)
    (case fl_TooMany_value => k_is)
    (case fl_TooMany_what => k_is)
    (case fl_TooMany_limit => k_is)
    (case e_TooMany_InvalidLine => first | k_is | kernel_rfl)
    (case e_TooMany_InvalidNumber => first | k_is | kernel_rfl)
    (case e_TooMany_ZeroLine => first | k_is | kernel_rfl)
    (case e_TooMany_TooMany => first | k_is | kernel_rfl)
    (case q_TooMany_LimitError => first | k_is | kernel_rfl)
    (case cl_InvalidNumber => k_is)
    (case tl_InvalidNumber => first | rfl | decide +kernel)
    (case sa_InvalidNumber => k_is)
    (case su_InvalidNumber => k_is)
    (case ty_InvalidNumber => k_is)
    (case ke_InvalidNumber => k_is)
    (case in_InvalidNumber => k_is)
    (case tf_InvalidNumber => k_is)
    (case li_InvalidNumber => k_is)
    (case ci_InvalidNumber => k_is)
    (case ga_InvalidNumber => k_is)
    (case gg_InvalidNumber => k_is)
    (case hd_InvalidNumber => first | k_is | kernel_rfl | decide +kernel)
    (case fl_InvalidNumber_value => k_is)
    (case fl_InvalidNumber_what => k_is)
    (case fl_InvalidNumber_limit => k_is)
    (case e_InvalidNumber_InvalidLine => first | k_is | kernel_rfl)
    (case e_InvalidNumber_InvalidNumber => first | k_is | kernel_rfl)
    (case e_InvalidNumber_ZeroLine => first | k_is | kernel_rfl)
    (case e_InvalidNumber_TooMany => first | k_is | kernel_rfl)
    (case q_InvalidNumber_CurveError => first | k_is | kernel_rfl)
    (case q_InvalidNumber_ValueError => first | k_is | kernel_rfl)
    (case cl_InvalidLine => k_is)
    (case tl_InvalidLine => first | rfl | decide +kernel)
    (case sa_InvalidLine => k_is)
    (case su_InvalidLine => k_is)
    (case ty_InvalidLine => k_is)
    (case ke_InvalidLine => k_is)
    (case in_InvalidLine => k_is)
    (case tf_InvalidLine => k_is)
    (case li_InvalidLine => k_is)
    (case ci_InvalidLine => k_is)
    (case ga_InvalidLine => k_is)
    (case gg_InvalidLine => k_is)
    (case hd_InvalidLine => first | k_is | kernel_rfl | decide +kernel)
    (case fl_InvalidLine_value => k_is)
    (case fl_InvalidLine_what => k_is)
    (case fl_InvalidLine_limit => k_is)
    (case e_InvalidLine_InvalidLine => first | k_is | kernel_rfl)
    (case e_InvalidLine_InvalidNumber => first | k_is | kernel_rfl)
    (case e_InvalidLine_ZeroLine => first | k_is | kernel_rfl)
    (case e_InvalidLine_TooMany => first | k_is | kernel_rfl)
    (case q_InvalidLine_CurveError => first | k_is | kernel_rfl)
    (case q_InvalidLine_ValueError => first | k_is | kernel_rfl)
    (case xi_ZeroLine => first | kernel_rfl | decide +kernel | k_is)
    (case su_ZeroLine => k_is)
    (case ty_ZeroLine => k_is)
    (case ke_ZeroLine => k_is)
    (case ga_ZeroLine => k_is)
    (case gg_ZeroLine => k_is)
    (case hd_ZeroLine => first | k_is | kernel_rfl | decide +kernel)
    (case fl_ZeroLine_value => k_is)
    (case fl_ZeroLine_what => k_is)
    (case fl_ZeroLine_limit => k_is)
    (case e_ZeroLine_InvalidLine => first | k_is | kernel_rfl)
    (case e_ZeroLine_InvalidNumber => first | k_is | kernel_rfl)
    (case e_ZeroLine_ZeroLine => first | k_is | kernel_rfl)
    (case e_ZeroLine_TooMany => first | k_is | kernel_rfl)
    (case q_ZeroLine_StateError => first | k_is | kernel_rfl)
    (case zk_ValueError => k_is)
    (case w52 => rfl)
    (case lc52 => k_is)
    (case v52 => rfl)
    (case ch52 => kernel_rfl)
    (case no52 => kernel_rfl)
    (case pt52 => decide)
    (case w53 => rfl)
    (case lc53 => k_is)
    (case v53 => rfl)
    (case ch53 => kernel_rfl)
    (case no53 => kernel_rfl)
    (case pt53 => decide)
    (case w54 => rfl)
    (case lc54 => k_is)
    (case v54 => rfl)
    (case ch54 => kernel_rfl)
    (case no54 => kernel_rfl)
    (case pt54 => decide)
    (case nd => decide)
namespace PL
open PySem PySem.Spec PyProof.Rows L2
/-- a lambda, by its maker's name and its place there (k: its number) -/
structure LamId where
  k : Nat
  q : Str
  p : List Nat
/-- a lambda's text -/
structure LamSite where
  params : Arguments
  body : Expr
  scope : Scope
def freeN : List (Str × NameKind) → List Str → List Str
  | [], acc => acc
  | (n, k) :: r, acc => if k == .free then freeN r (n :: acc) else freeN r acc
inductive Nd where
  | e (x : Expr) | s (x : Stmt) | b (x : List Stmt) | no
def ndE : Option Expr → Nd
  | some x => .e x
  | none => .no
def Nd.step : Nd → Nat → Nd
  | .b l, i => match l[i]? with
    | some x => .s x
    | none => .no
  | .s (.Assign _ v _), _ => .e v
  | .s (.Expr v _), _ => .e v
  | .s (.Return v _), _ => ndE v
  | .s (.If t b1 b2 _), i => match i with
    | 0 => .e t
    | 1 => .b b1
    | _ => .b b2
  | .s (.For _ it b1 _ _), i => match i with
    | 0 => .e it
    | _ => .b b1
  | .s (.While t b1 _ _), i => match i with
    | 0 => .e t
    | _ => .b b1
  | .e (.Call f es _ _), i => match i with
    | 0 => .e f
    | j + 1 => ndE es[j]?
  | .e (.List es _), i => ndE es[i]?
  | .e (.Tuple es _ _), i => ndE es[i]?
  | .e (.UnaryOp _ x _), _ => .e x
  | .e (.BoolOp _ es _), i => ndE es[i]?
  | .e (.Compare l _ cs _), i => match i with
    | 0 => .e l
    | j + 1 => ndE cs[j]?
  | .e (.IfExp t x y _), i => match i with
    | 0 => .e t
    | 1 => .e x
    | _ => .e y
  | .e (.ListComp x _ _ _), _ => .e x
  | _, _ => .no
def Nd.go : Nd → List Nat → Nd
  | n, [] => n
  | n, i :: r => Nd.go (n.step i) r
/-- the lambda at the place p of a def's body -/
def lamAt (b : List Stmt) (p : List Nat) : Option LamSite := match Nd.go (.b b) p with
  | .e (.Lambda params body scope _) => some ⟨params, body, scope⟩
  | _ => none
/-- the def q, known to K, has the body b -/
def BodyK (K : PySem.W.Frag) (q : Str) (b : List Stmt) : Prop := ∃ (f : Addr) (oc : Value) (od : Option Addr) (fd : FuncData) (osl : Array (Option Value)), PySem.W.nsIn K mainGlobals q = some (some (.ref f)) ∧ K.lookup f = some ⟨oc, od, .func fd, osl⟩ ∧ fd.body = .stmts b
theorem BodyK.eq {K : PySem.W.Frag} {q : Str} {b b' : List Stmt} (h : BodyK K q b) (h' : BodyK K q b') : b = b' := by
  obtain ⟨f, _, _, _, _, e1, e2, e3⟩ := h
  obtain ⟨f', _, _, _, _, g1, g2, g3⟩ := h'
  rw [e1] at g1; cases g1
  rw [e2] at g2; cases g2
  rw [e3] at g3; cases g3; rfl
/-- the def q's table of code objects -/
def tabP (K : PySem.W.Frag) (q : Str) : Option Addr := match PySem.W.nsIn K mainGlobals q with
  | some (some (.ref f)) => match K.lookup f with
    | some ⟨_, _, .func fd, _⟩ => match fd.code with
      | .ref c => match K.lookup c with
        | some ⟨_, _, .fields (vs : Array Value), _⟩ => match (vs[11]? : Option Value) with
          | some (Value.ref P) => some P
          | _ => none
        | _ => none
      | _ => none
    | _ => none
  | _ => none
abbrev lamQ (q : Str) : Str := q ++ ".<locals>." ++ "<lambda>"
/-- plain data, what a value stands for -/
inductive D where
  | non | bl (b : Bool) | int (i : Int) | str (s : Str) | tup (l : List D) | lst (l : List D)
  | dct (l : List (Key × D)) | dcT (l : List (List Key × D)) | dcL (l : List (List Key × D)) | ro (l : List Int) | fn (x : Str) | opq (v : V) | lam (ℓ : LamId) (l : List D)
/-- what a slot holds: plain data, or a list (a dict) that nobody else holds -/
inductive C where
  | frz (d : D) | own (l : List C) | ownD (l : List (Key × D)) | ownT (l : List (List Key × D)) | tabs (qs : List Str)
mutual
def C.toD : C → D
  | .frz d => d
  | .own l => .lst (C.toDs l)
  | .ownD l => .dct l
  | .ownT l => .dcT l
  | .tabs _ => .non
def C.toDs : List C → List D
  | [] => []
  | c :: r => C.toD c :: C.toDs r
end
theorem toDs_map : ∀ l : List C, C.toDs l = l.map C.toD
  | [] => rfl
  | c :: r => by rw [C.toDs, toDs_map r]; rfl
theorem toDs_frz (l : List D) : C.toDs (l.map C.frz) = l := by
  induction l with
  | nil => rfl
  | cons d r ih => rw [List.map_cons, C.toDs, ih, C.toD]
mutual
/-- no lambda in it -/
def noL : D → Bool
  | .tup l => noLs l
  | .lst l => noLs l
  | .dct l => noLp l
  | .dcT l => noLq l
  | .dcL l => noLq l
  | .lam _ _ => false
  | _ => true
def noLs : List D → Bool
  | [] => true
  | d :: r => noL d && noLs r
def noLp : List (Key × D) → Bool
  | [] => true
  | (_, d) :: r => noL d && noLp r
def noLq : List (List Key × D) → Bool
  | [] => true
  | (_, d) :: r => noL d && noLq r
end
/-- the lambda's object at f, its cells cl, its code object c -/
def LamO (q : Str) (ℓ : LamSite) (f : Addr) (cl : List (Str × Addr)) (c : Addr) : HO := .ext fun h => ∃ pm ct : Value, h.get? f = some (PySem.W.kla_obj "<lambda>" (lamQ q) ℓ.params ℓ.body ℓ.scope cl pm c ct)
/-- the very object at c -/
def ObjO (c : Addr) (o : Obj) : HO := .ext fun h => h.get? c = some o
/-- the cells hold these -/
def CellsIs (W : Addr → Prop) (H : Hp) : List (Str × Addr) → List V → Prop
  | [], xs => xs = []
  | (_, c) :: r, xs => ∃ x ys o u, xs = x :: ys ∧ H c = some (ObjO c o) ∧ ¬ W c ∧ o.data = .cell (some u) ∧ RelV x u ∧ CellsIs W H r ys
def RoK (K : PySem.W.Frag) (a : Addr) (xs : List V) : Prop :=
  ∃ (o : Obj) (its : Array Value) (n : Nat), K.lookup a = some o ∧ o.cls = .type "list" ∧ o.dict = none ∧ o.data = .seq its n ∧ its.size ≤ sizeLine ∧ Vals xs its.toList
section
variable (K : PySem.W.Frag) (W : Addr → Prop) (H : Hp)
mutual
/-- v stands for d; no object of it lies in W -/
def Is : D → V → Prop
  | .non, v => v = .non
  | .bl b, v => v = .bl b
  | .int i, v => v = .int i
  | .str s, v => v = .str s
  | .tup l, v => ∃ a xs, v = .ref a ∧ H a = some (.tup xs) ∧ ¬ W a ∧ IsL l xs
  | .lst l, v => ∃ a xs, v = .ref a ∧ H a = some (.lst xs) ∧ ¬ W a ∧ IsL l xs
  | .dct l, v => ∃ a kvs, v = .ref a ∧ H a = some (.dK kvs) ∧ ¬ W a ∧ IsP l kvs
  | .dcT l, v => ∃ a kvs, v = .ref a ∧ H a = some (.dT kvs) ∧ ¬ W a ∧ IsQ l kvs
  | .dcL l, v => ∃ a o kvs, v = .ref a ∧ H a = some (.frz o (.dT kvs)) ∧ ¬ W a ∧ IsQ l kvs
  | .ro l, v => ∃ a, v = .ref a ∧ ((Rd H a (.lst (l.map V.int)) ∧ ¬ W a) ∨ RoK K a (l.map V.int))
  | .fn x, v => ∃ a, v = .ref a ∧ PySem.W.nsIn K mainGlobals x = some (some (.ref a))
  | .opq u, v => v = u
  | .lam ℓ l, v => ∃ b t f cl c xs, v = .ref f ∧ (BodyK K ℓ.q b ∧ lamAt b ℓ.p = some t ∧ cl.map (·.1) = freeN t.scope.names [] ∧ (cl.map (·.2)).Nodup ∧ noLs l = true) ∧ H f = some (LamO ℓ.q t f cl c) ∧ ¬ W f ∧ H c = some (LamX.CodeO c (lamQ ℓ.q)) ∧ ¬ W c ∧ CellsIs W H cl xs ∧ IsL l xs
def IsL : List D → List V → Prop
  | [], xs => xs = []
  | d :: r, xs => ∃ x ys, xs = x :: ys ∧ Is d x ∧ IsL r ys
def IsP : List (Key × D) → List (Key × V) → Prop
  | [], xs => xs = []
  | (k, d) :: r, xs => ∃ x ys, xs = (k, x) :: ys ∧ Is d x ∧ IsP r ys
def IsQ : List (List Key × D) → List (List Key × V) → Prop
  | [], xs => xs = []
  | (k, d) :: r, xs => ∃ x ys, xs = (k, x) :: ys ∧ Is d x ∧ IsQ r ys
end
end
section
variable {K : PySem.W.Frag} {W W' : Addr → Prop} {H H' : Hp}
/-- what was outside W stands, and is outside W' -/
def Kp (W : Addr → Prop) (H : Hp) (W' : Addr → Prop) (H' : Hp) : Prop := ∀ a o, ¬ W a → H a = some o → H' a = some o ∧ ¬ W' a
theorem Kp.refl : Kp W H W H := fun _ _ w h => ⟨h, w⟩
theorem Kp.trans {W'' H''} (p : Kp W H W' H') (q : Kp W' H' W'' H'') : Kp W H W'' H'' := fun a o w h => q a o (p a o w h).2 (p a o w h).1
theorem Kp.less (h : ∀ a, W' a → W a) : Kp W H W' H := fun a _ w e => ⟨e, fun z => w (h a z)⟩
theorem CellsIs.kp (p : Kp W H W' H') : ∀ {cl : List (Str × Addr)} {xs : List V}, CellsIs W H cl xs → CellsIs W' H' cl xs
  | [], xs, h => h
  | (_, c) :: r, xs, h => by
    obtain ⟨x, ys, o, u, e, hc, w, h1, h2, h3⟩ := h
    exact ⟨x, ys, o, u, e, (p c _ w hc).1, (p c _ w hc).2, h1, h2, CellsIs.kp p h3⟩
mutual
theorem Is.kp (p : Kp W H W' H') : ∀ (d : D) (v : V), Is K W H d v → Is K W' H' d v
  | .non, v, h => h
  | .bl b, v, h => h
  | .int i, v, h => h
  | .str s, v, h => h
  | .fn x, v, h => h
  | .opq u, v, h => h
  | .lam ℓ l, v, h => by
    obtain ⟨b, t, f, cl, c, xs, e, hn, hf, wf, hc, wc, h1, r⟩ := h
    exact ⟨b, t, f, cl, c, xs, e, hn, (p f _ wf hf).1, (p f _ wf hf).2, (p c _ wc hc).1, (p c _ wc hc).2, CellsIs.kp p h1, IsL.kp p l xs r⟩
  | .tup l, v, h => by
    obtain ⟨a, xs, e, ha, w, r⟩ := h
    exact ⟨a, xs, e, (p a _ w ha).1, (p a _ w ha).2, IsL.kp p l xs r⟩
  | .lst l, v, h => by
    obtain ⟨a, xs, e, ha, w, r⟩ := h
    exact ⟨a, xs, e, (p a _ w ha).1, (p a _ w ha).2, IsL.kp p l xs r⟩
  | .dct l, v, h => by
    obtain ⟨a, xs, e, ha, w, r⟩ := h
    exact ⟨a, xs, e, (p a _ w ha).1, (p a _ w ha).2, IsP.kp p l xs r⟩
  | .dcT l, v, h => by
    obtain ⟨a, xs, e, ha, w, r⟩ := h
    exact ⟨a, xs, e, (p a _ w ha).1, (p a _ w ha).2, IsQ.kp p l xs r⟩
  | .dcL l, v, h => by
    obtain ⟨a, o, xs, e, ha, w, r⟩ := h
    exact ⟨a, o, xs, e, (p a _ w ha).1, (p a _ w ha).2, IsQ.kp p l xs r⟩
  | .ro l, v, h => by
    obtain ⟨a, e, h⟩ := h
    refine ⟨a, e, ?_⟩
    rcases h with ⟨h, w⟩ | h
    · rcases h with h | ⟨o, h⟩
      · exact .inl ⟨.inl (p a _ w h).1, (p a _ w h).2⟩
      · exact .inl ⟨.inr ⟨o, (p a _ w h).1⟩, (p a _ w h).2⟩
    · exact .inr h
theorem IsL.kp (p : Kp W H W' H') : ∀ (l : List D) (xs : List V), IsL K W H l xs → IsL K W' H' l xs
  | [], xs, h => h
  | d :: r, xs, h => by
    obtain ⟨x, ys, e, h1, h2⟩ := h
    exact ⟨x, ys, e, Is.kp p d x h1, IsL.kp p r ys h2⟩
theorem IsP.kp (p : Kp W H W' H') : ∀ (l : List (Key × D)) (xs : List (Key × V)), IsP K W H l xs → IsP K W' H' l xs
  | [], xs, h => h
  | (k, d) :: r, xs, h => by
    obtain ⟨x, ys, e, h1, h2⟩ := h
    exact ⟨x, ys, e, Is.kp p d x h1, IsP.kp p r ys h2⟩
theorem IsQ.kp (p : Kp W H W' H') : ∀ (l : List (List Key × D)) (xs : List (List Key × V)), IsQ K W H l xs → IsQ K W' H' l xs
  | [], xs, h => h
  | (k, d) :: r, xs, h => by
    obtain ⟨x, ys, e, h1, h2⟩ := h
    exact ⟨x, ys, e, Is.kp p d x h1, IsQ.kp p r ys h2⟩
end
theorem IsL.length : ∀ {l : List D} {xs : List V}, IsL K W H l xs → xs.length = l.length
  | [], xs, h => by rw [show xs = [] from h]; rfl
  | d :: r, xs, h => by
    obtain ⟨x, ys, e, h1, h2⟩ := h
    rw [e, List.length_cons, List.length_cons, IsL.length h2]
theorem IsL.get : ∀ {l : List D} {xs : List V} {i : Nat} {d : D}, IsL K W H l xs → l[i]? = some d → ∃ x, xs[i]? = some x ∧ Is K W H d x
  | [], xs, i, d, h, e => by simp at e
  | d :: r, xs, 0, d', h, e => by
    obtain ⟨x, ys, e1, h1, h2⟩ := h
    simp at e; subst e
    exact ⟨x, by rw [e1]; rfl, h1⟩
  | d :: r, xs, i + 1, d', h, e => by
    obtain ⟨x, ys, e1, h1, h2⟩ := h
    obtain ⟨y, e2, h3⟩ := IsL.get (i := i) h2 (by simpa using e)
    exact ⟨y, by rw [e1]; simpa using e2, h3⟩
theorem IsL.append : ∀ {l l' : List D} {xs ys : List V}, IsL K W H l xs → IsL K W H l' ys → IsL K W H (l ++ l') (xs ++ ys)
  | [], l', xs, ys, h, h' => by rw [show xs = [] from h]; exact h'
  | d :: r, l', xs, ys, h, h' => by
    obtain ⟨x, zs, e1, h1, h2⟩ := h
    exact ⟨x, zs ++ ys, by rw [e1]; rfl, h1, IsL.append h2 h'⟩
theorem IsL.take : ∀ {l : List D} {xs : List V} (n : Nat), IsL K W H l xs → IsL K W H (l.take n) (xs.take n)
  | l, xs, 0, h => by simp [IsL]
  | [], xs, n + 1, h => by rw [show xs = [] from h]; simp [IsL]
  | d :: r, xs, n + 1, h => by
    obtain ⟨x, zs, e1, h1, h2⟩ := h
    rw [e1]
    exact ⟨x, zs.take n, rfl, h1, IsL.take n h2⟩
theorem IsL.drop : ∀ {l : List D} {xs : List V} (n : Nat), IsL K W H l xs → IsL K W H (l.drop n) (xs.drop n)
  | l, xs, 0, h => h
  | [], xs, n + 1, h => by rw [show xs = [] from h]; simp [IsL]
  | d :: r, xs, n + 1, h => by
    obtain ⟨x, zs, e1, h1, h2⟩ := h
    rw [e1]
    exact IsL.drop n h2
theorem IsL.rep {l : List D} {xs : List V} (h : IsL K W H l xs) : ∀ n : Nat, IsL K W H (List.replicate n l).flatten (List.replicate n xs).flatten
  | 0 => by simp [IsL]
  | n + 1 => by
    rw [List.replicate_succ, List.replicate_succ, List.flatten_cons, List.flatten_cons]
    exact h.append (IsL.rep h n)
theorem IsL.set {d : D} {x : V} (h : Is K W H d x) : ∀ {l : List D} {xs : List V} (i : Nat), IsL K W H l xs → IsL K W H (l.set i d) (xs.set i x)
  | [], xs, i, r => by rw [show xs = [] from r]; simp [IsL]
  | e :: r, xs, 0, q => by
    obtain ⟨y, zs, e1, h1, h2⟩ := q
    rw [e1]
    exact ⟨x, zs, rfl, h, h2⟩
  | e :: r, xs, i + 1, q => by
    obtain ⟨y, zs, e1, h1, h2⟩ := q
    rw [e1]
    exact ⟨y, zs.set i x, rfl, h1, IsL.set h i h2⟩
theorem IsL.of_ints : ∀ {l : List Int} {xs : List V}, IsL K W H (l.map D.int) xs → xs = l.map V.int
  | [], xs, h => h
  | i :: r, xs, h => by
    obtain ⟨x, ys, e, h1, h2⟩ := h
    rw [e, show x = V.int i from h1, IsL.of_ints h2]; rfl
end
/-- a thing that can change -/
def MutT : HO → Prop
  | .lst _ => True
  | .dK _ => True
  | .dT _ => True
  | .set _ _ => True
  | .ins _ _ _ => True
  | .ext _ => True
  | .tbl _ => True
  | _ => False
abbrev MHO := {u : HO // MutT u}
/-- the tables of these defs, at these places -/
def TabsAt (K : PySem.W.Frag) (W : Addr → Prop) (H : Hp) : List Str → List Addr → Prop
  | [], A => A = []
  | q :: r, A => ∃ P B ps, A = P :: B ∧ tabP K q = some P ∧ H P = some (.tbl ps) ∧ TriplesOk ps.toList ∧ (∀ (pos : Pos) (cv : Value), codeAmong pos ps.toList = some cv → ∃ c, cv = .ref c ∧ H c = some (LamX.CodeO c (lamQ q)) ∧ ¬ W c) ∧ TabsAt K W H r B
section
variable (K : PySem.W.Frag) (W : Addr → Prop) (H : Hp)
mutual
/-- v stands for the cell c; A: the objects that c alone holds -/
def RepC : C → V → List Addr → Prop
  | .frz d, v, A => A = [] ∧ Is K W H d v
  | .own l, v, A => ∃ a xs B, v = .ref a ∧ A = a :: B ∧ H a = some (.lst xs) ∧ RepL l xs B
  | .ownD l, v, A => ∃ a kvs, v = .ref a ∧ A = [a] ∧ H a = some (.dK kvs) ∧ IsP K W H l kvs
  | .ownT l, v, A => ∃ a kvs, v = .ref a ∧ A = [a] ∧ H a = some (.dT kvs) ∧ IsQ K W H l kvs
  | .tabs qs, v, A => v = .non ∧ TabsAt K W H qs A
def RepL : List C → List V → List Addr → Prop
  | [], xs, A => xs = [] ∧ A = []
  | c :: r, xs, A => ∃ x ys B B', xs = x :: ys ∧ A = B ++ B' ∧ RepC c x B ∧ RepL r ys B'
end
end
section
variable {K : PySem.W.Frag} {W W' : Addr → Prop} {H H' : Hp}
theorem TabsAt.kp (p : Kp W H W' H') : ∀ {qs : List Str} {A : List Addr}, (∀ a ∈ A, ∀ o, H a = some o → H' a = some o) → TabsAt K W H qs A → TabsAt K W' H' qs A
  | [], A, _, h => h
  | q :: r, A, g, h => by
    obtain ⟨P, B, ps, rfl, h1, h2, h3, h4, h5⟩ := h
    refine ⟨P, B, ps, rfl, h1, g P (by simp) _ h2, h3, fun pos cv e => ?_, TabsAt.kp p (fun b hb => g b (by simp [hb])) h5⟩
    obtain ⟨c, e1, e2, e3⟩ := h4 pos cv e
    exact ⟨c, e1, p c _ e3 e2⟩
theorem TabsAt.trk : ∀ {qs : List Str} {A : List Addr}, TabsAt K W H qs A → ∀ a ∈ A, ∃ o : MHO, H a = some o.1
  | [], A, h => by rw [show A = [] from h]; simp
  | q :: r, A, h => by
    obtain ⟨P, B, ps, rfl, h1, h2, h3, h4, h5⟩ := h
    intro b hb
    rcases List.mem_cons.mp hb with z | z
    · exact ⟨⟨.tbl ps, True.intro⟩, z ▸ h2⟩
    · exact TabsAt.trk h5 b z
mutual
/-- carried over: frozen parts by p, its own objects stand -/
theorem RepC.kp (p : Kp W H W' H') : ∀ (c : C) (v : V) (A : List Addr), (∀ a ∈ A, ∀ o, H a = some o → H' a = some o) → RepC K W H c v A → RepC K W' H' c v A
  | .frz d, v, A, _, h => ⟨h.1, Is.kp p d v h.2⟩
  | .own l, v, A, q, h => by
    obtain ⟨a, xs, B, e, eA, ha, r⟩ := h
    subst eA
    exact ⟨a, xs, B, e, rfl, q a (by simp) _ ha, RepL.kp p l xs B (fun b hb => q b (by simp [hb])) r⟩
  | .ownD l, v, A, q, h => by
    obtain ⟨a, xs, e, eA, ha, r⟩ := h
    subst eA
    exact ⟨a, xs, e, rfl, q a (by simp) _ ha, IsP.kp p l xs r⟩
  | .ownT l, v, A, q, h => by
    obtain ⟨a, xs, e, eA, ha, r⟩ := h
    subst eA
    exact ⟨a, xs, e, rfl, q a (by simp) _ ha, IsQ.kp p l xs r⟩
  | .tabs qs, v, A, q, h => ⟨h.1, h.2.kp p q⟩
theorem RepL.kp (p : Kp W H W' H') : ∀ (l : List C) (xs : List V) (A : List Addr), (∀ a ∈ A, ∀ o, H a = some o → H' a = some o) → RepL K W H l xs A → RepL K W' H' l xs A
  | [], xs, A, _, h => h
  | c :: r, xs, A, q, h => by
    obtain ⟨x, ys, B, B', e, eA, h1, h2⟩ := h
    subst eA
    exact ⟨x, ys, B, B', e, rfl, RepC.kp p c x B (fun a ha => q a (by simp [ha])) h1, RepL.kp p r ys B' (fun a ha => q a (by simp [ha])) h2⟩
end
mutual
/-- a cell read as plain data: its objects are given up -/
theorem RepC.is (hw : ∀ a, W' a → W a) : ∀ (c : C) (v : V) (A : List Addr), (∀ a ∈ A, ¬ W' a) → RepC K W H c v A → Is K W' H c.toD v
  | .frz d, v, A, _, h => Is.kp (Kp.less hw) d v h.2
  | .own l, v, A, q, h => by
    obtain ⟨a, xs, B, e, eA, ha, r⟩ := h
    subst eA
    exact ⟨a, xs, e, ha, q a (by simp), RepL.is hw l xs B (fun b hb => q b (by simp [hb])) r⟩
  | .ownD l, v, A, q, h => by
    obtain ⟨a, xs, e, eA, ha, r⟩ := h
    subst eA
    exact ⟨a, xs, e, ha, q a (by simp), IsP.kp (Kp.less hw) l xs r⟩
  | .ownT l, v, A, q, h => by
    obtain ⟨a, xs, e, eA, ha, r⟩ := h
    subst eA
    exact ⟨a, xs, e, ha, q a (by simp), IsQ.kp (Kp.less hw) l xs r⟩
  | .tabs qs, v, A, q, h => h.1
theorem RepL.is (hw : ∀ a, W' a → W a) : ∀ (l : List C) (xs : List V) (A : List Addr), (∀ a ∈ A, ¬ W' a) → RepL K W H l xs A → IsL K W' H (C.toDs l) xs
  | [], xs, A, _, h => h.1
  | c :: r, xs, A, q, h => by
    obtain ⟨x, ys, B, B', e, eA, h1, h2⟩ := h
    subst eA
    exact ⟨x, ys, e, RepC.is hw c x B (fun a ha => q a (by simp [ha])) h1, RepL.is hw r ys B' (fun a ha => q a (by simp [ha])) h2⟩
end
mutual
/-- its objects are tracked -/
theorem RepC.trk : ∀ (c : C) (v : V) (A : List Addr), RepC K W H c v A → ∀ a ∈ A, ∃ o : MHO, H a = some o.1
  | .frz d, v, A, h => by rw [h.1]; simp
  | .own l, v, A, h => by
    obtain ⟨a, xs, B, e, eA, ha, r⟩ := h
    subst eA
    intro b hb
    rcases List.mem_cons.mp hb with z | z
    · exact ⟨⟨.lst xs, True.intro⟩, z ▸ ha⟩
    · exact RepL.trk l xs B r b z
  | .ownD l, v, A, h => by
    obtain ⟨a, xs, e, eA, ha, r⟩ := h
    subst eA
    intro b hb
    rw [List.mem_singleton.mp hb]
    exact ⟨⟨.dK xs, True.intro⟩, ha⟩
  | .ownT l, v, A, h => by
    obtain ⟨a, xs, e, eA, ha, r⟩ := h
    subst eA
    intro b hb
    rw [List.mem_singleton.mp hb]
    exact ⟨⟨.dT xs, True.intro⟩, ha⟩
  | .tabs qs, v, A, h => h.2.trk
theorem RepL.trk : ∀ (l : List C) (xs : List V) (A : List Addr), RepL K W H l xs A → ∀ a ∈ A, ∃ o : MHO, H a = some o.1
  | [], xs, A, h => by rw [h.2]; simp
  | c :: r, xs, A, h => by
    obtain ⟨x, ys, B, B', e, eA, h1, h2⟩ := h
    subst eA
    intro b hb
    rcases List.mem_append.mp hb with z | z
    · exact RepC.trk c x B h1 b z
    · exact RepL.trk r ys B' h2 b z
end
theorem RepL.append : ∀ {l l' : List C} {xs ys : List V} {A B : List Addr}, RepL K W H l xs A → RepL K W H l' ys B → RepL K W H (l ++ l') (xs ++ ys) (A ++ B)
  | [], l', xs, ys, A, B, h, h' => by rw [h.1, h.2]; exact h'
  | c :: r, l', xs, ys, A, B, h, h' => by
    obtain ⟨x, zs, A1, A2, e1, e2, h1, h2⟩ := h
    exact ⟨x, zs ++ ys, A1, A2 ++ B, by rw [e1]; rfl, by rw [e2, List.append_assoc], h1, RepL.append h2 h'⟩
theorem RepL.one {c : C} {x : V} {A : List Addr} (h : RepC K W H c x A) : RepL K W H [c] [x] A := ⟨x, [], A, [], rfl, by simp, h, rfl, rfl⟩
theorem RepL.length : ∀ {l : List C} {xs : List V} {A : List Addr}, RepL K W H l xs A → xs.length = l.length
  | [], xs, A, h => by rw [h.1]; rfl
  | c :: r, xs, A, h => by
    obtain ⟨x, zs, A1, A2, e1, e2, h1, h2⟩ := h
    rw [e1, List.length_cons, List.length_cons, RepL.length h2]
theorem RepL.frz : ∀ {l : List D} {xs : List V}, IsL K W H l xs → RepL K W H (l.map C.frz) xs []
  | [], xs, h => ⟨h, rfl⟩
  | d :: r, xs, h => by
    obtain ⟨x, ys, e, h1, h2⟩ := h
    exact ⟨x, ys, [], [], e, rfl, ⟨rfl, h1⟩, RepL.frz h2⟩
/-- split at a place -/
theorem RepL.at : ∀ {l : List C} {xs : List V} {A : List Addr} {i : Nat} {c : C}, RepL K W H l xs A → l[i]? = some c →
    ∃ x A1 A2 A3, xs[i]? = some x ∧ A = A1 ++ (A2 ++ A3) ∧ RepC K W H c x A2 ∧
      ∀ (W' : Addr → Prop) (H' : Hp) (c' : C) (x' : V) (A2' : List Addr), Kp W H W' H' → (∀ a ∈ A1 ++ A3, ∀ o, H a = some o → H' a = some o) → RepC K W' H' c' x' A2' → RepL K W' H' (l.set i c') (xs.set i x') (A1 ++ (A2' ++ A3))
  | [], xs, A, i, c, h, e => by simp at e
  | c0 :: r, xs, A, 0, c, h, e => by
    obtain ⟨x, zs, B, B', e1, e2, h1, h2⟩ := h
    simp at e
    subst e
    refine ⟨x, [], B, B', by rw [e1]; rfl, e2, h1, fun W' H' c' x' A2' p q h' => ?_⟩
    rw [e1]
    exact ⟨x', zs, A2', B', rfl, rfl, h', RepL.kp p r zs B' (fun a ha => q a (by simp [ha])) h2⟩
  | c0 :: r, xs, A, i + 1, c, h, e => by
    obtain ⟨x, zs, B, B', e1, e2, h1, h2⟩ := h
    obtain ⟨y, A1, A2, A3, g1, g2, g3, g4⟩ := RepL.at (i := i) h2 (by simpa using e)
    refine ⟨y, B ++ A1, A2, A3, by rw [e1]; simpa using g1, by rw [e2, g2]; simp, g3, fun W' H' c' x' A2' p q h' => ?_⟩
    rw [e1]
    exact ⟨x, zs.set i x', B, A1 ++ (A2' ++ A3), rfl, by simp, RepC.kp p c0 x B (fun a ha => q a (by simp [ha])) h1, g4 W' H' c' x' A2' p (fun a ha => q a (by
      rcases List.mem_append.mp ha with z | z <;> simp [z])) h'⟩
end
end PL
namespace PL
open PySem PySem.Spec PyProof.Rows L2
abbrev Slots := List (Option C)
section
variable (K : PySem.W.Frag) (W : Addr → Prop) (H : Hp)
/-- a slot: nothing is known, or a cell -/
def RepO : Option C → Option V → List Addr → Prop
  | none, _, A => A = []
  | some c, o, A => ∃ x, o = some x ∧ RepC K W H c x A
def RepE : Slots → List (Option V) → List Addr → Prop
  | [], σ, A => σ = [] ∧ A = []
  | oc :: r, σ, A => ∃ o τ A1 A2, σ = o :: τ ∧ A = A1 ++ A2 ∧ RepO K W H oc o A1 ∧ RepE r τ A2
end
section
variable {K : PySem.W.Frag} {W W' : Addr → Prop} {H H' : Hp}
theorem RepO.kp (p : Kp W H W' H') {oc : Option C} {o : Option V} {A : List Addr} (q : ∀ a ∈ A, ∀ o, H a = some o → H' a = some o) (h : RepO K W H oc o A) : RepO K W' H' oc o A := by
  cases oc with
  | none => exact h
  | some c =>
    obtain ⟨x, e, h⟩ := h
    exact ⟨x, e, RepC.kp p c x A q h⟩
theorem RepO.trk {oc : Option C} {o : Option V} {A : List Addr} (h : RepO K W H oc o A) : ∀ a ∈ A, ∃ u : MHO, H a = some u.1 := by
  cases oc with
  | none => rw [show A = [] from h]; simp
  | some c =>
    obtain ⟨x, e, h⟩ := h
    exact RepC.trk c x A h
theorem RepE.kp (p : Kp W H W' H') : ∀ {env : Slots} {σ : List (Option V)} {A : List Addr}, (∀ a ∈ A, ∀ o, H a = some o → H' a = some o) → RepE K W H env σ A → RepE K W' H' env σ A
  | [], σ, A, _, h => h
  | oc :: r, σ, A, q, h => by
    obtain ⟨o, τ, A1, A2, e1, e2, h1, h2⟩ := h
    subst e2
    exact ⟨o, τ, A1, A2, e1, rfl, h1.kp p (fun a ha => q a (by simp [ha])), RepE.kp p (fun a ha => q a (by simp [ha])) h2⟩
theorem RepE.trk : ∀ {env : Slots} {σ : List (Option V)} {A : List Addr}, RepE K W H env σ A → ∀ a ∈ A, ∃ u : MHO, H a = some u.1
  | [], σ, A, h => by rw [h.2]; simp
  | oc :: r, σ, A, h => by
    obtain ⟨o, τ, A1, A2, e1, e2, h1, h2⟩ := h
    subst e2
    intro b hb
    rcases List.mem_append.mp hb with z | z
    · exact h1.trk b z
    · exact RepE.trk h2 b z
theorem RepE.length : ∀ {env : Slots} {σ : List (Option V)} {A : List Addr}, RepE K W H env σ A → σ.length = env.length
  | [], σ, A, h => by rw [h.1]; rfl
  | oc :: r, σ, A, h => by
    obtain ⟨o, τ, A1, A2, e1, e2, h1, h2⟩ := h
    rw [e1, List.length_cons, List.length_cons, RepE.length h2]
/-- at a slot: its own objects lie in the middle; it may be put anew -/
theorem RepE.at : ∀ {env : Slots} {σ : List (Option V)} {A : List Addr} {i : Nat} {oc : Option C}, RepE K W H env σ A → env[i]? = some oc →
    ∃ o A1 A2 A3, σ[i]? = some o ∧ A = A1 ++ (A2 ++ A3) ∧ RepO K W H oc o A2 ∧
      ∀ (W' : Addr → Prop) (H' : Hp) (oc' : Option C) (o' : Option V) (A2' : List Addr), Kp W H W' H' → (∀ a ∈ A1 ++ A3, ∀ o, H a = some o → H' a = some o) → RepO K W' H' oc' o' A2' → RepE K W' H' (env.set i oc') (σ.set i o') (A1 ++ (A2' ++ A3))
  | [], σ, A, i, oc, h, e => by simp at e
  | c0 :: r, σ, A, 0, oc, h, e => by
    obtain ⟨o, τ, B, B', e1, e2, h1, h2⟩ := h
    simp at e
    subst e
    refine ⟨o, [], B, B', by rw [e1]; rfl, e2, h1, fun W' H' c' x' A2' p q h' => ?_⟩
    rw [e1]
    exact ⟨x', τ, A2', B', rfl, rfl, h', RepE.kp p (fun a ha => q a (by simp [ha])) h2⟩
  | c0 :: r, σ, A, i + 1, oc, h, e => by
    obtain ⟨o, τ, B, B', e1, e2, h1, h2⟩ := h
    obtain ⟨y, A1, A2, A3, g1, g2, g3, g4⟩ := RepE.at (i := i) h2 (by simpa using e)
    refine ⟨y, B ++ A1, A2, A3, by rw [e1]; simpa using g1, by rw [e2, g2]; simp, g3, fun W' H' c' x' A2' p q h' => ?_⟩
    rw [e1]
    exact ⟨o, τ.set i x', B, A1 ++ (A2' ++ A3), rfl, by simp, h1.kp p (fun a ha => q a (by simp [ha])), g4 W' H' c' x' A2' p (fun a ha => q a (by
      rcases List.mem_append.mp ha with z | z <;> simp [z])) h'⟩
end
/-- the slots stand for env; O: what they alone hold; B: what must be left alone -/
structure Stt (K : PySem.W.Frag) (B : Addr → Prop) (H : Hp) (σ : List (Option V)) (env : Slots) (O : List Addr) : Prop where
  rep : RepE K (fun a => B a ∨ a ∈ O) H env σ O
  nd : O.Nodup
  dj : ∀ a ∈ O, ¬ B a
  tr : ∀ a, B a → ∃ u : MHO, H a = some u.1
/-- what was not the slots' own stands, and is no one's own -/
abbrev Frm (O : List Addr) (H : Hp) (A O' : List Addr) (H' : Hp) : Prop := Kp (fun a => a ∈ O) H (fun a => a ∈ A ∨ a ∈ O') H'
/-- behind an expression: its value v stands for c, whose own objects are A -/
structure Res (K : PySem.W.Frag) (B : Addr → Prop) (O : List Addr) (H : Hp) (σ : List (Option V)) (c : C) (env : Slots) (v : V) (H' : Hp) (A O' : List Addr) : Prop where
  rep : RepC K (fun a => (B a ∨ a ∈ A) ∨ a ∈ O') H' c v A
  stt : Stt K (fun a => B a ∨ a ∈ A) H' σ env O'
  nd : A.Nodup
  dj : ∀ a ∈ A, ¬ B a
  frm : Frm O H A O' H'
theorem Stt.less {K : PySem.W.Frag} {B B' : Addr → Prop} {H : Hp} {σ : List (Option V)} {env : Slots} {O : List Addr} (s : Stt K B H σ env O) (h : ∀ a, B' a → B a) : Stt K B' H σ env O :=
  ⟨RepE.kp (Kp.less fun a z => z.imp (h a) id) (fun _ _ _ e => e) s.rep, s.nd, fun a ha z => s.dj a ha (h a z), fun a z => s.tr a (h a z)⟩
/-- the heap has grown; B may take new things -/
theorem Stt.grow {K : PySem.W.Frag} {B B' : Addr → Prop} {H H' : Hp} {σ : List (Option V)} {env : Slots} {O : List Addr} (s : Stt K B H σ env O) (g : ∀ a o, H a = some o → H' a = some o)
    (hb : ∀ a, B' a → B a ∨ H a = none) (ht : ∀ a, B' a → ∃ u : MHO, H' a = some u.1) : Stt K B' H' σ env O := by
  have tro := RepE.trk s.rep
  refine ⟨RepE.kp (fun a o hw ha => ⟨g a o ha, fun z => ?_⟩) (fun a _ o e => g a o e) s.rep, s.nd, fun a ha z => ?_, ht⟩
  · rcases z with z | z
    · rcases hb a z with q | q
      · exact hw (.inl q)
      · rw [q] at ha; cases ha
    · exact hw (.inr z)
  · rcases hb a z with q | q
    · exact s.dj a ha q
    · obtain ⟨u, e⟩ := tro a ha
      rw [q] at e; cases e
structure Exn where
  cls : Str
  fs : Option (List (Str × D))
inductive Out (α : Type) where
  | ok (a : α) (e : Slots) | err (x : Exn) (e : Slots) | no
def Out.bind {α β : Type} (o : Out α) (k : α → Slots → Out β) : Out β := match o with
  | .ok a e => k a e
  | .err x e => .err x e
  | .no => .no
abbrev M (α : Type) := Slots → Out α
inductive SOut where
  | nx (e : Slots) | rt (c : C) (e : Slots) | bk (e : Slots) | ct (e : Slots) | err (x : Exn) (e : Slots) | no
abbrev SS := Slots → SOut
def IsX (K : PySem.W.Frag) (W : Addr → Prop) (H : Hp) : List (Str × D) → List (Str × V) → Prop
  | [], xs => xs = []
  | (k, d) :: r, xs => ∃ x ys, xs = (k, x) :: ys ∧ Is K W H d x ∧ IsX K W H r ys
/-- an exception -/
structure XRes (K : PySem.W.Frag) (mg : Str → Option Value) (B : Addr → Prop) (O : List Addr) (H : Hp) (σ : List (Option V)) (x : Exn) (env : Slots) (cls : Value) (d : Option Addr) (H' : Hp) (O' : List Addr) : Prop where
  cls : mg x.cls = some cls
  fs : match x.fs with
    | none => d = none
    | some fs => ∃ dd vs, d = some dd ∧ H' dd = some (.xd vs) ∧ ¬ B dd ∧ dd ∉ O' ∧ IsX K (fun a => B a ∨ a ∈ O') H' fs vs
  stt : Stt K B H' σ env O'
  frm : Frm O H [] O' H'
section
variable (X : Cx) (w : WX)
def rdE (f : M C) : TE := fun σ H Q => ∃ B env O, Stt X.K B H σ env O ∧ match f env with
  | .ok c env' => ∀ v H' A O', Res X.K B O H σ c env' v H' A O' → Q v H'
  | .err x env' => ∀ cls d H' O', XRes X.K X.mg B O H σ x env' cls d H' O' → w cls d σ H'
  | .no => False
def rdT (f : M Bool) : TT := fun σ H Q => ∃ B env O, Stt X.K B H σ env O ∧ match f env with
  | .ok b env' => ∀ H' O', Stt X.K B H' σ env' O' → Frm O H [] O' H' → Q b H'
  | .err x env' => ∀ cls d H' O', XRes X.K X.mg B O H σ x env' cls d H' O' → w cls d σ H'
  | .no => False
end
abbrev EOk (X : Cx) (w : WX) (e : Expr) (f : M C) : Prop := PE X e (rdE X w f)
abbrev TOk (X : Cx) (w : WX) (e : Expr) (f : M Bool) : Prop := PT X e (rdT X w f)
theorem _root_.L2.PE.imp {X : Cx} {e : Expr} {t t' : TE} (h : PE X e t) (i : ∀ σ H Q, t' σ H Q → t σ H Q) : PE X e t' := ⟨fun pins s σ H Q I hw => h.run pins s σ H Q I (i σ H Q hw)⟩
theorem _root_.L2.PT.imp {X : Cx} {e : Expr} {t t' : TT} (h : PT X e t) (i : ∀ σ H Q, t' σ H Q → t σ H Q) : PT X e t' := ⟨fun pins s σ H Q I hw => h.run pins s σ H Q I (i σ H Q hw)⟩
theorem _root_.L2.PA.imp {X : Cx} {es : List Expr} {t t' : TA} (h : PA X es t) (i : ∀ σ H Q, t' σ H Q → t σ H Q) : PA X es t' := ⟨fun pos pins s σ H Q I hw => h.run pos pins s σ H Q I (i σ H Q hw)⟩
theorem _root_.L2.PS.imp {X : Cx} {e : Stmt} {t t' : TS} (h : PS X e t) (i : ∀ D σ H, t' D σ H → t D σ H) : PS X e t' := ⟨fun pins s σ H D I hw => h.run pins s σ H D I (i D σ H hw)⟩
theorem _root_.L2.PSs.imp {X : Cx} {e : List Stmt} {t t' : TS} (h : PSs X e t) (i : ∀ D σ H, t' D σ H → t D σ H) : PSs X e t' := ⟨fun pins s σ H D I hw => h.run pins s σ H D I (i D σ H hw)⟩
section
variable {X : Cx} {w : WX} {K : PySem.W.Frag} {mg : Str → Option Value} {B : Addr → Prop} {O O1 O2 A A1 A2 : List Addr} {H H1 H2 H3 : Hp} {σ : List (Option V)} {env e1 e2 : Slots} {c c1 c2 : C} {v v1 v2 : V}
/-- two frames in a row: A1 (told as B's) is kept, then given up -/
theorem Frm.seq (f1 : Frm O H A1 O1 H1) (f2 : Frm O1 H1 A2 O2 H2) : Kp (fun a => a ∈ O) H (fun a => a ∈ A1 ∨ a ∈ A2 ∨ a ∈ O2) H2 := fun a o w h => by
  obtain ⟨h1, n1⟩ := f1 a o w h
  obtain ⟨h2, n2⟩ := f2 a o (fun z => n1 (.inr z)) h1
  exact ⟨h2, fun z => z.elim (fun z => n1 (.inl z)) n2⟩
theorem Frm.seq' (f1 : Frm O H A1 O1 H1) (f2 : Frm O1 H1 A2 O2 H2) : Frm O H A2 O2 H2 := fun a o w h => by
  obtain ⟨h1, n1⟩ := f1.seq f2 a o w h
  exact ⟨h1, fun z => n1 (.inr z)⟩
/-- a value that was held while another thing ran -/
theorem Res.held (r : Res K B O H σ c1 e1 v1 H1 A1 O1) (s2 : Stt K (fun a => B a ∨ a ∈ A1) H2 σ e2 O2) (f2 : Frm O1 H1 A2 O2 H2) (nb : ∀ a ∈ A2, ¬ (B a ∨ a ∈ A1)) :
    RepC K (fun a => ((B a ∨ a ∈ A1) ∨ a ∈ A2) ∨ a ∈ O2) H2 c1 v1 A1 := by
  refine RepC.kp (fun a o hw ha => ?_) _ _ _ (fun a ha o e => ?_) r.rep
  · obtain ⟨q, n⟩ := f2 a o (fun z => hw (.inr z)) ha
    refine ⟨q, fun z => ?_⟩
    rcases z with (z | z) | z
    · exact hw (.inl z)
    · exact n (.inl z)
    · exact n (.inr z)
  · exact (f2 a o (fun z => r.stt.dj a z (.inr ha)) e).1
theorem Res.heldIs (r : Res K B O H σ c1 e1 v1 H1 A1 O1) (s2 : Stt K (fun a => B a ∨ a ∈ A1) H2 σ e2 O2) (f2 : Frm O1 H1 A2 O2 H2) (nb : ∀ a ∈ A2, ¬ (B a ∨ a ∈ A1)) :
    Is K (fun a => B a ∨ a ∈ O2) H2 c1.toD v1 :=
  RepC.is (fun a z => z.elim (fun z => .inl (.inl (.inl z))) .inr) _ _ _ (fun a ha z => z.elim (r.dj a ha) fun z => s2.dj a z (.inr ha)) (r.held s2 f2 nb)
theorem Res.is (r : Res K B O H σ c e1 v H1 A O1) : Is K (fun a => B a ∨ a ∈ O1) H1 c.toD v :=
  RepC.is (fun a z => z.elim (fun z => .inl (.inl z)) .inr) _ _ _ (fun a ha z => z.elim (r.dj a ha) fun z => r.stt.dj a z (.inr ha)) r.rep
/-- a new value over a heap that has grown -/
structure New (K : PySem.W.Frag) (W : Addr → Prop) (H : Hp) (c : C) (v : V) (H' : Hp) (A : List Addr) : Prop where
  grow : ∀ a o, H a = some o → H' a = some o
  rep : RepC K (fun a => W a ∨ a ∈ A) H' c v A
  nd : A.Nodup
  fresh : ∀ a ∈ A, H a = none
theorem New.of_is {W : Addr → Prop} {d : D} (h : Is K W H d v) : New K W H (.frz d) v H [] := ⟨fun _ _ e => e, ⟨rfl, Is.kp (Kp.less fun a z => z.elim id fun z => nomatch z) _ _ h⟩, .nil, fun _ z => nomatch z⟩
theorem Res.new (s : Stt K B H1 σ env O1) (f : Frm O H [] O1 H1) (n : New K (fun a => B a ∨ a ∈ O1) H1 c v H2 A) : Res K B O H σ c env v H2 A O1 := by
  have nb : ∀ a ∈ A, ¬ B a := fun a ha z => by
    obtain ⟨u, e⟩ := s.tr a z
    rw [n.fresh a ha] at e; cases e
  have no : ∀ a ∈ A, a ∉ O1 := fun a ha z => by
    obtain ⟨u, e⟩ := RepE.trk s.rep a z
    rw [n.fresh a ha] at e; cases e
  refine ⟨?_, ?_, n.nd, nb, fun a o hw ha => ?_⟩
  · refine RepC.kp (Kp.less fun a z => ?_) _ _ _ (fun _ _ _ e => e) n.rep
    rcases z with (z | z) | z
    · exact .inl (.inl z)
    · exact .inr z
    · exact .inl (.inr z)
  · refine s.grow n.grow (fun a z => z.imp id (n.fresh a)) fun a z => ?_
    rcases z with z | z
    · obtain ⟨u, e⟩ := s.tr a z
      exact ⟨u, n.grow a u e⟩
    · exact RepC.trk _ _ _ n.rep a z
  · obtain ⟨h1, n1⟩ := f a o hw ha
    refine ⟨n.grow a o h1, fun z => ?_⟩
    rcases z with z | z
    · rw [n.fresh a z] at h1; cases h1
    · exact n1 (.inr z)
/-- an exception behind a held value -/
theorem XRes.under {x : Exn} {cls : Value} {d : Option Addr} (f1 : Frm O H A1 O1 H1) (x2 : XRes K mg (fun a => B a ∨ a ∈ A1) O1 H1 σ x e2 cls d H2 O2) : XRes K mg B O H σ x e2 cls d H2 O2 := by
  refine ⟨x2.cls, ?_, x2.stt.less fun a z => .inl z, f1.seq' x2.frm⟩
  have q := x2.fs
  cases e : x.fs with
  | none => rw [e] at q; exact q
  | some fs =>
    rw [e] at q
    obtain ⟨dd, vs, h1, h2, h3, h4, h5⟩ := q
    refine ⟨dd, vs, h1, h2, fun z => h3 (.inl z), h4, ?_⟩
    have go : ∀ (l : List (Str × D)) (xs : List (Str × V)), IsX K (fun a => (B a ∨ a ∈ A1) ∨ a ∈ O2) H2 l xs → IsX K (fun a => B a ∨ a ∈ O2) H2 l xs := by
      intro l
      induction l with
      | nil => intro xs h; exact h
      | cons p r ih =>
        intro xs h
        obtain ⟨y, ys, g1, g2, g3⟩ := h
        exact ⟨y, ys, g1, Is.kp (Kp.less fun a z => z.imp .inl id) _ _ g2, ih ys g3⟩
    exact go fs vs h5
theorem Frm.refl : Frm O H [] O H := fun a o w h => ⟨h, fun z => z.elim (fun z => nomatch z) w⟩
def eV (i : Nat) : M C := fun env => match env[i]? with
  | some (some (.frz d)) => .ok (.frz d) env
  | some (some c) => .ok (.frz c.toD) (env.set i (some (.frz c.toD)))
  | _ => .no
theorem set_same {α : Type} : ∀ {l : List α} {i : Nat} {x : α}, l[i]? = some x → l.set i x = l
  | [], i, x, h => rfl
  | y :: r, 0, x, h => by simp at h; simp [h]
  | y :: r, i + 1, x, h => by
    simp only [List.set_cons_succ, List.cons.injEq, true_and]
    exact set_same (by simpa using h)
/-- a slot's cell given up -/
theorem Stt.give {i : Nat} (s : Stt K B H σ env O) (e : env[i]? = some (some c)) : ∃ x O', σ[i]? = some (some x) ∧ Stt K B H σ (env.set i (some (.frz c.toD))) O' ∧ Frm O H [] O' H ∧ Is K (fun a => B a ∨ a ∈ O') H c.toD x := by
  obtain ⟨o, A1, A2, A3, h1, h2, h3, h4⟩ := RepE.at s.rep e
  obtain ⟨x, rfl, hc⟩ := h3
  have nd := s.nd
  rw [h2] at nd
  have sub : ∀ a, a ∈ A1 ++ A3 → a ∈ O := fun a ha => by rw [h2]; simp at ha ⊢; rcases ha with z | z <;> simp [z]
  have n2 : ∀ a ∈ A2, a ∉ A1 ++ A3 := fun a ha z => by
    have q1 := (List.nodup_append.mp nd).2.2
    have q2 := (List.nodup_append.mp (List.nodup_append.mp nd).2.1).2.2
    rcases List.mem_append.mp z with z | z
    · exact q1 a z a (by simp [ha]) rfl
    · exact q2 a ha a z rfl
  have his : Is K (fun a => B a ∨ a ∈ A1 ++ A3) H c.toD x := RepC.is (fun a z => z.imp id (sub a)) _ _ _ (fun a ha z => z.elim (s.dj a (by rw [h2]; simp [ha])) (n2 a ha)) hc
  refine ⟨x, A1 ++ A3, h1, ⟨?_, ?_, fun a ha => s.dj a (sub a ha), s.tr⟩, fun a o hw ha => ⟨ha, fun z => z.elim (fun z => nomatch z) fun z => hw (sub a z)⟩, his⟩
  · have q := h4 (fun a => B a ∨ a ∈ A1 ++ A3) H (some (.frz c.toD)) (some x) [] (Kp.less fun a z => z.imp id (sub a)) (fun _ _ _ e => e) ⟨x, rfl, rfl, his⟩
    rw [set_same h1] at q
    simpa using q
  · have q := List.nodup_append.mp nd
    have q2 := List.nodup_append.mp q.2.1
    exact List.nodup_append.mpr ⟨q.1, q2.2.1, fun a ha b hb => q.2.2 a ha b (by simp [hb])⟩
theorem e_V {i : Nat} {x : Str} {pos : Pos} (hN : X.N[i]? = some x) (hv : Vis X.env.scope x) (hd : (x == ("__debug__" : Str)) = false := by decide) (hcd : (x == ("__classdict__" : Str)) = false := by decide) :
    EOk X w (.Name x pos) (eV i) := by
  refine (pe_var (i := i) hN hv hd hcd).imp fun σ H Q h => ?_
  obtain ⟨B, env, O, s, h⟩ := h
  have key : ∀ c, env[i]? = some (some c) → (∀ v O', Res X.K B O H σ (.frz c.toD) (env.set i (some (.frz c.toD))) v H [] O' → Q v H) → tVar i σ H Q := fun c e k => by
    obtain ⟨x, O', h1, h2, h3, h4⟩ := s.give e
    exact ⟨x, h1, k x O' (Res.new h2 h3 (New.of_is h4))⟩
  unfold eV at h
  cases e : env[i]? with
  | none => rw [e] at h; exact h.elim
  | some oc =>
    cases oc with
    | none => rw [e] at h; exact h.elim
    | some c =>
      refine key c e fun v O' r => ?_
      rw [e] at h
      cases c with
      | frz d =>
        rw [show (C.frz d).toD = d from by simp [C.toD], set_same e] at r
        exact h v _ _ _ r
      | own l => exact h v _ _ _ r
      | ownD l => exact h v _ _ _ r
      | ownT l => exact h v _ _ _ r
      | tabs qs => exact h v _ _ _ r
/-- a rule of the layer serves an operation on plain data -/
def OpS (K : PySem.W.Frag) (r : R2) (op : D → D → Option C) : Prop := ∀ (W : Addr → Prop) (H : Hp) (x y : V) (d1 d2 : D) (c : C) (Q : VK), (∀ a, W a → ∃ u : MHO, H a = some u.1) → Is K W H d1 x → Is K W H d2 y → op d1 d2 = some c →
  (∀ v H' A, New K W H c v H' A → Q v H') → r x y H Q
def eBin (op : D → D → Option C) (f g : M C) : M C := fun env => (f env).bind fun c e1 => (g e1).bind fun c' e2 => match op c.toD c'.toD with
  | some r => .ok r e2
  | none => .no
theorem Stt.trk (s : Stt K B H σ env O) : ∀ a, B a ∨ a ∈ O → ∃ u : MHO, H a = some u.1 := fun a z => z.elim (s.tr a) (RepE.trk s.rep a)
theorem tOp_of {r : R2} {op : D → D → Option C} {f g : M C} (h : OpS X.K r op) (σ : L2.St) (H : Hp) (Q : VK) (hq : rdE X w (eBin op f g) σ H Q) : tOp r (rdE X w f) (rdE X w g) σ H Q := by
  obtain ⟨B, env, O, s, hq⟩ := hq
  refine ⟨B, env, O, s, ?_⟩
  unfold eBin at hq
  cases ef : f env with
  | no => rw [ef] at hq; exact hq.elim
  | err x e => rw [ef] at hq; exact hq
  | ok c e1 =>
    rw [ef] at hq
    intro v H1 A O1 r1
    refine ⟨fun a => B a ∨ a ∈ A, e1, O1, r1.stt, ?_⟩
    simp only [Out.bind] at hq
    cases eg : g e1 with
    | no => rw [eg] at hq; exact hq.elim
    | err x e => 
      rw [eg] at hq
      exact fun cls d H' O' x2 => hq cls d H' O' (XRes.under r1.frm x2)
    | ok c' e2 =>
      rw [eg] at hq
      intro v' H2 A' O2 r2
      simp only [] at hq
      cases eo : op c.toD c'.toD with
      | none => rw [eo] at hq; exact hq.elim
      | some cr =>
        rw [eo] at hq
        have s2 : Stt X.K (fun a => B a ∨ a ∈ A) H2 σ e2 O2 := r2.stt.less fun a z => .inl z
        have s3 : Stt X.K B H2 σ e2 O2 := s2.less fun a z => .inl z
        have i1 := r1.heldIs s2 r2.frm r2.dj
        have i2 : Is X.K (fun a => B a ∨ a ∈ O2) H2 c'.toD v' := Is.kp (Kp.less fun a z => z.imp .inl id) _ _ r2.is
        refine h _ H2 v v' _ _ cr Q s3.trk i1 i2 eo fun u H' A'' n => hq u H' A'' O2 (Res.new s3 (r1.frm.seq' ?_) n)
        exact fun a o hw ha => let ⟨q1, q2⟩ := r2.frm a o hw ha; ⟨q1, fun z => z.elim (fun z => nomatch z) fun z => q2 (.inr z)⟩
theorem e_bin {a b : Expr} {o : Operator} {f g : M C} {r : R2} {op : D → D → Option C} {pos : Pos} (ho : OpR X (binaryOp o) r) (h : OpS X.K r op) (ha : EOk X w a f) (hb : EOk X w b g) : EOk X w (.BinOp a o b pos) (eBin op f g) :=
  (pe_op ho ha hb).imp (tOp_of h)
end
end PL
namespace PL
open PySem PySem.Spec PyProof.Rows L2
abbrev P := Slots → Option D
abbrev PB := Slots → Option Bool
def NoW : Addr → Prop := fun _ => False
abbrev Grw (H H' : Hp) : Prop := ∀ a o, H a = some o → H' a = some o
section
variable (X : Cx)
/-- a pure expression: the slots stay, the heap may grow -/
def rdP (p : P) : TE := fun σ H Q => ∃ B env O, Stt X.K B H σ env O ∧ ∃ d, p env = some d ∧ ∀ v H', Grw H H' → Is X.K (fun a => B a ∨ a ∈ O) H' d v → Q v H'
/-- the same of a value that may be a slot's own -/
def rdB (p : P) : TE := fun σ H Q => ∃ B env O, Stt X.K B H σ env O ∧ ∃ d, p env = some d ∧ ∀ v H', Grw H H' → Is X.K NoW H' d v → Q v H'
def rdQ (p : PB) : TT := fun σ H Q => ∃ B env O, Stt X.K B H σ env O ∧ ∃ b, p env = some b ∧ ∀ H', Grw H H' → Q b H'
end
abbrev POk (X : Cx) (e : Expr) (p : P) : Prop := PE X e (rdP X p)
abbrev BOk (X : Cx) (e : Expr) (p : P) : Prop := PE X e (rdB X p)
abbrev QOk (X : Cx) (e : Expr) (p : PB) : Prop := PT X e (rdQ X p)
theorem Is.noW {K : PySem.W.Frag} {W : Addr → Prop} {H : Hp} {d : D} {v : V} (h : Is K W H d v) : Is K NoW H d v := Is.kp (Kp.less fun _ z => z.elim) _ _ h
theorem IsL.noW {K : PySem.W.Frag} {W : Addr → Prop} {H : Hp} {d : List D} {v : List V} (h : IsL K W H d v) : IsL K NoW H d v := IsL.kp (Kp.less fun _ z => z.elim) _ _ h
theorem Grw.refl {H : Hp} : Grw H H := fun _ _ e => e
theorem Grw.trans {H H1 H2 : Hp} (g : Grw H H1) (g' : Grw H1 H2) : Grw H H2 := fun a o e => g' a o (g a o e)
theorem Grw.kp {W : Addr → Prop} {H H' : Hp} (g : Grw H H') : Kp W H W H' := fun a o w e => ⟨g a o e, w⟩
theorem Is.grw {K : PySem.W.Frag} {W : Addr → Prop} {H H' : Hp} {d : D} {v : V} (g : Grw H H') (h : Is K W H d v) : Is K W H' d v := Is.kp g.kp _ _ h
theorem IsL.grw {K : PySem.W.Frag} {W : Addr → Prop} {H H' : Hp} {d : List D} {v : List V} (g : Grw H H') (h : IsL K W H d v) : IsL K W H' d v := IsL.kp g.kp _ _ h
theorem Stt.grw {K : PySem.W.Frag} {B : Addr → Prop} {H H' : Hp} {σ : List (Option V)} {env : Slots} {O : List Addr} (s : Stt K B H σ env O) (g : Grw H H') : Stt K B H' σ env O :=
  s.grow g (fun _ z => .inl z) fun a z => let ⟨u, e⟩ := s.tr a z; ⟨u, g a u e⟩
/-- scalars -/
def ofV : V → D
  | .non => .non
  | .bl b => .bl b
  | .int i => .int i
  | .str s => .str s
  | v => .opq v
theorem ofV_is (K : PySem.W.Frag) (W : Addr → Prop) (H : Hp) : ∀ (x : V), Is K W H (ofV x) x
  | .non => rfl | .bl b => rfl | .int i => rfl | .str s => rfl
  | .byt b => rfl | .flt b => rfl | .ref a => rfl | .ty n => rfl
@[simp] theorem ofV_non : ofV .non = .non := rfl
@[simp] theorem ofV_bl (b) : ofV (.bl b) = .bl b := rfl
@[simp] theorem ofV_int (i) : ofV (.int i) = .int i := rfl
@[simp] theorem ofV_str (i) : ofV (.str i) = .str i := rfl
section
variable {X : Cx} {w : WX} {H : Hp} {σ : L2.St} {e : Expr} {p q r : P} {pos : Pos}
theorem b_P (h : POk X e p) : BOk X e p := h.imp fun σ H Q h => by
  obtain ⟨B, env, O, s, d, hp, h⟩ := h
  exact ⟨B, env, O, s, d, hp, fun v H' g hv => h v H' g hv.noW⟩
/-- a pure expression among the others -/
def eP (p : P) : M C := fun env => match p env with | some d => .ok (.frz d) env | none => .no
theorem e_P (h : POk X e p) : EOk X w e (eP p) := h.imp fun σ H Q h => by
  obtain ⟨B, env, O, s, h⟩ := h
  unfold eP at h
  cases hp : p env with
  | none => rw [hp] at h; exact h.elim
  | some d =>
    rw [hp] at h
    exact ⟨B, env, O, s, d, hp, fun v H' g hv => h v H' [] O (Res.new s Frm.refl ⟨g, ⟨rfl, Is.kp (Kp.less fun a z => z.elim id fun z => nomatch z) _ _ hv⟩, .nil, fun _ z => nomatch z⟩)⟩
def tP (p : PB) : M Bool := fun env => match p env with | some b => .ok b env | none => .no
theorem t_P {p : PB} (h : QOk X e p) : TOk X w e (tP p) := h.imp fun σ H Q h => by
  obtain ⟨B, env, O, s, h⟩ := h
  unfold tP at h
  cases hp : p env with
  | none => rw [hp] at h; exact h.elim
  | some b =>
    rw [hp] at h
    exact ⟨B, env, O, s, b, hp, fun H' g => h H' O (s.grw g) fun a o hw ha => ⟨g a o ha, fun z => z.elim (fun z => nomatch z) hw⟩⟩
def pV (i : Nat) : P := fun env => match env[i]? with
  | some (some (.frz d)) => some d
  | _ => none
def bV (i : Nat) : P := fun env => match env[i]? with
  | some (some c) => some c.toD
  | _ => none
theorem p_V {i : Nat} {x : Str} (hN : X.N[i]? = some x) (hv : Vis X.env.scope x) (hd : (x == ("__debug__" : Str)) = false := by decide) (hcd : (x == ("__classdict__" : Str)) = false := by decide) :
    POk X (.Name x pos) (pV i) := (pe_var (i := i) hN hv hd hcd).imp fun σ H Q h => by
  obtain ⟨B, env, O, s, d, hp, h⟩ := h
  unfold pV at hp
  split at hp
  · rename_i d' e
    cases hp
    obtain ⟨x, O', h1, h2, h3, h4⟩ := s.give e
    obtain ⟨o, A1, A2, A3, g1, g2, ⟨y, g3, g4, g5⟩, _⟩ := RepE.at s.rep e
    exact ⟨y, by rw [g1, g3], h y H Grw.refl g5⟩
  · cases hp
def pK (d : D) : P := fun _ => some d
theorem p_C {d : D} {v : V} (h : PE X e (tC v)) (hi : ∀ K W H, Is K W H d v) : POk X e (pK d) := h.imp fun σ H Q h => by
  obtain ⟨B, env, O, s, d', hp, h⟩ := h
  cases hp
  exact h v H Grw.refl (hi _ _ _)
theorem p_int {i j} : POk X (.Constant (.int i) j pos) (pK (.int i)) := p_C pe_int fun _ _ _ => rfl
theorem p_bl {b j} : POk X (.Constant (.bool b) j pos) (pK (.bl b)) := p_C pe_bl fun _ _ _ => rfl
theorem p_non {j} : POk X (.Constant .none j pos) (pK .non) := p_C pe_non fun _ _ _ => rfl
theorem p_str {x j} : POk X (.Constant (.str x) j pos) (pK (.str x)) := p_C pe_str fun _ _ _ => rfl
theorem p_glob {x : Str} {v : V} {u : Value} (hg : Gl X x) (hm : X.mg x = some u) (r : RelV v u) (hd : (x == ("__debug__" : Str)) = false := by decide) : POk X (.Name x pos) (pK (ofV v)) := p_C (pe_glob hg hm r hd) fun _ _ _ => ofV_is _ _ _ v
def PureS (K : PySem.W.Frag) (r : R2) (op : D → D → Option V) : Prop := ∀ (H : Hp) (x y : V) (d1 d2 : D) (v : V) (Q : VK), Is K NoW H d1 x → Is K NoW H d2 y → op d1 d2 = some v → Q v H → r x y H Q
def pOp (op : D → D → Option V) (p q : P) : P := fun env => match p env, q env with
  | some a, some b => (op a b).map ofV
  | _, _ => none
theorem pOp_of {r : R2} {op : D → D → Option V} {pp qq : P} (h : PureS X.K r op) (σ : L2.St) (H : Hp) (Q : VK) (hq : rdP X (pOp op pp qq) σ H Q) : tOp r (rdB X pp) (rdB X qq) σ H Q := by
  obtain ⟨B, env, O, s, d, hp, hq⟩ := hq
  unfold pOp at hp
  cases e1 : pp env with
  | none => rw [e1] at hp; simp at hp
  | some d1 =>
    cases e2 : qq env with
    | none => rw [e1, e2] at hp; simp at hp
    | some d2 =>
      rw [e1, e2] at hp
      simp only [Option.map_eq_some_iff] at hp
      obtain ⟨v, hv, rfl⟩ := hp
      exact ⟨B, env, O, s, d1, e1, fun x H1 g1 hx => ⟨B, env, O, s.grw g1, d2, e2, fun y H2 g2 hy => h H2 x y d1 d2 v Q (hx.grw g2) hy hv (hq v H2 (g1.trans g2) (ofV_is _ _ _ v))⟩⟩
theorem p_op {a b : Expr} {o : Operator} {op : D → D → Option V} {r : R2} (ho : OpR X (binaryOp o) r) (h : PureS X.K r op) (ha : BOk X a p) (hb : BOk X b q) : POk X (.BinOp a o b pos) (pOp op p q) :=
  (pe_op ho ha hb).imp (pOp_of h)
theorem p_cmp {a b : Expr} {o : CmpOp} {op : D → D → Option V} {r : R2} (ho : OpR X (compareOp o) r) (h : PureS X.K r op) (hm : behindInMarks o b = false) (ha : BOk X a p) (hb : BOk X b q) : POk X (.Compare a [o] [b] pos) (pOp op p q) :=
  (pe_cmpR ho ha hb hm).imp (pOp_of h)
/-- as a test -/
def qOf (p : P) : PB := fun env => match p env with | some (.bl b) => some b | _ => none
theorem qOf_of {t : TE} (ht : ∀ σ H Q, rdP X p σ H Q → t σ H Q) (σ : L2.St) (H : Hp) (Q : Bool → Hp → Prop) (h : rdQ X (qOf p) σ H Q) : tTest t σ H Q := by
  obtain ⟨B, env, O, s, b, hp, h⟩ := h
  unfold qOf at hp
  split at hp
  · rename_i c e
    cases hp
    exact ht σ H _ ⟨B, env, O, s, _, e, fun v H' g hv => ⟨b, hv, h H' g⟩⟩
  · cases hp
theorem q_cmp {a b : Expr} {o : CmpOp} {op : D → D → Option V} {r : R2} (ho : OpR X (compareOp o) r) (h : PureS X.K r op) (hm : behindInMarks o b = false) (ha : BOk X a p) (hb : BOk X b q) : QOk X (.Compare a [o] [b] pos) (qOf (pOp op p q)) :=
  (pt_cmpR ho ha hb hm).imp (qOf_of (pOp_of h))
theorem q_val (h : POk X e p) (he : ∀ whole, isTrue e X.env whole = (do let v ← whole; standAt e.pos; holding [v] (truthy v)) := by intro _; rfl) : QOk X e (qOf p) :=
  (pt_val h he).imp (qOf_of fun _ _ _ h => h)
/-- (a op b op' c) -/
def pChain (op op' : D → D → Option V) (p q r : P) : P := fun env => match p env, q env with
  | some a, some b => match op a b with
    | some (.bl true) => match r env with
      | some c => (op' b c).map ofV
      | none => none
    | some (.bl false) => some (.bl false)
    | _ => none
  | _, _ => none
theorem pChain_of {r r' : R2} {op op' : D → D → Option V} {pp qq rr : P} (h : PureS X.K r op) (h' : PureS X.K r' op') (σ : L2.St) (H : Hp) (Q : VK) (hq : rdP X (pChain op op' pp qq rr) σ H Q) : tChain r r' (rdB X pp) (rdB X qq) (rdB X rr) σ H Q := by
  obtain ⟨B, env, O, s, d, hp, hq⟩ := hq
  unfold pChain at hp
  cases e1 : pp env with
  | none => rw [e1] at hp; simp at hp
  | some d1 =>
    cases e2 : qq env with
    | none => rw [e1, e2] at hp; simp at hp
    | some d2 =>
      rw [e1, e2] at hp
      refine ⟨B, env, O, s, d1, e1, fun x H1 g1 hx => ⟨B, env, O, s.grw g1, d2, e2, fun y H2 g2 hy => ?_⟩⟩
      cases eo : op d1 d2 with
      | none => simp [eo] at hp
      | some k =>
        refine h H2 x y d1 d2 k _ (hx.grw g2) hy eo ?_
        cases k with
        | bl k =>
          refine ⟨k, rfl, ?_⟩
          cases k with
          | true =>
            simp only [eo] at hp
            cases e3 : rr env with
            | none => simp [e3] at hp
            | some d3 =>
              simp only [e3, Option.map_eq_some_iff] at hp
              obtain ⟨v, hv, rfl⟩ := hp
              rw [if_pos rfl]
              exact ⟨B, env, O, (s.grw g1).grw g2, d3, e3, fun z H3 g3 hz => h' H3 y z d2 d3 v Q (hy.grw g3) hz hv (hq v H3 ((g1.trans g2).trans g3) (ofV_is _ _ _ v))⟩
          | false =>
            simp only [eo, Option.some.injEq] at hp
            subst hp
            rw [if_neg Bool.false_ne_true]
            exact hq _ H2 (g1.trans g2) rfl
        | non => simp [eo] at hp
        | int _ => simp [eo] at hp
        | str _ => simp [eo] at hp
        | byt _ => simp [eo] at hp
        | flt _ => simp [eo] at hp
        | ref _ => simp [eo] at hp
        | ty _ => simp [eo] at hp
theorem q_chain {a b c : Expr} {o o' : CmpOp} {op op' : D → D → Option V} {r1 r2 : R2} (ho : OpR X (compareOp o) r1) (ho' : OpR X (compareOp o') r2) (h : PureS X.K r1 op) (h' : PureS X.K r2 op') (hm : lastMarks [o, o'] [b, c] = false) (ha : BOk X a p) (hb : BOk X b q) (hc : BOk X c r) :
    QOk X (.Compare a [o, o'] [b, c] pos) (qOf (pChain op op' p q r)) := (pt_chain ho ho' ha hb hc hm).imp (qOf_of (pChain_of h h'))
def addI : D → D → Option V
  | .int a, .int b => some (.int (a + b))
  | .str a, .str b => if a.length + b.length ≤ sizeLine then some (.str (a ++ b)) else none
  | _, _ => none
def subI : D → D → Option V
  | .int a, .int b => some (.int (a - b))
  | _, _ => none
def mulOk (a b : Int) : Bool := a.natAbs.log2 + b.natAbs.log2 < 134217000 || (decide (-(2 ^ 64) < a) && decide (a < 2 ^ 64)) || (decide (-(2 ^ 64) < b) && decide (b < 2 ^ 64))
def mulI : D → D → Option V
  | .int a, .int b => if mulOk a b then some (.int (a * b)) else none
  | _, _ => none
def divOk (a b : Int) : Bool := b != 0 && !(Builtin.divisionGoesByPylong a b)
def fdivI : D → D → Option V
  | .int a, .int b => if divOk a b then some (.int (a.fdiv b)) else none
  | _, _ => none
def modI : D → D → Option V
  | .int a, .int b => if b ≠ 0 then some (.int (a.fmod b)) else none
  | _, _ => none
def powI : D → D → Option V
  | .int a, .int b => if 0 ≤ b ∧ b ≤ 1000000 ∧ a.natAbs < 2 ^ 64 then some (.int (a ^ b.toNat)) else none
  | _, _ => none
def cmpI (f : Int → Int → Bool) : D → D → Option V
  | .int a, .int b => some (.bl (f a b))
  | _, _ => none
def CMulY (i j : Int) : Prop := mulOk i j = true
theorem CMulY.ok {i j : Int} (h : CMulY i j) : IntMulOk i j := by
  unfold CMulY mulOk at h
  simp only [Bool.or_eq_true, Bool.and_eq_true, decide_eq_true_eq] at h
  rcases h with (h | h) | h
  · have b : ∀ z : Int, Builtin.Int.intBits z ≤ z.natAbs.log2 + 1 := fun z => by
      unfold Builtin.Int.intBits
      split <;> omega
    have h1 := b i
    have h2 := b j
    have e : bitsLine = 134217728 := by decide
    unfold IntMulOk
    intro z
    rw [Bool.and_eq_true] at z
    have z2 := z.2
    unfold Builtin.Int.intTooBig at z2
    have z3 := of_decide_eq_true z2
    rw [e] at z3
    omega
  · exact .of_left (intBits_le_64 h.1 h.2)
  · exact .of_right (intBits_le_64 h.1 h.2)
theorem op_mulY : OpR X (binaryOp .Mult) (rI CMulY fun i j => .int (i * j)) := opI fun _ _ _ _ _ _ _ hc q => mul_int q hc.ok
def CDivY (i j : Int) : Prop := divOk i j = true
theorem op_fdivY : OpR X (binaryOp .FloorDiv) (rI CDivY fun i j => .int (i.fdiv j)) := opI fun i j _ _ _ _ _ hc q => by
  have hc : divOk i j = true := hc
  unfold divOk at hc
  simp only [Bool.and_eq_true, bne_iff_ne, Bool.not_eq_true'] at hc
  exact floordiv_int hc.1 q (.inl hc.2)
theorem pure_rI {K : PySem.W.Frag} {C : Int → Int → Prop} {g : Int → Int → V} {op : D → D → Option V} (h : ∀ d1 d2 v, op d1 d2 = some v → ∃ i j, d1 = .int i ∧ d2 = .int j ∧ C i j ∧ v = g i j) : PureS K (rI C g) op := fun H x y d1 d2 v Q h1 h2 e q => by
  obtain ⟨i, j, rfl, rfl, hc, rfl⟩ := h d1 d2 v e
  exact ⟨i, j, h1, h2, hc, q⟩
theorem pure_rI0 {K : PySem.W.Frag} {g : Int → Int → V} {op : D → D → Option V} (h : ∀ d1 d2 v, op d1 d2 = some v → ∃ i j, d1 = .int i ∧ d2 = .int j ∧ v = g i j) : PureS K (rI0 g) op := fun H x y d1 d2 v Q h1 h2 e q => by
  obtain ⟨i, j, rfl, rfl, rfl⟩ := h d1 d2 v e
  exact ⟨i, j, h1, h2, q⟩
theorem pure_sub {K} : PureS K (rI0 fun i j => .int (i - j)) subI := pure_rI0 fun d1 d2 v h => by
  unfold subI at h; split at h <;> simp at h; exact ⟨_, _, rfl, rfl, h.symm⟩
theorem pure_mul {K} : PureS K (rI CMulY fun i j => .int (i * j)) mulI := pure_rI fun d1 d2 v h => by
  unfold mulI at h; split at h <;> simp at h; exact ⟨_, _, rfl, rfl, h.1, h.2.symm⟩
theorem pure_fdiv {K} : PureS K (rI CDivY fun i j => .int (i.fdiv j)) fdivI := pure_rI fun d1 d2 v h => by
  unfold fdivI at h; split at h <;> simp at h; exact ⟨_, _, rfl, rfl, h.1, h.2.symm⟩
theorem pure_mod {K} : PureS K (rI (fun _ j => j ≠ 0) fun i j => .int (i.fmod j)) modI := pure_rI fun d1 d2 v h => by
  unfold modI at h; split at h <;> simp at h; exact ⟨_, _, rfl, rfl, h.1, h.2.symm⟩
theorem pure_pow {K} : PureS K (rI CPow fun i j => .int (i ^ j.toNat)) powI := pure_rI fun d1 d2 v h => by
  unfold powI at h; split at h <;> simp only [Option.ite_none_right_eq_some, Option.some.injEq, reduceCtorEq] at h; exact ⟨_, _, rfl, rfl, h.1, h.2.symm⟩
theorem pure_cmp {K} (f : Int → Int → Bool) : PureS K (rI0 fun i j => .bl (f i j)) (cmpI f) := pure_rI0 fun d1 d2 v h => by
  unfold cmpI at h; split at h <;> simp at h; exact ⟨_, _, rfl, rfl, h.symm⟩
theorem pure_add {K} : PureS K (fun x y H Q => rI0 (fun i j => .int (i + j)) x y H Q ∨ ∃ i j, x = .str i ∧ y = .str j ∧ i.length + j.length ≤ sizeLine ∧ Q (.str (i ++ j)) H) addI := fun H x y d1 d2 v Q h1 h2 e q => by
  unfold addI at e
  split at e
  · simp at e; subst e; exact .inl ⟨_, _, h1, h2, q⟩
  · simp at e
    obtain ⟨e1, rfl⟩ := e
    exact .inr ⟨_, _, h1, h2, e1, q⟩
  · cases e
abbrev iLt (i j : Int) : Bool := decide (i < j)
abbrev iLe (i j : Int) : Bool := decide (i ≤ j)
abbrev iGt (i j : Int) : Bool := decide (j < i)
abbrev iGe (i j : Int) : Bool := decide (j ≤ i)
section
variable {a b : Expr}
theorem p_add (ha : BOk X a p) (hb : BOk X b q) : POk X (.BinOp a .Add b pos) (pOp addI p q) := p_op (op_add.or op_add_str) pure_add ha hb
theorem p_sub (ha : BOk X a p) (hb : BOk X b q) : POk X (.BinOp a .Sub b pos) (pOp subI p q) := p_op op_sub pure_sub ha hb
theorem p_mul (ha : BOk X a p) (hb : BOk X b q) : POk X (.BinOp a .Mult b pos) (pOp mulI p q) := p_op op_mulY pure_mul ha hb
theorem p_fdiv (ha : BOk X a p) (hb : BOk X b q) : POk X (.BinOp a .FloorDiv b pos) (pOp fdivI p q) := p_op op_fdivY pure_fdiv ha hb
theorem p_mod (ha : BOk X a p) (hb : BOk X b q) : POk X (.BinOp a .Mod b pos) (pOp modI p q) := p_op op_modN pure_mod ha hb
theorem p_pow (ha : BOk X a p) (hb : BOk X b q) : POk X (.BinOp a .Pow b pos) (pOp powI p q) := p_op op_pow pure_pow ha hb
theorem q_lt (ha : BOk X a p) (hb : BOk X b q) : QOk X (.Compare a [.Lt] [b] pos) (qOf (pOp (cmpI iLt) p q)) := q_cmp op_lt (pure_cmp _) (nomark _) ha hb
theorem q_le (ha : BOk X a p) (hb : BOk X b q) : QOk X (.Compare a [.LtE] [b] pos) (qOf (pOp (cmpI iLe) p q)) := q_cmp op_le (pure_cmp _) (nomark _) ha hb
theorem q_gt (ha : BOk X a p) (hb : BOk X b q) : QOk X (.Compare a [.Gt] [b] pos) (qOf (pOp (cmpI iGt) p q)) := q_cmp op_gt (pure_cmp _) (nomark _) ha hb
theorem q_ge (ha : BOk X a p) (hb : BOk X b q) : QOk X (.Compare a [.GtE] [b] pos) (qOf (pOp (cmpI iGe) p q)) := q_cmp op_ge (pure_cmp _) (nomark _) ha hb
end
mutual
def toPy : D → Option PyData
  | .non => some .none
  | .bl b => some (.bool b)
  | .int i => some (.int i)
  | .str s => some (.str s)
  | .tup l => (toPys l).map .tuple
  | .lst l => (toPys l).map .list
  | _ => none
def toPys : List D → Option (List PyData)
  | [] => some []
  | d :: r => match toPy d, toPys r with
    | some x, some xs => some (x :: xs)
    | _, _ => none
end
mutual
theorem toPy_dp {K : PySem.W.Frag} {W : Addr → Prop} {H : Hp} : ∀ (d : D) (v : V) (y : PyData), Is K W H d v → toPy d = some y → Dp K H v y
  | .non, v, y, h, e => by cases e; rw [show v = .non from h]; exact .non
  | .bl b, v, y, h, e => by cases e; rw [show v = .bl b from h]; exact .bl b
  | .int i, v, y, h, e => by cases e; rw [show v = .int i from h]; exact .int i
  | .str x, v, y, h, e => by cases e; rw [show v = .str x from h]; exact .str x
  | .tup l, v, y, h, e => by
    obtain ⟨a, xs, rfl, ha, _, r⟩ := h
    simp only [toPy, Option.map_eq_some_iff] at e
    obtain ⟨ys, e, rfl⟩ := e
    exact .tup (.inl (.inl ha)) (toPys_dp l xs ys r e)
  | .lst l, v, y, h, e => by
    obtain ⟨a, xs, rfl, ha, _, r⟩ := h
    simp only [toPy, Option.map_eq_some_iff] at e
    obtain ⟨ys, e, rfl⟩ := e
    exact .lst (.inl (.inl ha)) (toPys_dp l xs ys r e)
  | .dct l, v, y, h, e => by cases e
  | .dcT l, v, y, h, e => by cases e
  | .dcL l, v, y, h, e => by cases e
  | .ro l, v, y, h, e => by cases e
  | .fn l, v, y, h, e => by cases e
  | .opq l, v, y, h, e => by cases e
  | .lam _ _, v, y, h, e => by cases e
theorem toPys_dp {K : PySem.W.Frag} {W : Addr → Prop} {H : Hp} : ∀ (l : List D) (xs : List V) (ys : List PyData), IsL K W H l xs → toPys l = some ys → DpAll K H xs ys
  | [], xs, ys, h, e => by cases e; rw [show xs = [] from h]; exact .nil
  | d :: r, xs, ys, h, e => by
    obtain ⟨x, zs, rfl, h1, h2⟩ := h
    simp only [toPys] at e
    cases e1 : toPy d with
    | none => rw [e1] at e; cases e
    | some y1 =>
      cases e2 : toPys r with
      | none => rw [e1, e2] at e; cases e
      | some y2 =>
        rw [e1, e2] at e
        cases e
        exact .cons (toPy_dp d x y1 h1 e1) (toPys_dp r zs y2 h2 e2)
end
def eqD (a b : D) : Option Bool := match toPy a, toPy b with
  | some x, some y => if SeqAt.shaped x && SeqAt.shaped y then some (PyData.eqv x y) else none
  | _, _ => none
def eqV' (a b : D) : Option V := (eqD a b).map V.bl
def neV' (a b : D) : Option V := (eqD a b).map fun c => V.bl !c
theorem eqD_of {a b : D} {c : Bool} (h : eqD a b = some c) : ∃ x y, toPy a = some x ∧ toPy b = some y ∧ SeqAt.shaped x = true ∧ SeqAt.shaped y = true ∧ c = PyData.eqv x y := by
  unfold eqD at h
  split at h
  · rename_i x y e1 e2
    simp at h
    exact ⟨x, y, e1, e2, h.1.1, h.1.2, h.2.symm⟩
  · cases h
theorem pure_eq {K} : PureS K (rEqD K) eqV' := fun H x y d1 d2 v Q h1 h2 e q => by
  unfold eqV' at e
  simp only [Option.map_eq_some_iff] at e
  obtain ⟨c, e, rfl⟩ := e
  obtain ⟨y1, y2, e1, e2, s1, s2, rfl⟩ := eqD_of e
  exact ⟨y1, y2, toPy_dp _ _ _ h1 e1, toPy_dp _ _ _ h2 e2, s1, s2, q⟩
theorem pure_ne {K} : PureS K (rNeD K) neV' := fun H x y d1 d2 v Q h1 h2 e q => by
  unfold neV' at e
  simp only [Option.map_eq_some_iff] at e
  obtain ⟨c, e, rfl⟩ := e
  obtain ⟨y1, y2, e1, e2, s1, s2, rfl⟩ := eqD_of e
  exact ⟨y1, y2, toPy_dp _ _ _ h1 e1, toPy_dp _ _ _ h2 e2, s1, s2, q⟩
section
variable {a b : Expr} {k : Nat}
theorem p_eq (hr : Room k X.A) (ha : BOk X a p) (hb : BOk X b q) : POk X (.Compare a [.Eq] [b] pos) (pOp eqV' p q) := p_cmp (op_eqD hr.units) pure_eq (nomark _) ha hb
theorem p_ne (hr : Room k X.A) (ha : BOk X a p) (hb : BOk X b q) : POk X (.Compare a [.NotEq] [b] pos) (pOp neV' p q) := p_cmp (op_neD hr.units) pure_ne (nomark _) ha hb
theorem q_eq (hr : Room k X.A) (ha : BOk X a p) (hb : BOk X b q) : QOk X (.Compare a [.Eq] [b] pos) (qOf (pOp eqV' p q)) := q_cmp (op_eqD hr.units) pure_eq (nomark _) ha hb
theorem q_ne (hr : Room k X.A) (ha : BOk X a p) (hb : BOk X b q) : QOk X (.Compare a [.NotEq] [b] pos) (qOf (pOp neV' p q)) := q_cmp (op_neD hr.units) pure_ne (nomark _) ha hb
end
def isNonD : D → Bool
  | .non => true
  | _ => false
theorem isNonD_iff {K W H} {d : D} {v : V} (h : Is K W H d v) (hq : ∀ u, d ≠ .opq u) : decide (v = .non) = isNonD d := by
  cases d with
  | non => rw [show v = .non from h]; rfl
  | bl b => rw [show v = .bl b from h]; rfl
  | int b => rw [show v = .int b from h]; rfl
  | str b => rw [show v = .str b from h]; rfl
  | opq u => exact absurd rfl (hq u)
  | lam _ _ => obtain ⟨_, _, _, _, _, _, rfl, _⟩ := h; rfl
  | fn x => obtain ⟨a, rfl, _⟩ := h; rfl
  | tup l => obtain ⟨a, _, rfl, _⟩ := h; rfl
  | lst l => obtain ⟨a, _, rfl, _⟩ := h; rfl
  | dct l => obtain ⟨a, _, rfl, _⟩ := h; rfl
  | dcT l => obtain ⟨a, _, rfl, _⟩ := h; rfl
  | dcL l => obtain ⟨a, _, _, rfl, _⟩ := h; rfl
  | ro l => obtain ⟨a, rfl, _⟩ := h; rfl
def isN : D → D → Option V
  | .opq _, _ => none
  | d, .non => some (.bl (isNonD d))
  | _, _ => none
def notN : D → D → Option V
  | .opq _, _ => none
  | d, .non => some (.bl (!isNonD d))
  | _, _ => none
theorem pure_isN {K} : PureS K (fun x y H Q => y = .non ∧ Q (.bl (decide (x = .non))) H) isN := fun H x y d1 d2 v Q h1 h2 e q => by
  unfold isN at e
  split at e
  · cases e
  · rename_i hq
    simp at e
    subst e
    refine ⟨h2, ?_⟩
    rw [isNonD_iff h1 hq]
    exact q
  · cases e
theorem pure_notN {K} : PureS K (fun x y H Q => y = .non ∧ Q (.bl (!decide (x = .non))) H) notN := fun H x y d1 d2 v Q h1 h2 e q => by
  unfold notN at e
  split at e
  · cases e
  · rename_i hq
    simp at e
    subst e
    refine ⟨h2, ?_⟩
    rw [isNonD_iff h1 hq]
    exact q
  · cases e
section
variable {a b : Expr}
theorem q_isN (ha : BOk X a p) (hb : BOk X b q) : QOk X (.Compare a [.Is] [b] pos) (qOf (pOp isN p q)) := q_cmp op_isN pure_isN (nomark _) ha hb
theorem q_notN (ha : BOk X a p) (hb : BOk X b q) : QOk X (.Compare a [.IsNot] [b] pos) (qOf (pOp notN p q)) := q_cmp op_notN pure_notN (nomark _) ha hb
end
section
variable {a b c : Expr} {rest : List Expr} {s t u : PB}
def qAnd (s t : PB) : PB := fun env => match s env with
  | some true => t env
  | some false => some false
  | none => none
def qOr (s t : PB) : PB := fun env => match s env with
  | some true => some true
  | some false => t env
  | none => none
def qNot (s : PB) : PB := fun env => (s env).map (!·)
abbrev WOk (X : Cx) (e : Expr) (p : PB) : Prop := PW X e (rdQ X p)
theorem _root_.L2.PW.imp {X : Cx} {e : Expr} {t t' : TT} (h : PW X e t) (i : ∀ σ H Q, t' σ H Q → t σ H Q) : PW X e t' := ⟨fun wh pins s σ H Q I hw => h.run wh pins s σ H Q I (i σ H Q hw)⟩
theorem w_and1 (ha : QOk X a s) : WOk X (.BoolOp .And [a] pos) s := pw_and1 ha
theorem w_or1 (ha : QOk X a s) : WOk X (.BoolOp .Or [a] pos) s := pw_or1 ha
theorem w_and (ha : QOk X a s) (hb : WOk X (.BoolOp .And (b :: rest) pos) t) : WOk X (.BoolOp .And (a :: b :: rest) pos) (qAnd s t) := (pw_and ha hb).imp fun σ H Q h => by
  obtain ⟨B, env, O, st, k, hp, h⟩ := h
  unfold qAnd at hp
  cases e1 : s env with
  | none => rw [e1] at hp; cases hp
  | some c =>
    rw [e1] at hp
    refine ⟨B, env, O, st, c, e1, fun H1 g1 => ?_⟩
    cases c with
    | true => rw [if_pos rfl]; exact ⟨B, env, O, st.grw g1, k, hp, fun H2 g2 => h H2 (g1.trans g2)⟩
    | false => rw [if_neg Bool.false_ne_true]; cases hp; exact h H1 g1
theorem w_or (ha : QOk X a s) (hb : WOk X (.BoolOp .Or (b :: rest) pos) t) : WOk X (.BoolOp .Or (a :: b :: rest) pos) (qOr s t) := (pw_or ha hb).imp fun σ H Q h => by
  obtain ⟨B, env, O, st, k, hp, h⟩ := h
  unfold qOr at hp
  cases e1 : s env with
  | none => rw [e1] at hp; cases hp
  | some c =>
    rw [e1] at hp
    refine ⟨B, env, O, st, c, e1, fun H1 g1 => ?_⟩
    cases c with
    | true => rw [if_pos rfl]; cases hp; exact h H1 g1
    | false => rw [if_neg Bool.false_ne_true]; exact ⟨B, env, O, st.grw g1, k, hp, fun H2 g2 => h H2 (g1.trans g2)⟩
theorem q_W (h : WOk X e s) : QOk X e s := h.pt
theorem q_not (ha : QOk X a s) : QOk X (.UnaryOp .Not a pos) (qNot s) := (pt_not ha).imp fun σ H Q h => by
  obtain ⟨B, env, O, st, k, hp, h⟩ := h
  unfold qNot at hp
  simp only [Option.map_eq_some_iff] at hp
  obtain ⟨c, e1, rfl⟩ := hp
  exact ⟨B, env, O, st, c, e1, h⟩
/-- as values -/
def pAnd (p q : P) : P := fun env => match p env with
  | some (.bl true) => q env
  | some (.bl false) => some (.bl false)
  | _ => none
def pOr (p q : P) : P := fun env => match p env with
  | some (.bl true) => some (.bl true)
  | some (.bl false) => q env
  | _ => none
def pNot (p : P) : P := fun env => match p env with
  | some (.bl c) => some (.bl (!c))
  | _ => none
theorem p_one {op} (h : POk X a p) : POk X (.BoolOp op [a] pos) p := pe_one h
theorem p_and (ha : POk X a p) (hb : POk X (.BoolOp .And (b :: rest) pos) q) : POk X (.BoolOp .And (a :: b :: rest) pos) (pAnd p q) := (pe_and ha hb).imp fun σ H Q h => by
  obtain ⟨B, env, O, st, d, hp, h⟩ := h
  unfold pAnd at hp
  split at hp
  · rename_i e1
    refine ⟨B, env, O, st, _, e1, fun v H1 g1 hv => ⟨true, hv, ?_⟩⟩
    rw [if_pos rfl]
    exact ⟨B, env, O, st.grw g1, d, hp, fun v H2 g2 hv => h v H2 (g1.trans g2) hv⟩
  · rename_i e1
    cases hp
    refine ⟨B, env, O, st, _, e1, fun v H1 g1 hv => ⟨false, hv, ?_⟩⟩
    rw [if_neg Bool.false_ne_true]
    exact h _ H1 g1 rfl
  · cases hp
theorem p_not (ha : POk X a p) : POk X (.UnaryOp .Not a pos) (pNot p) := (pe_not ha).imp fun σ H Q h => by
  obtain ⟨B, env, O, st, d, hp, h⟩ := h
  unfold pNot at hp
  split at hp
  · rename_i c e1
    cases hp
    exact ⟨B, env, O, st, _, e1, fun v H1 g1 hv => ⟨c, hv, h _ H1 g1 rfl⟩⟩
  · cases hp
def pIf (s : PB) (p q : P) : P := fun env => match s env with
  | some true => p env
  | some false => q env
  | none => none
theorem p_if (hc : QOk X c s) (ha : POk X a p) (hb : POk X b q) : POk X (.IfExp c a b pos) (pIf s p q) := (pe_ifExp hc ha hb).imp fun σ H Q h => by
  obtain ⟨B, env, O, st, d, hp, h⟩ := h
  unfold pIf at hp
  cases e1 : s env with
  | none => rw [e1] at hp; cases hp
  | some k =>
    rw [e1] at hp
    refine ⟨B, env, O, st, k, e1, fun H1 g1 => ?_⟩
    have k2 : ∀ v H2, Grw H1 H2 → Is X.K (fun a => B a ∨ a ∈ O) H2 d v → Q v H2 := fun v H2 g2 hv => h v H2 (g1.trans g2) hv
    cases k with
    | true => exact iteT (show rdP X p σ H1 Q from ⟨B, env, O, st.grw g1, d, hp, k2⟩)
    | false => exact iteF (show rdP X q σ H1 Q from ⟨B, env, O, st.grw g1, d, hp, k2⟩)
def pNeg (p : P) : P := fun env => match p env with
  | some (.int i) => some (.int (-i))
  | _ => none
theorem p_neg (ha : BOk X a p) : POk X (.UnaryOp .USub a pos) (pNeg p) := (pe_un un_neg ha).imp fun σ H Q h => by
  obtain ⟨B, env, O, st, d, hp, h⟩ := h
  unfold pNeg at hp
  split at hp
  · rename_i i e1
    cases hp
    exact ⟨B, env, O, st, _, e1, fun v H1 g1 hv => ⟨i, hv, h _ H1 g1 rfl⟩⟩
  · cases hp
end
end
end PL
namespace PL
open PySem PySem.Spec PyProof.Rows L2
def evPs : List P → Slots → Option (List D)
  | [], _ => some []
  | p :: r, env => match p env, evPs r env with
    | some d, some ds => some (d :: ds)
    | _, _ => none
section
variable (X : Cx)
def rdD (ps : List P) : TA := fun σ H Q => ∃ B env O, Stt X.K B H σ env O ∧ ∃ ds, evPs ps env = some ds ∧ ∀ vs H', Grw H H' → IsL X.K (fun a => B a ∨ a ∈ O) H' ds vs → Q vs H'
def rdDB (ps : List P) : TA := fun σ H Q => ∃ B env O, Stt X.K B H σ env O ∧ ∃ ds, evPs ps env = some ds ∧ ∀ vs H', Grw H H' → IsL X.K NoW H' ds vs → Q vs H'
/-- a new list of frozen things -/
def rdF (p : Slots → Option (List D)) : TE := fun σ H Q => ∃ B env O, Stt X.K B H σ env O ∧ ∃ l, p env = some l ∧ ∀ a xs H1, Grw H H1 → H1 a = none → IsL X.K (fun a => B a ∨ a ∈ O) H1 l xs → Q (.ref a) (upd H1 a (.lst xs))
/-- a list whose things are frozen -/
def rdL (p : Slots → Option (List D)) : TE := fun σ H Q => ∃ B env O, Stt X.K B H σ env O ∧ ∃ l, p env = some l ∧ ∀ a xs H', Grw H H' → H' a = some (.lst xs) → IsL X.K (fun a => B a ∨ a ∈ O) H' l xs → Q (.ref a) H'
/-- a part of a slot's cell -/
def rdK (f : Slots → Option C) : TE := fun σ H Q => ∃ B env O, Stt X.K B H σ env O ∧ ∃ c, f env = some c ∧ ∀ v H', Grw H H' → (∃ A, (∀ a ∈ A, a ∈ O) ∧ RepC X.K (fun a => B a ∨ a ∈ O) H' c v A) → Q v H'
end
abbrev PLs := Slots → Option (List D)
abbrev ADk (X : Cx) (es : List Expr) (ps : List P) : Prop := PA X es (rdD X ps)
abbrev ABk (X : Cx) (es : List Expr) (ps : List P) : Prop := PA X es (rdDB X ps)
abbrev FOk (X : Cx) (e : Expr) (p : PLs) : Prop := PE X e (rdF X p)
abbrev LOk (X : Cx) (e : Expr) (p : PLs) : Prop := PE X e (rdL X p)
abbrev KOk (X : Cx) (e : Expr) (f : Slots → Option C) : Prop := PE X e (rdK X f)
section
variable {X : Cx} {w : WX} {H : Hp} {σ : L2.St} {e : Expr} {es : List Expr} {p q r : P} {ps : List P} {pos : Pos}
theorem ad_nil : ADk X [] [] := pa_nil.imp fun σ H Q h => by
  obtain ⟨B, env, O, s, ds, hp, h⟩ := h
  cases hp
  exact h [] H Grw.refl rfl
theorem ab_nil : ABk X [] [] := pa_nil.imp fun σ H Q h => by
  obtain ⟨B, env, O, s, ds, hp, h⟩ := h
  cases hp
  exact h [] H Grw.refl rfl
theorem evPs_cons {env : Slots} {ds : List D} (h : evPs (p :: ps) env = some ds) : ∃ d r, p env = some d ∧ evPs ps env = some r ∧ ds = d :: r := by
  unfold evPs at h
  split at h
  · rename_i d r e1 e2
    exact ⟨d, r, e1, e2, (Option.some.inj h).symm⟩
  · cases h
theorem ad_cons (ha : POk X e p) (hr : ADk X es ps) (hs : starEach (e :: es) X.env = (false, eval e X.env) :: starEach es X.env := by rfl) : ADk X (e :: es) (p :: ps) := (pa_cons ha hr hs).imp fun σ H Q h => by
  obtain ⟨B, env, O, s, ds, hp, h⟩ := h
  obtain ⟨d, r, e1, e2, rfl⟩ := evPs_cons hp
  exact ⟨B, env, O, s, d, e1, fun v H1 g1 hv => ⟨B, env, O, s.grw g1, r, e2, fun vs H2 g2 hvs => h (v :: vs) H2 (g1.trans g2) ⟨v, vs, rfl, hv.grw g2, hvs⟩⟩⟩
theorem ab_cons (ha : BOk X e p) (hr : ABk X es ps) (hs : starEach (e :: es) X.env = (false, eval e X.env) :: starEach es X.env := by rfl) : ABk X (e :: es) (p :: ps) := (pa_cons ha hr hs).imp fun σ H Q h => by
  obtain ⟨B, env, O, s, ds, hp, h⟩ := h
  obtain ⟨d, r, e1, e2, rfl⟩ := evPs_cons hp
  exact ⟨B, env, O, s, d, e1, fun v H1 g1 hv => ⟨B, env, O, s.grw g1, r, e2, fun vs H2 g2 hvs => h (v :: vs) H2 (g1.trans g2) ⟨v, vs, rfl, hv.grw g2, hvs⟩⟩⟩
theorem evPs_len {env : Slots} : ∀ {ps : List P} {ds : List D}, evPs ps env = some ds → ds.length = ps.length
  | [], ds, h => by cases h; rfl
  | p :: r, ds, h => by
    obtain ⟨d, r', e1, e2, rfl⟩ := evPs_cons h
    rw [List.length_cons, List.length_cons, evPs_len e2]
def pF (p : PLs) : P := fun env => (p env).map .lst
theorem rdF_new {K : PySem.W.Frag} {B : Addr → Prop} {O : List Addr} {H H1 : Hp} {env : Slots} {l : List D} {xs : List V} {a : Addr} (s : Stt K B H σ env O) (g : Grw H H1) (ha : H1 a = none) (hl : IsL K (fun a => B a ∨ a ∈ O) H1 l xs) :
    Grw H (upd H1 a (.lst xs)) ∧ Grw H1 (upd H1 a (.lst xs)) ∧ ¬ (B a ∨ a ∈ O) := by
  have g1 : Grw H1 (upd H1 a (.lst xs)) := fun b o e => by rw [upd_ne (ne_of_none e ha)]; exact e
  refine ⟨g.trans g1, g1, fun z => ?_⟩
  obtain ⟨u, e⟩ := (s.grw g).trk a z
  rw [ha] at e; cases e
theorem p_F {p : PLs} (h : FOk X e p) : POk X e (pF p) := h.imp fun σ H Q h => by
  obtain ⟨B, env, O, s, d, hp, h⟩ := h
  unfold pF at hp
  simp only [Option.map_eq_some_iff] at hp
  obtain ⟨l, hp, rfl⟩ := hp
  refine ⟨B, env, O, s, l, hp, fun a xs H1 g ha hl => ?_⟩
  obtain ⟨g2, g1, nw⟩ := rdF_new s g ha hl
  exact h _ _ g2 ⟨a, xs, rfl, upd_same, nw, hl.grw g1⟩
def eF (p : PLs) : M C := fun env => match p env with | some l => .ok (.own (l.map .frz)) env | none => .no
theorem eF_of {p : PLs} (σ : L2.St) (H : Hp) (Q : VK) (h : rdE X w (eF p) σ H Q) : rdF X p σ H Q := by
  obtain ⟨B, env, O, s, h⟩ := h
  unfold eF at h
  cases hp : p env with
  | none => rw [hp] at h; exact h.elim
  | some l =>
    rw [hp] at h
    refine ⟨B, env, O, s, l, hp, fun a xs H1 g ha hl => ?_⟩
    obtain ⟨g2, g1, nw⟩ := rdF_new s g ha hl
    refine h (.ref a) (upd H1 a (.lst xs)) [a] O (Res.new (s.grw g) (fun b o hw e => ⟨g b o e, fun z => z.elim (fun z => nomatch z) hw⟩) ⟨g1, ⟨a, xs, [], rfl, rfl, upd_same, ?_⟩, by simp, fun b hb => by rw [List.mem_singleton.mp hb]; exact ha⟩)
    have q : IsL X.K (fun b => (B b ∨ b ∈ O) ∨ b ∈ [a]) (upd H1 a (.lst xs)) l xs := IsL.kp (fun b o hw e => ⟨g1 b o e, fun z => z.elim hw fun z => by rw [List.mem_singleton.mp z, ha] at e; cases e⟩) _ _ hl
    exact RepL.frz q
theorem e_F {p : PLs} (h : FOk X e p) : EOk X w e (eF p) := h.imp eF_of
theorem l_F {p : PLs} (h : FOk X e p) : LOk X e p := h.imp fun σ H Q h => by
  obtain ⟨B, env, O, s, l, hp, h⟩ := h
  refine ⟨B, env, O, s, l, hp, fun a xs H1 g ha hl => ?_⟩
  obtain ⟨g2, g1, nw⟩ := rdF_new s g ha hl
  exact h a xs _ g2 upd_same (hl.grw g1)
/-- a frozen list -/
def lP (p : P) : PLs := fun env => match p env with | some (.lst l) => some l | _ => none
theorem l_P (h : POk X e p) : LOk X e (lP p) := h.imp fun σ H Q h => by
  obtain ⟨B, env, O, s, l, hp, h⟩ := h
  unfold lP at hp
  split at hp
  · rename_i l' e1
    cases hp
    refine ⟨B, env, O, s, _, e1, fun v H' g hv => ?_⟩
    obtain ⟨a, xs, rfl, ha, nw, hl⟩ := hv
    exact h a xs H' g ha hl
  · cases hp
/-- display -/
theorem f_lst (h : ADk X es ps) (hz : ps.length ≤ 100000 := by decide) : FOk X (.List es pos) (evPs ps) := (pe_lst h).imp fun σ H Q h => by
  obtain ⟨B, env, O, s, l, hp, h⟩ := h
  refine ⟨B, env, O, s, l, hp, fun vs H' g hv => ⟨?_, fun a ha => h a vs H' g ha hv⟩⟩
  rw [hv.length, evPs_len hp, sizeLine_eq]; omega
def pTup (ps : List P) : P := fun env => (evPs ps env).map .tup
theorem p_tup {k} (h : ADk X es ps) (hz : ps.length ≤ 100000 := by decide) : POk X (.Tuple es k pos) (pTup ps) := (pe_tup h).imp fun σ H Q h => by
  obtain ⟨B, env, O, s, d, hp, h⟩ := h
  unfold pTup at hp
  simp only [Option.map_eq_some_iff] at hp
  obtain ⟨l, hp, rfl⟩ := hp
  refine ⟨B, env, O, s, l, hp, fun vs H1 g hv => ⟨by rw [hv.length, evPs_len hp, sizeLine_eq]; omega, fun a ha => ?_⟩⟩
  have g1 : Grw H1 (upd H1 a (.tup vs)) := fun b o e => by rw [upd_ne (ne_of_none e ha)]; exact e
  refine h _ _ (g.trans g1) ⟨a, vs, rfl, upd_same, fun z => ?_, hv.grw g1⟩
  obtain ⟨u, e⟩ := (s.grw g).trk a z
  rw [ha] at e; cases e
def fCat (p q : PLs) : PLs := fun env => match p env, q env with
  | some a, some b => if a.length + b.length ≤ 16777216 then some (a ++ b) else none
  | _, _ => none
theorem f_cat {a b : Expr} {p q : PLs} (ha : LOk X a p) (hb : LOk X b q) : FOk X (.BinOp a .Add b pos) (fCat p q) := (pe_op op_cat ha hb).imp fun σ H Q h => by
  obtain ⟨B, env, O, s, l, hp, h⟩ := h
  unfold fCat at hp
  split at hp
  · rename_i l1 l2 e1 e2
    split at hp
    · rename_i hz
      cases hp
      refine ⟨B, env, O, s, l1, e1, fun a1 xs H1 g1 h1 i1 => ⟨B, env, O, s.grw g1, l2, e2, fun a2 ys H2 g2 h2 i2 => ?_⟩⟩
      exact ⟨a1, a2, xs, ys, rfl, rfl, g2 _ _ h1, h2, by rw [i1.length, i2.length, sizeLine_eq]; exact hz, fun z hz => h z _ H2 (g1.trans g2) hz ((i1.grw g2).append i2)⟩
    · cases hp
  · cases hp
def fRep (p : PLs) (q : P) : PLs := fun env => match p env, q env with
  | some a, some (.int k) => if -(2 ^ 63) ≤ k ∧ k < 2 ^ 63 ∧ a.length * k.toNat ≤ 16777216 then some (List.replicate k.toNat a).flatten else none
  | _, _ => none
theorem f_rep {a b : Expr} {p : PLs} (ha : LOk X a p) (hb : BOk X b q) : FOk X (.BinOp a .Mult b pos) (fRep p q) := (pe_op op_rep ha hb).imp fun σ H Q h => by
  obtain ⟨B, env, O, s, l, hp, h⟩ := h
  unfold fRep at hp
  split at hp
  · rename_i l1 k e1 e2
    split at hp
    · rename_i hz
      cases hp
      refine ⟨B, env, O, s, l1, e1, fun a1 xs H1 g1 h1 i1 => ⟨B, env, O, s.grw g1, _, e2, fun v H2 g2 h2 => ?_⟩⟩
      exact ⟨a1, k, xs, rfl, h2, g2 _ _ h1, hz.1, hz.2.1, by rw [i1.length, sizeLine_eq]; exact hz.2.2, fun z hz => h z _ H2 (g1.trans g2) hz ((i1.grw g2).rep _)⟩
    · cases hp
  · cases hp
def evO : Option P → Slots → Option (Option Int)
  | none, _ => some none
  | some p, env => match p env with
    | some (.int i) => some (some i)
    | _ => none
def rdO (X : Cx) (o : Option P) : L2.TO := fun σ H Q => ∃ B env O, Stt X.K B H σ env O ∧ ∃ k, evO o env = some k ∧ ∀ H', Grw H H' → Q k H'
theorem _root_.L2.PO.imp {X : Cx} {e : Option Expr} {t t' : L2.TO} (h : PO X e t) (i : ∀ σ H Q, t' σ H Q → t σ H Q) : PO X e t' := ⟨fun pins s σ H Q I hw => h.run pins s σ H Q I (i σ H Q hw)⟩
theorem o_none : PO X none (rdO X none) := po_none.imp fun σ H Q h => by
  obtain ⟨B, env, O, s, k, hp, h⟩ := h
  cases hp
  exact h H Grw.refl
theorem o_some (h : BOk X e p) : PO X (some e) (rdO X (some p)) := (po_some h).imp fun σ H Q h => by
  obtain ⟨B, env, O, s, k, hp, h⟩ := h
  simp only [evO] at hp
  split at hp
  · rename_i i e1
    cases hp
    exact ⟨B, env, O, s, _, e1, fun v H' g hv => ⟨i, hv, h H' g⟩⟩
  · cases hp
/-- a list cut as a slice cuts it -/
def cutD {α : Type} (l : List α) (lo hi : Option Int) : List α := (l.drop (HT.sIx l.length 0 lo)).take (HT.sIx l.length l.length hi - HT.sIx l.length 0 lo)
theorem IsL.cut {K : PySem.W.Frag} {W : Addr → Prop} {l : List D} {xs : List V} (h : IsL K W H l xs) (lo hi : Option Int) : IsL K W H (cutD l lo hi) (cutV xs lo hi) := by
  unfold cutD cutV
  rw [h.length]
  exact (h.drop _).take _
def fSl (p : PLs) (lo hi : Option P) : PLs := fun env => match p env, evO lo env, evO hi env with
  | some l, some a, some b => some (cutD l a b)
  | _, _, _ => none
theorem f_slice {lo hi : Option Expr} {a b : Option P} {p : PLs} {p2 : Pos} (he : LOk X e p) (hl : PO X lo (rdO X a)) (hu : PO X hi (rdO X b)) : FOk X (.Subscript e (.Slice lo hi none p2) pos) (fSl p a b) := (pe_slice sl_list he hl hu).imp fun σ H Q h => by
  obtain ⟨B, env, O, s, l, hp, h⟩ := h
  unfold fSl at hp
  split at hp
  · rename_i l1 k1 k2 e1 e2 e3
    cases hp
    exact ⟨B, env, O, s, l1, e1, fun a1 xs H1 g1 h1 i1 => ⟨B, env, O, s.grw g1, k1, e2, fun H2 g2 => ⟨B, env, O, (s.grw g1).grw g2, k2, e3, fun H3 g3 =>
      ⟨a1, xs, rfl, SqL.of (g3 _ _ (g2 _ _ h1)), fun z hz => h z _ H3 ((g1.trans g2).trans g3) hz (((i1.grw g2).grw g3).cut k1 k2)⟩⟩⟩⟩
  · cases hp
/-- tuples, texts -/
def slD (d : D) (lo hi : Option Int) : Option D := match d with
  | .tup l => some (.tup (cutD l lo hi))
  | .str z => if z.length ≤ 16777216 then some (.str (cutS z lo hi)) else none
  | _ => none
def pSl (p : P) (lo hi : Option P) : P := fun env => match p env, evO lo env, evO hi env with
  | some d, some a, some b => slD d a b
  | _, _, _ => none
def fRev (p : PLs) : PLs := fun env => (p env).map List.reverse
theorem IsL.rev {K : PySem.W.Frag} {W : Addr → Prop} : ∀ {l : List D} {xs : List V}, IsL K W H l xs → IsL K W H l.reverse xs.reverse
  | [], xs, h => by rw [show xs = [] from h]; exact rfl
  | d :: r, xs, h => by
    obtain ⟨x, ys, rfl, h1, h2⟩ := h
    rw [List.reverse_cons, List.reverse_cons]
    exact (IsL.rev h2).append ⟨x, [], rfl, h1, rfl⟩
theorem f_rev {k : Nat} {p1 p2 p3 : Pos} {p : PLs} (he : LOk X e p) : FOk X (.Subscript e (.Slice none none (some (.UnaryOp .USub (.Constant (.int 1) k p1) p2)) p3) pos) (fRev p) := (pe_revL he).imp fun σ H Q h => by
  obtain ⟨B, env, O, s, l, hp, h⟩ := h
  unfold fRev at hp
  simp only [Option.map_eq_some_iff] at hp
  obtain ⟨l, hp, rfl⟩ := hp
  exact ⟨B, env, O, s, l, hp, fun a1 xs H1 g1 h1 i1 => ⟨a1, xs, rfl, SqL.of h1, fun z hz => h z _ H1 g1 hz i1.rev⟩⟩
def ixD : D → D → Option D
  | .lst l, .int i => atI l i
  | .tup l, .int i => atI l i
  | .str z, .int i => if z.length ≤ 16777216 then (atI z.cps.toList i).map fun c => .str ⟨#[c]⟩ else none
  | .ro l, .int i => (atI l i).map D.int
  | _, _ => none
def pIx (p q : P) : P := fun env => match p env, q env with
  | some d, some k => ixD d k
  | _, _ => none
theorem atI_is {K : PySem.W.Frag} {W : Addr → Prop} {l : List D} {xs : List V} {i : Int} {d : D} (h : IsL K W H l xs) (e : atI l i = some d) : ∃ x, atI xs i = some x ∧ Is K W H d x := by
  unfold atI at e ⊢
  rw [h.length]
  cases eN : ixN l.length i with
  | none => rw [eN] at e; cases e
  | some j =>
    rw [eN] at e
    exact h.get e
theorem ixD_of {K : PySem.W.Frag} {W : Addr → Prop} {d k r : D} {x y : V} {Q : VK} (h1 : Is K W H d x) (h2 : Is K NoW H k y) (e : ixD d k = some r) (h : ∀ v, Is K W H r v → Q v H) : rIx K x y H Q := by
  unfold ixD at e
  split at e
  · obtain ⟨a1, xs, rfl, h3, nw, il⟩ := h1
    obtain ⟨v, e2, hv⟩ := atI_is il e
    exact .inl ⟨a1, xs, _, v, rfl, h2, SqL.of h3, e2, h v hv⟩
  · obtain ⟨a1, xs, rfl, h3, nw, il⟩ := h1
    obtain ⟨v, e2, hv⟩ := atI_is il e
    exact .inr (.inl ⟨a1, xs, _, v, rfl, h2, SqT.of h3, e2, h v hv⟩)
  · split at e
    · rename_i hz
      simp only [Option.map_eq_some_iff] at e
      obtain ⟨c, e, rfl⟩ := e
      exact .inr (.inr ⟨_, _, c, h1, h2, by rw [sizeLine_eq]; exact hz, e, h _ rfl⟩)
    · cases e
  · simp only [Option.map_eq_some_iff] at e
    obtain ⟨c, e, rfl⟩ := e
    obtain ⟨a1, rfl, h3⟩ := h1
    rename_i l i
    have e2 : atI (l.map V.int) i = some (.int c) := by
      unfold atI at e ⊢
      rw [List.length_map]
      cases eN : ixN l.length i with
      | none => rw [eN] at e; cases e
      | some j =>
        rw [eN] at e
        have e' : l[j]? = some c := e
        show (l.map V.int)[j]? = some (.int c)
        rw [List.getElem?_map, e']; rfl
    refine .inl ⟨a1, _, _, _, rfl, h2, ?_, e2, h _ rfl⟩
    rcases h3 with ⟨h3, _⟩ | h3
    · exact .inl h3
    · exact .inr h3
  · cases e
theorem p_ix {a b : Expr} (ha : POk X a p) (hb : BOk X b q) (hs : PlainIx b) : POk X (.Subscript a b pos) (pIx p q) := (pe_ix ix_seq ha hb hs).imp fun σ H Q h => by
  obtain ⟨B, env, O, s, l, hp, h⟩ := h
  unfold pIx at hp
  split at hp
  · rename_i d k e1 e2
    exact ⟨B, env, O, s, d, e1, fun v H1 g1 i1 => ⟨B, env, O, s.grw g1, k, e2, fun u H2 g2 i2 => ixD_of (i1.grw g2) i2 hp fun z hz => h z H2 (g1.trans g2) hz⟩⟩
  · cases hp
def kV (i : Nat) : Slots → Option C := fun env => match env[i]? with
  | some (some c) => some c
  | _ => none
theorem k_V {i : Nat} {x : Str} (hN : X.N[i]? = some x) (hv : Vis X.env.scope x) (hd : (x == ("__debug__" : Str)) = false := by decide) (hcd : (x == ("__classdict__" : Str)) = false := by decide) :
    KOk X (.Name x pos) (kV i) := (pe_var (i := i) hN hv hd hcd).imp fun σ H Q h => by
  obtain ⟨B, env, O, s, d, hp, h⟩ := h
  unfold kV at hp
  split at hp
  · rename_i c e1
    cases hp
    obtain ⟨o, A1, A2, A3, g1, g2, ⟨y, g3, g4⟩, _⟩ := RepE.at s.rep e1
    exact ⟨y, by rw [g1, g3], h y H Grw.refl ⟨A2, fun a ha => by rw [g2]; simp [ha], g4⟩⟩
  · cases hp
def ixC : C → D → Option C
  | .frz d, k => (ixD d k).map .frz
  | .own l, .int i => atI l i
  | _, _ => none
def kIx (f : Slots → Option C) (q : P) : Slots → Option C := fun env => match f env, q env with
  | some c, some k => ixC c k
  | _, _ => none
theorem k_ix {a b : Expr} {f : Slots → Option C} (ha : KOk X a f) (hb : BOk X b q) (hs : PlainIx b) : KOk X (.Subscript a b pos) (kIx f q) := (pe_ix ix_seq ha hb hs).imp fun σ H Q h => by
  obtain ⟨B, env, O, s, l, hp, h⟩ := h
  unfold kIx at hp
  split at hp
  · rename_i c k e1 e2
    refine ⟨B, env, O, s, c, e1, fun v H1 g1 i1 => ⟨B, env, O, s.grw g1, k, e2, fun u H2 g2 i2 => ?_⟩⟩
    obtain ⟨A, hA, i1⟩ := i1
    have i3 : RepC X.K (fun a => B a ∨ a ∈ O) H2 c v A := RepC.kp g2.kp _ _ _ (fun a _ o e => g2 a o e) i1
    unfold ixC at hp
    split at hp
    · rename_i d
      simp only [Option.map_eq_some_iff] at hp
      obtain ⟨r, hp, rfl⟩ := hp
      exact ixD_of i3.2 i2 hp fun z hz => h z H2 (g1.trans g2) ⟨[], by simp, rfl, hz⟩
    · rename_i cs i
      obtain ⟨a1, xs, B1, rfl, rfl, h3, hr⟩ := i3
      unfold atI at hp
      cases eN : ixN cs.length i with
      | none => rw [eN] at hp; cases hp
      | some j =>
        rw [eN] at hp
        obtain ⟨x, A1, A2, A3, q1, q2, q3, _⟩ := RepL.at hr hp
        refine .inl ⟨a1, xs, i, x, rfl, i2, SqL.of h3, ?_, h x H2 (g1.trans g2) ⟨A2, fun b hb => hA b (by simp [q2, hb]), q3⟩⟩
        unfold atI
        rw [hr.length, eN]
        exact q1
    · cases hp
  · cases hp
/-- its plain data, where it is frozen -/
def pKf (f : Slots → Option C) : P := fun env => match f env with
  | some (.frz d) => some d
  | _ => none
def bKf (f : Slots → Option C) : P := fun env => (f env).map C.toD
theorem b_Kf {f : Slots → Option C} (h : KOk X e f) : BOk X e (bKf f) := h.imp fun σ H Q h => by
  obtain ⟨B, env, O, s, l, hp, h⟩ := h
  unfold bKf at hp
  simp only [Option.map_eq_some_iff] at hp
  obtain ⟨c, hp, rfl⟩ := hp
  exact ⟨B, env, O, s, _, hp, fun v H' g ⟨A, hA, i⟩ => h v H' g (RepC.is (fun _ z => z.elim) _ _ _ (fun _ _ z => z) i)⟩
/-- a slot's own list whose things are frozen -/
def frzs : List C → Option (List D)
  | [] => some []
  | .frz d :: r => (frzs r).map (d :: ·)
  | _ => none
theorem frzs_is {K : PySem.W.Frag} {W : Addr → Prop} : ∀ {cs : List C} {xs : List V} {A : List Addr} {l : List D}, RepL K W H cs xs A → frzs cs = some l → IsL K W H l xs
  | [], xs, A, l, h, e => by cases e; exact h.1
  | .frz d :: r, xs, A, l, h, e => by
    simp only [frzs, Option.map_eq_some_iff] at e
    obtain ⟨l, e, rfl⟩ := e
    obtain ⟨x, ys, A1, A2, rfl, rfl, h1, h2⟩ := h
    exact ⟨x, ys, rfl, h1.2, frzs_is h2 e⟩
  | .own _ :: r, xs, A, l, h, e => by simp [frzs] at e
  | .ownD _ :: r, xs, A, l, h, e => by simp [frzs] at e
  | .ownT _ :: r, xs, A, l, h, e => by simp [frzs] at e
  | .tabs _ :: r, xs, A, l, h, e => by simp [frzs] at e
@[simp] theorem frzs_map (l : List D) : frzs (l.map .frz) = some l := by
  induction l with
  | nil => rfl
  | cons d r ih => simp [frzs, ih]
def lKf (f : Slots → Option C) : PLs := fun env => match f env with
  | some (.own cs) => frzs cs
  | some (.frz (.lst l)) => some l
  | _ => none
theorem l_Kf {f : Slots → Option C} (h : KOk X e f) : LOk X e (lKf f) := h.imp fun σ H Q h => by
  obtain ⟨B, env, O, s, l, hp, h⟩ := h
  unfold lKf at hp
  split at hp
  · rename_i cs e1
    refine ⟨B, env, O, s, _, e1, fun v H' g ⟨A, hA, i⟩ => ?_⟩
    obtain ⟨a1, xs, B1, rfl, rfl, h3, hr⟩ := i
    exact h a1 xs H' g h3 (frzs_is hr hp)
  · rename_i l' e1
    cases hp
    refine ⟨B, env, O, s, _, e1, fun v H' g ⟨A, hA, i⟩ => ?_⟩
    obtain ⟨_, a1, xs, rfl, h3, nw, hl⟩ := i
    exact h a1 xs H' g h3 hl
  · cases hp
def CalS (K : PySem.W.Frag) (r : List V → Hp → VK → Prop) (fn : List D → Option V) : Prop := ∀ (H : Hp) (xs : List V) (ds : List D) (v : V) (Q : VK), IsL K NoW H ds xs → fn ds = some v → Q v H → r xs H Q
def pCall (fn : List D → Option V) (ps : List P) : P := fun env => match evPs ps env with
  | some ds => (fn ds).map ofV
  | none => none
theorem pCall_of {rr : List V → Hp → VK → Prop} {fn : List D → Option V} (h : CalS X.K rr fn) (σ : L2.St) (H : Hp) (Q : VK) (hq : rdP X (pCall fn ps) σ H Q) : tCB rr (rdDB X ps) σ H Q := by
  obtain ⟨B, env, O, s, d, hp, hq⟩ := hq
  unfold pCall at hp
  split at hp
  · rename_i ds e1
    simp only [Option.map_eq_some_iff] at hp
    obtain ⟨v, hv, rfl⟩ := hp
    exact ⟨B, env, O, s, ds, e1, fun vs H1 g1 i1 => h H1 vs ds v Q i1 hv (hq v H1 g1 (ofV_is _ _ _ v))⟩
  · cases hp
theorem IsL.one {K : PySem.W.Frag} {W : Addr → Prop} {d : D} {xs : List V} (h : IsL K W H [d] xs) : ∃ x, xs = [x] ∧ Is K W H d x := by
  obtain ⟨x, ys, rfl, h1, h2⟩ := h
  rw [show ys = [] from h2]
  exact ⟨x, rfl, h1⟩
theorem IsL.two {K : PySem.W.Frag} {W : Addr → Prop} {d e : D} {xs : List V} (h : IsL K W H [d, e] xs) : ∃ x y, xs = [x, y] ∧ Is K W H d x ∧ Is K W H e y := by
  obtain ⟨x, ys, rfl, h1, h2⟩ := h
  obtain ⟨y, rfl, h3⟩ := h2.one
  exact ⟨x, y, rfl, h1, h3⟩
def lenF : List D → Option V
  | [.lst l] => some (.int l.length)
  | [.tup l] => some (.int l.length)
  | [.ro l] => some (.int l.length)
  | [.str z] => if z.length ≤ 16777216 then some (.int z.length) else none
  | [.dct l] => some (.int l.length)
  | [.dcT l] => some (.int l.length)
  | _ => none
theorem IsP.length {K : PySem.W.Frag} {W : Addr → Prop} : ∀ {l : List (Key × D)} {xs : List (Key × V)}, IsP K W H l xs → xs.length = l.length
  | [], xs, h => by rw [show xs = [] from h]; rfl
  | (k, d) :: r, xs, h => by
    obtain ⟨x, ys, rfl, h1, h2⟩ := h
    rw [List.length_cons, List.length_cons, IsP.length h2]
theorem IsQ.length {K : PySem.W.Frag} {W : Addr → Prop} : ∀ {l : List (List Key × D)} {xs : List (List Key × V)}, IsQ K W H l xs → xs.length = l.length
  | [], xs, h => by rw [show xs = [] from h]; rfl
  | (k, d) :: r, xs, h => by
    obtain ⟨x, ys, rfl, h1, h2⟩ := h
    rw [List.length_cons, List.length_cons, IsQ.length h2]
theorem cal_len : CalS X.K (fun xs H Q => (∃ x n, xs = [x] ∧ LenV X.K x H n ∧ Q (.int n) H) ∨ (∃ a kvs, xs = [V.ref a] ∧ H a = some (.dK kvs) ∧ Q (.int kvs.length) H) ∨ rLenT xs H Q) lenF := fun H xs ds v Q h e q => by
  unfold lenF at e
  split at e
  · cases e
    obtain ⟨x, rfl, a, ys, rfl, ha, _, il⟩ := h.one
    exact .inl ⟨_, _, rfl, .inl ⟨ys, SqL.of ha, rfl⟩, by rw [il.length]; exact q⟩
  · cases e
    obtain ⟨x, rfl, a, ys, rfl, ha, _, il⟩ := h.one
    exact .inl ⟨_, _, rfl, .inr ⟨ys, SqT.of ha, rfl⟩, by rw [il.length]; exact q⟩
  · rename_i l
    cases e
    obtain ⟨x, rfl, a, rfl, ha⟩ := h.one
    refine .inl ⟨_, l.length, rfl, .inl ⟨l.map V.int, ?_, by simp⟩, q⟩
    rcases ha with ⟨h3, _⟩ | h3
    · exact .inl h3
    · exact .inr h3
  · split at e
    · rename_i z hz
      cases e
      obtain ⟨x, rfl, hx⟩ := h.one
      rw [show x = _ from hx]
      exact .inl ⟨_, _, rfl, ⟨by rw [sizeLine_eq]; exact hz, rfl⟩, q⟩
    · cases e
  · cases e
    obtain ⟨x, rfl, a, ys, rfl, ha, _, il⟩ := h.one
    exact .inr (.inl ⟨_, _, rfl, ha, by rw [il.length]; exact q⟩)
  · cases e
    obtain ⟨x, rfl, a, ys, rfl, ha, _, il⟩ := h.one
    exact .inr (.inr ⟨_, _, rfl, ha, by rw [il.length]; exact q⟩)
  · cases e
def absF : List D → Option V
  | [.int i] => some (.int (if i < 0 then -i else i))
  | _ => none
theorem cal_abs : CalS X.K (fun xs H Q => ∃ i, xs = [.int i] ∧ Q (.int (if i < 0 then -i else i)) H) absF := fun H xs ds v Q h e q => by
  unfold absF at e
  split at e
  · cases e
    obtain ⟨x, rfl, hx⟩ := h.one
    rw [show x = _ from hx]
    exact ⟨_, rfl, q⟩
  · cases e
def intF : List D → Option V
  | [.int i] => some (.int i)
  | [.bl k] => some (.int (if k then 1 else 0))
  | _ => none
theorem cal_int : CalS X.K (fun xs H Q => (∃ i, xs = [.int i] ∧ Q (.int i) H) ∨ ∃ k, xs = [.bl k] ∧ Q (.int (if k then 1 else 0)) H) intF := fun H xs ds v Q h e q => by
  unfold intF at e
  split at e
  · cases e
    obtain ⟨x, rfl, hx⟩ := h.one
    rw [show x = _ from hx]
    exact .inl ⟨_, rfl, q⟩
  · cases e
    obtain ⟨x, rfl, hx⟩ := h.one
    rw [show x = _ from hx]
    exact .inr ⟨_, rfl, q⟩
  · cases e
def strF : List D → Option V
  | [.int i] => if i.natAbs.log2 < 1920 then some (.str (toString i)) else none
  | _ => none
def intsOf : List D → Option (List Int)
  | [] => some []
  | .int i :: r => (intsOf r).map (i :: ·)
  | _ => none
@[simp] theorem intsOf_map (l : List Int) : intsOf (l.map .int) = some l := by
  induction l with
  | nil => rfl
  | cons d r ih => simp [intsOf, ih]
theorem intsOf_is : ∀ {l : List D} {ns : List Int}, intsOf l = some ns → l = ns.map .int
  | [], ns, h => by cases h; rfl
  | .int i :: r, ns, h => by
    simp only [intsOf, Option.map_eq_some_iff] at h
    obtain ⟨m, h, rfl⟩ := h
    rw [intsOf_is h]; rfl
  | .non :: _, ns, h | .bl _ :: _, ns, h | .str _ :: _, ns, h | .tup _ :: _, ns, h | .lst _ :: _, ns, h | .dct _ :: _, ns, h | .dcT _ :: _, ns, h | .dcL _ :: _, ns, h | .ro _ :: _, ns, h | .fn _ :: _, ns, h | .opq _ :: _, ns, h | .lam _ _ :: _, ns, h => by simp [intsOf] at h
def blsOf : List D → Option (List Bool)
  | [] => some []
  | .bl i :: r => (blsOf r).map (i :: ·)
  | _ => none
@[simp] theorem blsOf_map (l : List Bool) : blsOf (l.map .bl) = some l := by
  induction l with
  | nil => rfl
  | cons d r ih => simp [blsOf, ih]
theorem blsOf_is : ∀ {l : List D} {ns : List Bool}, blsOf l = some ns → l = ns.map .bl
  | [], ns, h => by cases h; rfl
  | .bl i :: r, ns, h => by
    simp only [blsOf, Option.map_eq_some_iff] at h
    obtain ⟨m, h, rfl⟩ := h
    rw [blsOf_is h]; rfl
  | .non :: _, ns, h | .int _ :: _, ns, h | .str _ :: _, ns, h | .tup _ :: _, ns, h | .lst _ :: _, ns, h | .dct _ :: _, ns, h | .dcT _ :: _, ns, h | .dcL _ :: _, ns, h | .ro _ :: _, ns, h | .fn _ :: _, ns, h | .opq _ :: _, ns, h | .lam _ _ :: _, ns, h => by simp [blsOf] at h
theorem IsL.of_bls {K : PySem.W.Frag} {W : Addr → Prop} : ∀ {l : List Bool} {xs : List V}, IsL K W H (l.map D.bl) xs → xs = l.map V.bl
  | [], xs, h => h
  | i :: r, xs, h => by
    obtain ⟨x, ys, e, h1, h2⟩ := h
    rw [e, show x = V.bl i from h1, IsL.of_bls h2]; rfl
/-- the greatest of a list -/
def maxL : List Int → Option Int
  | [] => none
  | x :: r => some (r.foldl max x)
theorem foldl_max_mem : ∀ (r : List Int) (x : Int), r.foldl max x ∈ x :: r ∧ ∀ y ∈ x :: r, y ≤ r.foldl max x
  | [], x => by simp
  | z :: r, x => by
    obtain ⟨h1, h2⟩ := foldl_max_mem r (max x z)
    refine ⟨?_, fun y hy => ?_⟩
    · rw [List.foldl_cons]
      rcases List.mem_cons.mp h1 with h1 | h1
      · rw [h1]
        rcases Int.le_total x z with h | h
        · rw [Int.max_eq_right h]; simp
        · rw [Int.max_eq_left h]; simp
      · simp [h1]
    · rw [List.foldl_cons]
      have h3 := h2 (max x z) (by simp)
      rcases List.mem_cons.mp hy with rfl | hy
      · omega
      · rcases List.mem_cons.mp hy with rfl | hy
        · omega
        · exact h2 y (by simp [hy])
theorem maxL_eq {l : List Int} {m k : Int} (h : maxL l = some m) (h1 : k ∈ l) (h2 : ∀ y ∈ l, y ≤ k) : k = m := by
  cases l with
  | nil => cases h
  | cons x r =>
    obtain ⟨g1, g2⟩ := foldl_max_mem r x
    simp only [maxL, Option.some.injEq] at h
    subst h
    have a1 := h2 _ g1
    have a2 := g2 _ h1
    omega
def maxF : List D → Option V
  | [.lst l] => (intsOf l).bind fun ns => (maxL ns).map .int
  | [.int i, .int j] => some (.int (if j > i then j else i))
  | _ => none
theorem cal_max : CalS X.K (fun xs H Q => rMax X.K xs H Q ∨ ∃ i j, xs = [.int i, .int j] ∧ Q (.int (if j > i then j else i)) H) maxF := fun H xs ds v Q h e q => by
  unfold maxF at e
  split at e
  · simp only [Option.bind_eq_some_iff, Option.map_eq_some_iff] at e
    obtain ⟨ns, e1, m, e2, rfl⟩ := e
    rw [intsOf_is e1] at h
    obtain ⟨x, rfl, a, ys, rfl, ha, _, il⟩ := h.one
    rw [il.of_ints] at ha
    refine .inl ⟨a, ns, rfl, SqL.of ha, ?_, fun k h1 h2 => ?_⟩
    · cases ns with
      | nil => cases e2
      | cons _ _ => simp
    · rw [maxL_eq e2 h1 h2]; exact q
  · cases e
    obtain ⟨x, y, rfl, hx, hy⟩ := h.two
    rw [show x = _ from hx, show y = _ from hy]
    exact .inr ⟨_, _, rfl, q⟩
  · cases e
def minF : List D → Option V
  | [.int i, .int j] => some (.int (if j < i then j else i))
  | _ => none
def sumF : List D → Option V
  | [.lst l] => (intsOf l).map fun ns => .int ns.sum
  | _ => none
def allF : List D → Option V
  | [.lst l] => (blsOf l).map fun ns => .bl (ns.all id)
  | _ => none
theorem cal_all : CalS X.K (rAll X.K) allF := fun H xs ds v Q h e q => by
  unfold allF at e
  split at e
  · simp only [Option.map_eq_some_iff] at e
    obtain ⟨ns, e1, rfl⟩ := e
    rw [blsOf_is e1] at h
    obtain ⟨x, rfl, a, ys, rfl, ha, _, il⟩ := h.one
    rw [il.of_bls] at ha
    exact ⟨a, ns, rfl, SqL.of ha, q⟩
  · cases e
def anyF : List D → Option V
  | [.lst l] => (blsOf l).map fun ns => .bl (ns.any id)
  | _ => none
section
variable {id T : String} {x : Str} {pp : Pos} {fn : List D → Option V} {rr : List V → Hp → VK → Prop}
theorem p_callB (hc : CallR X (.builtin id) rr) (h : CalS X.K rr fn) (hg : Gl X x) (hm : X.mg x = none) (hv : bootBuiltins x = some (.builtin id)) (ha : ABk X (e :: es) ps) (hn : x ≠ "__name__" := by decide) (hdb : (x == ("__debug__" : Str)) = false := by decide)
    (he : starEach (e :: es) X.env = (false, eval e X.env) :: starEach es X.env := by rfl) (hpl : (backTo pos (starEach es X.env)).any (·.1) = false := by rfl) : POk X (.Call (.Name x pp) (e :: es) [] pos) (pCall fn ps) :=
  (pe_callB hc hg hm hv ha hn hdb he hpl).imp (pCall_of h)
theorem p_callT (hc : CallR X (.type T) rr) (h : CalS X.K rr fn) (hg : Gl X x) (hm : X.mg x = none) (hv : bootBuiltins x = some (.type T)) (ha : ABk X (e :: es) ps) (hn : x ≠ "__name__" := by decide) (hdb : (x == ("__debug__" : Str)) = false := by decide)
    (he : starEach (e :: es) X.env = (false, eval e X.env) :: starEach es X.env := by rfl) (hpl : (backTo pos (starEach es X.env)).any (·.1) = false := by rfl) : POk X (.Call (.Name x pp) (e :: es) [] pos) (pCall fn ps) :=
  (pe_callTy hc hg hm hv ha hn hdb he hpl).imp (pCall_of h)
end
end
end PL
namespace PL
open PySem PySem.Spec PyProof.Rows L2
section
variable {X : Cx} {w : WX} {H : Hp} {σ : L2.St} {e : Expr} {es : List Expr} {p q r : P} {ps : List P} {pos : Pos}
def tyN : D → Option String
  | .non => some "NoneType"
  | .bl _ => some "bool"
  | .int _ => some "int"
  | .str _ => some "str"
  | .tup _ => some "tuple"
  | .lst _ => some "list"
  | .ro _ => some "list"
  | .dct _ => some "dict"
  | .dcT _ => some "dict"
  | .dcL _ => none
  | .fn _ => none
  | .opq _ => none
  | .lam _ _ => none
def isSubN (a b : String) : Bool := a == b || (a == "bool" && b == "int")
abbrev clsNs : List String := ["int", "bool", "str", "list", "tuple", "dict"]
theorem kits : ((["NoneType", "bool", "int", "str", "tuple", "list", "dict"] : List String).all fun a => clsNs.all fun b => kitB a b == some (isSubN a b)) = true := by decide +kernel
theorem kit_D {K : PySem.W.Frag} {W : Addr → Prop} {d : D} {v : V} {t c : String} (h : Is K W H d v) (e : tyN d = some t) (hc : clsNs.contains c = true) : TyX K H v (.type t) ∧ PySem.W.kitOne K (.type t) (.type c) = some (isSubN t c) := by
  have k2 : ∀ a, a ∈ (["NoneType", "bool", "int", "str", "tuple", "list", "dict"] : List String) → PySem.W.kitOne K (.type a) (.type c) = some (isSubN a c) := fun a ha => by
    have q := List.all_eq_true.mp kits a ha
    have q2 := List.all_eq_true.mp q c (List.contains_iff_mem.mp hc)
    exact kit_ty (eq_of_beq q2)
  cases d with
  | non => cases e; rw [show v = _ from h]; exact ⟨.base .non, k2 _ (by simp)⟩
  | bl b => cases e; rw [show v = _ from h]; exact ⟨.base (.bl b), k2 _ (by simp)⟩
  | int b => cases e; rw [show v = _ from h]; exact ⟨.base (.int b), k2 _ (by simp)⟩
  | str b => cases e; rw [show v = _ from h]; exact ⟨.base (.str b), k2 _ (by simp)⟩
  | tup l => cases e; obtain ⟨a, xs, rfl, ha, _⟩ := h; exact ⟨.base (.tup ha), k2 _ (by simp)⟩
  | lst l => cases e; obtain ⟨a, xs, rfl, ha, _⟩ := h; exact ⟨.base (.lst ha), k2 _ (by simp)⟩
  | dct l => cases e; obtain ⟨a, xs, rfl, ha, _⟩ := h; exact ⟨.base (.dK ha), k2 _ (by simp)⟩
  | dcT l => cases e; obtain ⟨a, xs, rfl, ha, _⟩ := h; exact ⟨.base (.dT ha), k2 _ (by simp)⟩
  | dcL l => cases e
  | fn l => cases e
  | opq l => cases e
  | lam _ _ => cases e
  | ro l =>
    cases e
    obtain ⟨a, rfl, h⟩ := h
    refine ⟨?_, k2 _ (by simp)⟩
    rcases h with ⟨h | ⟨o, h⟩, _⟩ | ⟨o, its, n, h1, h2, _⟩
    · exact .base (.lst h)
    · exact .base (.frz h)
    · exact .kList h1 h2
def clsD : List D → Option (List String)
  | [] => some []
  | .opq (.ty c) :: r => if clsNs.contains c then (clsD r).map (c :: ·) else none
  | _ => none
def isiF : List D → Option V
  | [d, .opq (.ty c)] => match tyN d with
    | some t => if clsNs.contains c then some (.bl (isSubN t c)) else none
    | none => none
  | [d, .tup cs] => match tyN d, clsD cs with
    | some t, some ns => some (.bl (ns.any (isSubN t)))
    | _, _ => none
  | _ => none
theorem clsD_is {K : PySem.W.Frag} {W : Addr → Prop} {t : String} (ht : ∀ c, clsNs.contains c = true → PySem.W.kitOne K (.type t) (.type c) = some (isSubN t c)) : ∀ {cs : List D} {ns : List String} {xs : List V}, clsD cs = some ns → IsL K W H cs xs →
    Paired ClsV xs (ns.map fun c => Value.type c) ∧ PySem.W.kitAny K (.type t) (ns.map fun c => Value.type c) = some (ns.any (isSubN t))
  | [], ns, xs, e, h => by
    cases e
    rw [show xs = [] from h]
    exact ⟨.nil, kitAny_nil⟩
  | .opq (.ty c) :: r, ns, xs, e, h => by
    simp only [clsD] at e
    split at e
    · rename_i hc
      simp only [Option.map_eq_some_iff] at e
      obtain ⟨ms, e, rfl⟩ := e
      obtain ⟨x, ys, rfl, h1, h2⟩ := h
      obtain ⟨g1, g2⟩ := clsD_is ht e h2
      rw [show x = V.ty c from h1]
      refine ⟨.cons (.ty c) g1, kitAny_cons (ht c hc) (fun hb => ?_) fun hb => ?_⟩
      · rw [g2, List.any_cons, hb, Bool.false_or]
      · rw [List.any_cons, hb, Bool.true_or]
    · cases e
  | .opq .non :: _, ns, xs, e, h | .opq (.bl _) :: _, ns, xs, e, h | .opq (.int _) :: _, ns, xs, e, h | .opq (.str _) :: _, ns, xs, e, h | .opq (.byt _) :: _, ns, xs, e, h | .opq (.flt _) :: _, ns, xs, e, h | .opq (.ref _) :: _, ns, xs, e, h => by simp [clsD] at e
  | .non :: _, ns, xs, e, h | .bl _ :: _, ns, xs, e, h | .int _ :: _, ns, xs, e, h | .str _ :: _, ns, xs, e, h | .tup _ :: _, ns, xs, e, h | .lst _ :: _, ns, xs, e, h | .dct _ :: _, ns, xs, e, h | .dcT _ :: _, ns, xs, e, h | .dcL _ :: _, ns, xs, e, h | .ro _ :: _, ns, xs, e, h | .fn _ :: _, ns, xs, e, h | .lam _ _ :: _, ns, xs, e, h => by simp [clsD] at e
theorem cal_isi : CalS X.K (fun xs H Q => rIsi X.K xs H Q ∨ rIsiT X.K xs H Q) isiF := fun H xs ds v Q h e q => by
  unfold isiF at e
  split at e
  · rename_i d c
    split at e
    · rename_i t et
      split at e
      · rename_i hc
        cases e
        obtain ⟨x, y, rfl, hx, hy⟩ := h.two
        obtain ⟨k1, k2⟩ := kit_D hx et hc
        rw [show y = V.ty c from hy]
        exact .inl ⟨x, .ty c, _, _, _, rfl, .ty c, k1, k2, q⟩
      · cases e
    · cases e
  · rename_i d cs
    split at e
    · rename_i t ns et ens
      cases e
      obtain ⟨x, y, rfl, hx, hy⟩ := h.two
      obtain ⟨a, ys, rfl, ha, _, il⟩ := hy
      obtain ⟨k1, _⟩ := kit_D (c := "int") hx et rfl
      obtain ⟨g1, g2⟩ := clsD_is (t := t) (fun c hc => (kit_D hx et hc).2) ens il
      exact .inr ⟨x, a, ys, _, _, _, rfl, ha, g1, k1, g2, q⟩
    · cases e
  · cases e
theorem p_ty {x : Str} {n : String} (hg : Gl X x) (hm : X.mg x = none) (hv : bootBuiltins x = some (.type n)) (hn : x ≠ "__name__" := by decide) (hd : (x == ("__debug__" : Str)) = false := by decide) : POk X (.Name x pos) (pK (.opq (.ty n))) :=
  p_C (pe_bltn hg hm hv (v := .ty n) rfl hn hd) fun _ _ _ => rfl
def fList (p : PLs) : PLs := p
/-- any sequence: a list or a tuple -/
def sqD : D → Option (List D)
  | .lst l => some l
  | .tup l => some l
  | _ => none
def fSq (p : P) : PLs := fun env => (p env).bind sqD
theorem f_listS {x : Str} {pp : Pos} (hg : Gl X x) (hm : X.mg x = none) (hv : bootBuiltins x = some (.type "list")) (ha : POk X e p) (hn : x ≠ "__name__" := by decide) (hdb : (x == ("__debug__" : Str)) = false := by decide)
    (he : starEach [e] X.env = (false, eval e X.env) :: starEach [] X.env := by rfl) (hpl : (backTo pos (starEach [] X.env)).any (·.1) = false := by rfl) : FOk X (.Call (.Name x pp) [e] [] pos) (fSq p) :=
  (pe_callTy call_list_of hg hm hv (pa_cons ha pa_nil he) hn hdb he hpl).imp fun σ H Q h => by
    obtain ⟨B, env, O, s, l, hp, h⟩ := h
    unfold fSq at hp
    simp only [Option.bind_eq_some_iff] at hp
    obtain ⟨d, e1, e2⟩ := hp
    refine ⟨B, env, O, s, d, e1, fun v H1 g1 hv => ?_⟩
    unfold sqD at e2
    split at e2
    · cases e2
      obtain ⟨a, xs, rfl, ha, nw, il⟩ := hv
      exact ⟨a, xs, rfl, .inl (SqL.of ha), fun z hz => h z xs H1 g1 hz il⟩
    · cases e2
      obtain ⟨a, xs, rfl, ha, nw, il⟩ := hv
      exact ⟨a, xs, rfl, .inr (SqT.of ha), fun z hz => h z xs H1 g1 hz il⟩
    · cases e2
def pTupL (p : PLs) : P := fun env => (p env).map .tup
end
end PL
namespace PL
open PySem PySem.Spec PyProof.Rows L2
abbrev CY (Pr : Program) (w : World) : CXT := L2.CX Pr w
structure FnG (Pr : Program) (w : World) (K : PySem.W.Frag) (mg : Str → Option Value) (base : Heap) (k : Nat) (f : Addr) (fd : FuncData) (ps : List Str) (sp : Sp) : Prop where
  len : ∀ vs H Q E, sp vs H Q E → vs.length = ps.length
  run : ∀ (A : Around) (outer : List Env) (s : Shared) (H : Hp) (args : Args) (us : List Value) (vs : List V) (Q : VK) (E : XK), A.guards = some [] → Room k A → Env0 Pr w K mg base A outer s H → BindsTo s fd args (ps.zip us) → Vals vs us → sp vs H Q E →
    codeAny (model Pr w) A (.call (.ref f) args) (CR (CY Pr w) outer Pr w H s Q E) s
theorem fn_ofG {Pr : Program} {w : World} {K : PySem.W.Frag} {mg : Str → Option Value} {base : Heap} {k : Nat} {f : Addr} {nm qu : Str} {pa : Arguments} {body : List Stmt} {sc : Scope} {dV kV doc pm cdv ct oc : Value} {an od : Option Addr}
    {osl : Array (Option Value)} {N ps : List Str} {sp : Sp} (lk : K.lookup f = some ⟨oc, od, .func (PySem.W.fnOf nm qu pa body sc dV kV doc pm an cdv ct), osl⟩) (hcd : PySem.W.codeIn K cdv qu = true) (S : FnScope N ps sc)
    (len : ∀ vs H Q E, sp vs H Q E → vs.length = ps.length)
    (hb : ∀ (A : Around) (outer : List Env) (s : Shared) (H : Hp) (vs : List V) (Q : VK) (E : XK), A.guards = some [] → Room k (A.deeper (envOfC qu sc s.heap.objs.size f cdv)) → sp vs H Q E →
      ∃ t, PSs (cxOf (CY Pr w) Pr w K mg base N qu sc f cdv A outer s H E) body t ∧ t { nx := fun _ H' => Q .non H', rt := Q } (start N vs) H) :
    FnG Pr w K mg base (k + 1) f (PySem.W.fnOf nm qu pa body sc dV kV doc pm an cdv ct) ps sp :=
  ⟨len, fun A outer s H args us vs Q E hg room e0 bd rel want => by
    have stay := fun b o e => (e0.bs b o e).1
    have kin : K.In s.heap := e0.mod.kin.keeps stay
    refine codeAny_call_function room.depth (kin _ _ lk) rfl S.co S.gen rfl (PySem.W.codeRec_of kin hcd) (bd _ _ _ _ ?_)
    have kinds : ∀ y ∈ ps.zip us, sc.names.lookup y.1 = some .local ∨ (sc.names.lookup y.1 = some .cell ∧ ((cellsFrom (s.heap.objs.size + 1) sc.names []).lookup y.1).isSome = true) := by
      rintro ⟨n, v⟩ hy
      exact (S.par n (List.of_mem_zip hy).1).imp id fun q => ⟨q, PySem.W.cellsFrom_some _ _ _ (.inl q)⟩
    refine wpAny_newFunctionEnv_cells S.kind kinds fun ev he s1 ic => ?_
    subst he
    obtain ⟨t, ht, hq⟩ := hb A outer s H vs Q E hg (room.deeper _) want
    refine ⟨(e0.mod.nolimit.keeps stay).keeps ic.toInCall.keep, codeAny_func (wpAny_mono (ht.run [] s1 (start N vs) H _ (inv_start S room.hd e0 (len _ _ _ _ want) rel ic) hq) ?_ fun _ _ z => z)⟩
    intro fl s2 hs
    cases fl with
    | ret u => obtain ⟨v, τ, H2, J, rv, q⟩ := hs; exact ⟨v, H2, J.os, J.bare, J.base, J.hok, rv, q⟩
    | next => obtain ⟨τ, H2, J, q⟩ := hs; exact ⟨.non, H2, J.os, J.bare, J.base, J.hok, rfl, q⟩
    | brk => obtain ⟨_, _, _, z⟩ := hs; exact z.elim
    | cont => obtain ⟨_, _, _, z⟩ := hs; exact z.elim⟩
section
variable {X : Cx} {k : Nat} {f : Addr} {fd : FuncData} {ps ks : List Str} {sp : Sp} {E : XK}
/-- what a callee lets out is taken, at this state -/
abbrev PassI (X : Cx) (H : Hp) (s : Shared) (E : XK) : Prop := ∀ e s', CY X.prog X.w X.stack H s E e s' → X.xe e s'
theorem end_of {pins : List (Addr × Obj)} {σ : L2.St} {H : Hp} {s s' : Shared} {Q : VK} {r : Result} (I : Inv X pins σ H s) (hx : PassI X H s E) (hq : CR (CY X.prog X.w) X.stack X.prog X.w H s Q E r s') :
    match r with | .ok (.ret u) => EP X pins σ Q u s' | .ok _ => False | .error e => X.xe e s' := by
  cases r with
  | error e => exact hx e s' hq
  | ok fl => cases fl <;> first | exact I.after hq | exact hq
theorem run_G {pins : List (Addr × Obj)} {σ : L2.St} {H : Hp} {s : Shared} {Q : VK} {us zs : List Value} {kw : List (Str × Value)} {vs : List V} (F : FnG X.prog X.w X.K X.mg X.base k f fd ps sp) (hg : X.A.guards = some []) (hr : Room k X.A) (hx : PassI X H s E)
    (bd : BindsTo s fd ⟨us, kw⟩ (ps.zip zs)) (I : Inv X pins σ H s) (r : Vals vs zs) (h : sp vs H Q E) : wpAny (model X.prog X.w) X.A (call (.ref f) us kw) (EP X pins σ Q) X.xe s :=
  wpAny_call (codeAny_mono (F.run X.A X.stack s H _ zs vs Q E hg hr I.env0 bd r h) fun r s' hq => by
    have z := end_of I hx hq
    cases r with
    | error e => exact z
    | ok fl => cases fl <;> first | exact z | exact z.elim)
end
/-- the promise: m of the arguments' cells; m hands back what becomes of those that it may change -/
def spM (K : PySem.W.Frag) (mg : Str → Option Value) (n : Nat) (m : List C → Out C) : Sp := fun vs H Q E => vs.length = n ∧ ∃ B cs O, Stt K B H (vs.map some) (cs.map some) O ∧ match m cs with
  | .ok c outs => ∀ u H' A O', Res K B O H (vs.map some) c outs u H' A O' → Q u H'
  | .err x outs => ∀ cls d H' O', XRes K mg B O H (vs.map some) x outs cls d H' O' → E cls d H'
  | .no => False
structure FnM (Pr : Program) (w : World) (K : PySem.W.Frag) (mg : Str → Option Value) (base : Heap) (k : Nat) (x : Str) (st : Stmt) (ps : List Str) (m : List C → Out C) : Prop where
  ex : ∃ (f : Addr) (kV doc pm : Value) (an : Option Addr) (cdv ct : Value), mg x = some (.ref f) ∧ PySem.W.keepIn K (.ref f) = true ∧
    FnG Pr w K mg base k f (PySem.W.fnOf x x (defArgs st) (defBody st) (defScope st) .none kV doc pm an cdv ct) ps (spM K mg ps.length m)
/-- the i-th parameter is the (g i)-th written value -/
def pick {α : Type} (js : List Nat) (l : List α) : List α := js.filterMap fun j => l[j]?
/-- how the written arguments bind -/
def BindP (x : Str) (st : Stmt) (ps : List Str) : Prop := ∀ (kV doc pm : Value) (an : Option Addr) (cdv ct : Value) (us : List Value), us.length = ps.length → bindArgs (PySem.W.fnOf x x (defArgs st) (defBody st) (defScope st) .none kV doc pm an cdv ct) ⟨us, []⟩ = pure (ps.zip us)
def BindK (x : Str) (st : Stmt) (ps ks : List Str) (js : List Nat) : Prop := ∀ (kV doc pm : Value) (an : Option Addr) (cdv ct : Value) (ws : List Value), ws.length = ks.length →
  bindArgs (PySem.W.fnOf x x (defArgs st) (defBody st) (defScope st) .none kV doc pm an cdv ct) ⟨[], ks.zip ws⟩ = pure (ps.zip (pick js ws))
theorem passX0 {X : Cx} {H : Hp} {s : Shared} : PassI X H s E0 := fun _ _ h => by
  obtain ⟨_, _, _, _, _, _, _, _, _, _, _, _, z⟩ := h
  exact z.elim
section
variable {X : Cx} {w : WX} {H : Hp} {σ : L2.St} {e : Expr} {es : List Expr} {p q r : P} {ps : List P} {pos pp : Pos} {K : PySem.W.Frag} {B : Addr → Prop} {O : List Addr} {env : Slots}
theorem IsL.repE {W : Addr → Prop} : ∀ {ds : List D} {vs : List V}, IsL K W H ds vs → RepE K W H ((ds.map C.frz).map some) (vs.map some) []
  | [], vs, h => by rw [show vs = [] from h]; exact ⟨rfl, rfl⟩
  | d :: r, vs, h => by
    obtain ⟨x, ys, rfl, h1, h2⟩ := h
    exact ⟨some x, ys.map some, [], [], rfl, rfl, ⟨x, rfl, rfl, h1⟩, IsL.repE h2⟩
theorem IsL.stt (s : Stt K B H σ env O) {ds : List D} {vs : List V} (h : IsL K (fun a => B a ∨ a ∈ O) H ds vs) : Stt K (fun a => B a ∨ a ∈ O) H (vs.map some) ((ds.map C.frz).map some) [] :=
  ⟨RepE.kp (Kp.less fun a z => z.elim id fun z => nomatch z) (fun _ _ _ e => e) h.repE, .nil, fun _ z => (nomatch z), s.trk⟩
def pFn (m : List C → Out C) (ps : List P) : P := fun env => match evPs ps env with
  | some ds => match m (ds.map .frz) with
    | .ok c _ => some c.toD
    | _ => none
  | none => none
/-- the reading of a call on plain data -/
theorem spM_pure {m : List C → Out C} {ds : List D} {vs : List V} {c : C} {outs : Slots} {n : Nat} {Q : VK} {mg : Str → Option Value} (s : Stt K B H σ env O) (hv : IsL K (fun a => B a ∨ a ∈ O) H ds vs) (hm : m (ds.map .frz) = .ok c outs) (hn : ds.length = n)
    (h : ∀ v H', Grw H H' → Is K (fun a => B a ∨ a ∈ O) H' c.toD v → Q v H') : spM K mg n m vs H Q E0 := by
  refine ⟨hv.length.trans hn, fun a => B a ∨ a ∈ O, ds.map .frz, [], hv.stt s, ?_⟩
  rw [hm]
  intro u H' A O' r
  exact h u H' (fun a o e => (r.frm a o (fun z => nomatch z) e).1) (Is.kp (Kp.less fun a z => .inl z) _ _ r.is)
theorem p_fn {k : Nat} {x : Str} {st : Stmt} {qs : List Str} {m : List C → Out C} (F : FnM X.prog X.w X.K X.mg X.base k x st qs m) (bd : BindP x st qs) (hg : X.A.guards = some []) (hr : Room k X.A) (gl : Gl X x) (ha : ADk X (e :: es) ps) (hl : ps.length = qs.length := by rfl)
    (hdb : (x == ("__debug__" : Str)) = false := by decide) (he : starEach (e :: es) X.env = (false, eval e X.env) :: starEach es X.env := by rfl) (hpl : (backTo pos (starEach es X.env)).any (·.1) = false := by rfl) :
    POk X (.Call (.Name x pp) (e :: es) [] pos) (pFn m ps) := by
  obtain ⟨f, kV, doc, pm, an, cdv, ct, hm, kp, G⟩ := F.ex
  refine ⟨fun pins s σ H Q I h => ?_⟩
  obtain ⟨B, env, O, st, d, hp, h⟩ := h
  unfold pFn at hp
  split at hp
  · rename_i ds e1
    split at hp
    · rename_i c outs e2
      cases hp
      have want : rdD X ps σ H fun vs H1 => spM X.K X.mg qs.length m vs H1 Q E0 := ⟨B, env, O, st, ds, e1, fun vs H1 g1 hv => spM_pure (st.grw g1) hv e2 (by rw [evPs_len e1]; exact hl) fun v H' g2 hv => h v H' (g1.trans g2) hv⟩
      refine wpAny_Call_Name_kw (ld_glob I gl hm ?_ hdb)
      refine PySem.W.callWith_K (h₀ := X.base) I.ok.mod.kin kp (thn (ha.run pos pins s σ H _ I want) ?_) he hpl
      rintro us s1 ⟨vs, H1, I1, r1, q1⟩
      exact ⟨I1.kIn, run_G G hg hr passX0 (.of_eq (bd kV doc pm an cdv ct us (r1.length.symm.trans q1.1))) I1 r1 q1⟩
    · cases hp
  · cases hp
abbrev KDk (X : Cx) (kws : List Keyword) (ps : List P) : Prop := PK X kws (rdD X ps)
theorem _root_.L2.PK.imp {X : Cx} {es : List Keyword} {t t' : TA} (h : PK X es t) (i : ∀ σ H Q, t' σ H Q → t σ H Q) : PK X es t' := ⟨fun pos pins s σ H Q I hw => h.run pos pins s σ H Q I (i σ H Q hw)⟩
theorem kd_nil : KDk X [] [] := pk_nil.imp fun σ H Q h => by
  obtain ⟨B, env, O, s, ds, hp, h⟩ := h
  cases hp
  exact h [] H Grw.refl rfl
theorem kd_cons {nm : Option Str} {kpos : Pos} {kws : List Keyword} (ha : POk X e p) (hr : KDk X kws ps) : KDk X (⟨nm, e, kpos⟩ :: kws) (p :: ps) := (pk_cons ha hr).imp fun σ H Q h => by
  obtain ⟨B, env, O, s, ds, hp, h⟩ := h
  obtain ⟨d, r, e1, e2, rfl⟩ := evPs_cons hp
  exact ⟨B, env, O, s, d, e1, fun v H1 g1 hv => ⟨B, env, O, s.grw g1, r, e2, fun vs H2 g2 hvs => h (v :: vs) H2 (g1.trans g2) ⟨v, vs, rfl, hv.grw g2, hvs⟩⟩⟩
theorem pick_vals {vs : List V} {us : List Value} (h : Vals vs us) : ∀ js : List Nat, Vals (pick js vs) (pick js us)
  | [] => .nil
  | j :: js => by
    have ih := pick_vals h js
    unfold pick at ih ⊢
    rw [List.filterMap_cons, List.filterMap_cons]
    cases e : vs[j]? with
    | none => rw [h.none_of e]; exact ih
    | some x =>
      obtain ⟨u, hu, ru⟩ := h.get e
      rw [hu]
      exact .cons ru ih
theorem pick_is {W : Addr → Prop} {ds : List D} {vs : List V} (h : IsL K W H ds vs) : ∀ js : List Nat, IsL K W H (pick js ds) (pick js vs)
  | [] => rfl
  | j :: js => by
    have ih := pick_is h js
    unfold pick at ih ⊢
    rw [List.filterMap_cons, List.filterMap_cons]
    cases e : ds[j]? with
    | none =>
      have e2 : vs[j]? = none := List.getElem?_eq_none (by rw [h.length]; exact List.getElem?_eq_none_iff.mp e)
      rw [e2]; exact ih
    | some x =>
      obtain ⟨u, hu, ru⟩ := h.get e
      rw [hu]
      exact ⟨u, _, rfl, ru, ih⟩
def pFnK (m : List C → Out C) (js : List Nat) (ps : List P) : P := fun env => match evPs ps env with
  | some ds => match m ((pick js ds).map .frz) with
    | .ok c _ => some c.toD
    | _ => none
  | none => none
end
end PL
namespace PL
open PySem PySem.Spec PyProof.Rows L2
section
variable {X : Cx} {w : WX} {H : Hp} {σ : L2.St} {e : Expr} {es : List Expr} {p q r : P} {ps : List P} {pos pp : Pos} {K : PySem.W.Frag} {B : Addr → Prop} {O : List Addr} {env : Slots}
theorem opS_of_pure {r : R2} {op : D → D → Option V} (h : PureS K r op) : OpS K r (fun a b => (op a b).map fun v => .frz (ofV v)) := fun W H x y d1 d2 c Q tr h1 h2 e k => by
  simp only [Option.map_eq_some_iff] at e
  obtain ⟨v, e, rfl⟩ := e
  exact h H x y d1 d2 v Q h1.noW h2.noW e (k v H [] (New.of_is (ofV_is _ _ _ v)))
/-- a pure operation among the others -/
def eOp (op : D → D → Option V) (f g : M C) : M C := eBin (fun a b => (op a b).map fun v => .frz (ofV v)) f g
theorem e_op {a b : Expr} {o : Operator} {f g : M C} {r : R2} {op : D → D → Option V} (ho : OpR X (binaryOp o) r) (h : PureS X.K r op) (ha : EOk X w a f) (hb : EOk X w b g) : EOk X w (.BinOp a o b pos) (eOp op f g) := e_bin ho (opS_of_pure h) ha hb
def eIx (f g : M C) : M C := eBin (fun a b => (ixD a b).map .frz) f g
/-- as a test -/
def tOfE (f : M C) : M Bool := fun env => (f env).bind fun c e1 => match c with
  | .frz (.bl b) => .ok b e1
  | _ => .no
theorem tOfE_of {f : M C} {t : TE} (ht : ∀ σ H Q, rdE X w f σ H Q → t σ H Q) (σ : L2.St) (H : Hp) (Q : Bool → Hp → Prop) (h : rdT X w (tOfE f) σ H Q) : tTest t σ H Q := by
  obtain ⟨B, env, O, s, h⟩ := h
  refine ht σ H _ ⟨B, env, O, s, ?_⟩
  unfold tOfE at h
  cases ef : f env with
  | no => rw [ef] at h; exact h.elim
  | err x e => rw [ef] at h; exact h
  | ok c e1 =>
    rw [ef] at h
    simp only [Out.bind] at h
    intro v H' A O' r
    cases c with
    | frz d =>
      cases d with
      | bl b =>
        obtain ⟨eA, hv⟩ := r.rep
        subst eA
        exact ⟨b, hv, h H' O' (r.stt.less fun a z => .inl z) r.frm⟩
      | non => exact h.elim
      | int _ => exact h.elim
      | str _ => exact h.elim
      | tup _ => exact h.elim
      | lst _ => exact h.elim
      | dct _ => exact h.elim
      | dcT _ => exact h.elim
      | dcL _ => exact h.elim
      | ro _ => exact h.elim
      | fn _ => exact h.elim
      | opq _ => exact h.elim
      | lam _ _ => exact h.elim
    | own _ => exact h.elim
    | ownD _ => exact h.elim
    | ownT _ => exact h.elim
    | tabs _ => exact h.elim
theorem t_cmp {a b : Expr} {o : CmpOp} {f g : M C} {r : R2} {op : D → D → Option V} (ho : OpR X (compareOp o) r) (h : PureS X.K r op) (hm : behindInMarks o b = false) (ha : EOk X w a f) (hb : EOk X w b g) : TOk X w (.Compare a [o] [b] pos) (tOfE (eOp op f g)) :=
  (pt_cmpR ho ha hb hm).imp (tOfE_of (tOp_of (opS_of_pure h)))
theorem t_val {f : M C} (h : EOk X w e f) (he : ∀ whole, isTrue e X.env whole = (do let v ← whole; standAt e.pos; holding [v] (truthy v)) := by intro _; rfl) : TOk X w e (tOfE f) := (pt_val h he).imp (tOfE_of fun _ _ _ h => h)
section
variable {a b c : Expr} {rest : List Expr} {s t u : M Bool} {f g : M C}
def tAnd (s t : M Bool) : M Bool := fun env => (s env).bind fun b e1 => if b then t e1 else .ok false e1
def tOr (s t : M Bool) : M Bool := fun env => (s env).bind fun b e1 => if b then .ok true e1 else t e1
def tNot (s : M Bool) : M Bool := fun env => (s env).bind fun b e1 => .ok (!b) e1
/-- a test, then what follows it -/
theorem rdT_then {k : Bool → M Bool} {Q : Bool → Hp → Prop} (h : rdT X w (fun env => (s env).bind fun b e1 => k b e1) σ H Q) : rdT X w s σ H fun c H1 => rdT X w (k c) σ H1 Q := by
  obtain ⟨B, env, O, st, h⟩ := h
  refine ⟨B, env, O, st, ?_⟩
  cases es : s env with
  | no => simp only [es, Out.bind] at h
  | err x e => simp only [es, Out.bind] at h; exact h
  | ok c e1 =>
    simp only [es, Out.bind] at h
    intro H1 O1 s1 f1
    refine ⟨B, e1, O1, s1, ?_⟩
    cases ek : k c e1 with
    | no => rw [ek] at h; exact h.elim
    | err x e => 
      rw [ek] at h
      intro cls d H' O' x2
      exact h cls d H' O' ⟨x2.cls, x2.fs, x2.stt, f1.seq' x2.frm⟩
    | ok c2 e2 =>
      rw [ek] at h
      intro H2 O2 s2 f2
      exact h H2 O2 s2 (f1.seq' f2)
theorem rdT_ok {b : Bool} {Q : Bool → Hp → Prop} (h : rdT X w (fun env => .ok b env) σ H Q) : Q b H := by
  obtain ⟨B, env, O, st, h⟩ := h
  exact h H O st Frm.refl
theorem t_not (ha : TOk X w a s) : TOk X w (.UnaryOp .Not a pos) (tNot s) := (pt_not ha).imp fun σ H Q h => by
  have h2 := rdT_then (k := fun b e1 => .ok (!b) e1) h
  obtain ⟨B, env, O, st, h2⟩ := h2
  refine ⟨B, env, O, st, ?_⟩
  cases es : s env with
  | no => rw [es] at h2; exact h2
  | err x e => rw [es] at h2; exact h2
  | ok c e1 =>
    rw [es] at h2
    intro H' O' s1 f1
    exact rdT_ok (h2 H' O' s1 f1)
/-- values behind a test -/
theorem rdE_then {k : Bool → M C} {Q : VK} (h : rdE X w (fun env => (s env).bind fun b e1 => k b e1) σ H Q) : rdT X w s σ H fun c H1 => rdE X w (k c) σ H1 Q := by
  obtain ⟨B, env, O, st, h⟩ := h
  refine ⟨B, env, O, st, ?_⟩
  cases es : s env with
  | no => simp only [es, Out.bind] at h
  | err x e => simp only [es, Out.bind] at h; exact h
  | ok c e1 =>
    simp only [es, Out.bind] at h
    intro H1 O1 s1 f1
    refine ⟨B, e1, O1, s1, ?_⟩
    cases ek : k c e1 with
    | no => rw [ek] at h; exact h.elim
    | err x e => 
      rw [ek] at h
      intro cls d H' O' x2
      exact h cls d H' O' ⟨x2.cls, x2.fs, x2.stt, f1.seq' x2.frm⟩
    | ok c2 e2 =>
      rw [ek] at h
      intro v H2 A O2 r
      exact h v H2 A O2 ⟨r.rep, r.stt, r.nd, r.dj, f1.seq' r.frm⟩
def eIf (s : M Bool) (f g : M C) : M C := fun env => (s env).bind fun b e1 => if b then f e1 else g e1
theorem rdT_imp {s : M Bool} {Q Q' : Bool → Hp → Prop} (h : rdT X w s σ H Q) (i : ∀ b H, Q b H → Q' b H) : rdT X w s σ H Q' := by
  obtain ⟨B, env, O, st, h⟩ := h
  refine ⟨B, env, O, st, ?_⟩
  cases es : s env with
  | no => rw [es] at h; exact h
  | err x e => rw [es] at h; exact h
  | ok c e1 =>
    rw [es] at h
    intro H' O' s1 f1
    exact i _ _ (h H' O' s1 f1)
theorem e_if (hc : TOk X w c s) (ha : EOk X w a f) (hb : EOk X w b g) : EOk X w (.IfExp c a b pos) (eIf s f g) := (pe_ifExp hc ha hb).imp fun σ H Q h =>
  rdT_imp (rdE_then (k := fun b e1 => if b then f e1 else g e1) h) fun c H1 h3 => by
    cases c with
    | true => exact iteT (by simpa using h3)
    | false => exact iteF (by simpa using h3)
/-- and, or as values -/
def eAnd (f g : M C) : M C := fun env => (f env).bind fun c e1 => match c with
  | .frz (.bl true) => g e1
  | .frz (.bl false) => .ok (.frz (.bl false)) e1
  | _ => .no
def eOr (f g : M C) : M C := fun env => (f env).bind fun c e1 => match c with
  | .frz (.bl false) => g e1
  | .frz (.bl true) => .ok (.frz (.bl true)) e1
  | _ => .no
end
/-- behind a list of expressions -/
structure ResL (K : PySem.W.Frag) (B : Addr → Prop) (O : List Addr) (H : Hp) (σ : List (Option V)) (cs : List C) (env : Slots) (vs : List V) (H' : Hp) (A O' : List Addr) : Prop where
  rep : RepL K (fun a => (B a ∨ a ∈ A) ∨ a ∈ O') H' cs vs A
  stt : Stt K (fun a => B a ∨ a ∈ A) H' σ env O'
  nd : A.Nodup
  dj : ∀ a ∈ A, ¬ B a
  frm : Frm O H A O' H'
def evMs : List (M C) → M (List C)
  | [], env => .ok [] env
  | f :: r, env => (f env).bind fun c e1 => (evMs r e1).bind fun cs e2 => .ok (c :: cs) e2
def rdM (X : Cx) (w : WX) (fs : List (M C)) : TA := fun σ H Q => ∃ B env O, Stt X.K B H σ env O ∧ match evMs fs env with
  | .ok cs env' => ∀ vs H' A O', ResL X.K B O H σ cs env' vs H' A O' → Q vs H'
  | .err x env' => ∀ cls d H' O', XRes X.K X.mg B O H σ x env' cls d H' O' → w cls d σ H'
  | .no => False
abbrev AMk (X : Cx) (w : WX) (es : List Expr) (fs : List (M C)) : Prop := PA X es (rdM X w fs)
theorem am_nil : AMk X w [] [] := pa_nil.imp fun σ H Q h => by
  obtain ⟨B, env, O, s, h⟩ := h
  exact h [] H [] O ⟨⟨rfl, rfl⟩, s.less fun a z => z.elim id fun z => (nomatch z), .nil, fun _ z => (nomatch z), Frm.refl⟩
theorem am_cons {f : M C} {fs : List (M C)} (ha : EOk X w e f) (hr : AMk X w es fs) (hs : starEach (e :: es) X.env = (false, eval e X.env) :: starEach es X.env := by rfl) : AMk X w (e :: es) (f :: fs) := (pa_cons ha hr hs).imp fun σ H Q h => by
  obtain ⟨B, env, O, s, h⟩ := h
  refine ⟨B, env, O, s, ?_⟩
  unfold evMs at h
  cases ef : f env with
  | no => rw [ef] at h; exact h
  | err x e => rw [ef] at h; exact h
  | ok c e1 =>
    rw [ef] at h
    simp only [Out.bind] at h
    intro v H1 A O1 r1
    refine ⟨fun a => B a ∨ a ∈ A, e1, O1, r1.stt, ?_⟩
    cases er : evMs fs e1 with
    | no => rw [er] at h; exact h
    | err x e => rw [er] at h; exact fun cls d H' O' x2 => h cls d H' O' (XRes.under r1.frm x2)
    | ok cs e2 =>
      rw [er] at h
      simp only [] at h
      intro vs H2 A2 O2 r2
      refine h (v :: vs) H2 (A ++ A2) O2 ⟨⟨v, vs, A, A2, rfl, rfl, ?_, ?_⟩, ?_, ?_, ?_, ?_⟩
      · refine RepC.kp (fun a o hw ha => ?_) _ _ _ (fun a ha o e => (r2.frm a o (fun z => r1.stt.dj a z (.inr ha)) e).1) r1.rep
        obtain ⟨q, n⟩ := r2.frm a o (fun z => hw (.inr z)) ha
        refine ⟨q, fun z => ?_⟩
        rcases z with (z | z) | z
        · exact hw (.inl (.inl z))
        · rcases List.mem_append.mp z with z | z
          · exact hw (.inl (.inr z))
          · exact n (.inl z)
        · exact n (.inr z)
      · refine RepL.kp (Kp.less fun a z => ?_) _ _ _ (fun _ _ _ e => e) r2.rep
        rcases z with (z | z) | z
        · exact .inl (.inl (.inl z))
        · rcases List.mem_append.mp z with z | z
          · exact .inl (.inl (.inr z))
          · exact .inl (.inr z)
        · exact .inr z
      · exact r2.stt.less fun a z => z.elim (fun z => .inl (.inl z)) fun z => (List.mem_append.mp z).elim (fun z => .inl (.inr z)) .inr
      · exact List.nodup_append.mpr ⟨r1.nd, r2.nd, fun a ha b hb e => r2.dj b hb (.inr (e ▸ ha))⟩
      · exact fun a ha => (List.mem_append.mp ha).elim (r1.dj a) fun z y => r2.dj a z (.inl y)
      · intro a o hw ha
        obtain ⟨q1, n1⟩ := r1.frm a o hw ha
        obtain ⟨q2, n2⟩ := r2.frm a o (fun z => n1 (.inr z)) q1
        exact ⟨q2, fun z => z.elim (fun z => (List.mem_append.mp z).elim (fun z => n1 (.inl z)) fun z => n2 (.inl z)) fun z => n2 (.inr z)⟩
theorem ResL.isL {cs : List C} {vs : List V} {H' : Hp} {A O' : List Addr} {e1 : Slots} (r : ResL K B O H σ cs e1 vs H' A O') : IsL K (fun a => B a ∨ a ∈ O') H' (C.toDs cs) vs :=
  RepL.is (fun a z => z.elim (fun z => .inl (.inl z)) .inr) _ _ _ (fun a ha z => z.elim (r.dj a ha) fun z => r.stt.dj a z (.inr ha)) r.rep
theorem ResL.frm0 {cs : List C} {vs : List V} {H' : Hp} {A O' : List Addr} {e1 : Slots} (r : ResL K B O H σ cs e1 vs H' A O') : Frm O H [] O' H' := fun a o hw ha => ⟨(r.frm a o hw ha).1, fun z => (r.frm a o hw ha).2 (z.elim (fun z => nomatch z) .inr)⟩
/-- an argument list, then a value by what the arguments stand for -/
theorem rdM_do {fs : List (M C)} {k : List C → M C} {Q : VK} {Q' : List V → Hp → Prop} (h : rdE X w (fun env => (evMs fs env).bind fun cs e1 => k cs e1) σ H Q)
    (i : ∀ (B : Addr → Prop) (O : List Addr) (cs : List C) (e1 : Slots) (vs : List V) (H' : Hp) (A O' : List Addr), ResL X.K B O H σ cs e1 vs H' A O' → (match k cs e1 with
      | .ok c env' => ∀ v H' A O', Res X.K B O H σ c env' v H' A O' → Q v H'
      | .err x env' => ∀ cls d H' O', XRes X.K X.mg B O H σ x env' cls d H' O' → w cls d σ H'
      | .no => False) → Q' vs H') : rdM X w fs σ H Q' := by
  obtain ⟨B, env, O, s, h⟩ := h
  refine ⟨B, env, O, s, ?_⟩
  cases er : evMs fs env with
  | no => simp only [er, Out.bind] at h
  | err x e => simp only [er, Out.bind] at h; exact h
  | ok cs e1 =>
    simp only [er, Out.bind] at h
    intro vs H' A O' r
    exact i B O cs e1 vs H' A O' r h
/-- displays -/
def eLst (fs : List (M C)) : M C := fun env => (evMs fs env).bind fun cs e1 => if cs.length ≤ 100000 then .ok (.own cs) e1 else .no
theorem ResL.own {cs : List C} {vs : List V} {H' : Hp} {A O' : List Addr} {e1 : Slots} (r : ResL K B O H σ cs e1 vs H' A O') {a : Addr} (ha : H' a = none) : Res K B O H σ (.own cs) e1 (.ref a) (upd H' a (.lst vs)) (a :: A) O' := by
  have g : Grw H' (upd H' a (.lst vs)) := fun b o e => by rw [upd_ne (ne_of_none e ha)]; exact e
  have nA : a ∉ A := fun z => by
    obtain ⟨u, e⟩ := RepL.trk _ _ _ r.rep a z
    rw [ha] at e; cases e
  have nB : ¬ B a := fun z => by
    obtain ⟨u, e⟩ := r.stt.tr a (.inl z)
    rw [ha] at e; cases e
  have nO : a ∉ O' := fun z => by
    obtain ⟨u, e⟩ := RepE.trk r.stt.rep a z
    rw [ha] at e; cases e
  refine ⟨⟨a, vs, A, rfl, rfl, upd_same, ?_⟩, ?_, List.nodup_cons.mpr ⟨nA, r.nd⟩, fun b hb => ?_, fun b o hw hb => ?_⟩
  · refine RepL.kp (fun b o hw hb => ⟨g b o hb, fun z => ?_⟩) _ _ _ (fun b _ o e => g b o e) r.rep
    rcases z with (z | z) | z
    · exact hw (.inl (.inl z))
    · rcases List.mem_cons.mp z with z | z
      · subst z; rw [ha] at hb; cases hb
      · exact hw (.inl (.inr z))
    · exact hw (.inr z)
  · refine r.stt.grow g (fun b z => ?_) fun b z => ?_
    · rcases z with z | z
      · exact .inl (.inl z)
      · rcases List.mem_cons.mp z with z | z
        · exact .inr (z ▸ ha)
        · exact .inl (.inr z)
    · rcases z with z | z
      · obtain ⟨u, e⟩ := r.stt.tr b (.inl z); exact ⟨u, g b u e⟩
      · rcases List.mem_cons.mp z with z | z
        · subst z; exact ⟨⟨.lst vs, True.intro⟩, upd_same⟩
        · obtain ⟨u, e⟩ := r.stt.tr b (.inr z); exact ⟨u, g b u e⟩
  · rcases List.mem_cons.mp hb with z | z
    · exact z ▸ nB
    · exact r.dj b z
  · obtain ⟨q, n⟩ := r.frm b o hw hb
    refine ⟨g b o q, fun z => ?_⟩
    rcases z with z | z
    · rcases List.mem_cons.mp z with z | z
      · subst z; rw [ha] at q; cases q
      · exact n (.inl z)
    · exact n (.inr z)
theorem e_lst {fs : List (M C)} (h : AMk X w es fs) : EOk X w (.List es pos) (eLst fs) := (pe_lst h).imp fun σ H Q h =>
  rdM_do (k := fun cs e1 => if cs.length ≤ 100000 then .ok (.own cs) e1 else .no) h fun B O cs e1 vs H' A O' r hk => by
    split at hk
    · rename_i e2 hc
      split at hc
      · rename_i hz
        cases hc
        exact ⟨by rw [r.rep.length, sizeLine_eq]; omega, fun a ha => hk _ _ _ _ (r.own ha)⟩
      · cases hc
    · rename_i hc; split at hc <;> cases hc
    · exact hk.elim
def eTup (fs : List (M C)) : M C := fun env => (evMs fs env).bind fun cs e1 => if cs.length ≤ 100000 then .ok (.frz (.tup (C.toDs cs))) e1 else .no
theorem e_tup {k} {fs : List (M C)} (h : AMk X w es fs) : EOk X w (.Tuple es k pos) (eTup fs) := (pe_tup h).imp fun σ H Q h =>
  rdM_do (k := fun cs e1 => if cs.length ≤ 100000 then .ok (.frz (.tup (C.toDs cs))) e1 else .no) h fun B O cs e1 vs H' A O' r hk => by
    split at hk
    · rename_i e2 hc
      split at hc
      · rename_i hz
        cases hc
        refine ⟨by rw [r.rep.length, sizeLine_eq]; omega, fun a ha => hk _ _ _ _ (Res.new (r.stt.less fun a z => .inl z) r.frm0 ⟨fun b o e => by rw [upd_ne (ne_of_none e ha)]; exact e, ⟨rfl, a, vs, rfl, upd_same, fun z => ?_, ?_⟩, .nil, fun _ z => nomatch z⟩)⟩
        · rcases z with z | z
          · obtain ⟨u, e⟩ := (r.stt.less (B' := B) fun a z => .inl z).trk a z
            rw [ha] at e; cases e
          · cases z
        · exact IsL.kp (fun b o hw hb => ⟨by rw [upd_ne (ne_of_none hb ha)]; exact hb, fun z => z.elim hw fun z => nomatch z⟩) _ _ r.isL
      · cases hc
    · rename_i hc; split at hc <;> cases hc
    · exact hk.elim
/-- built-in functions -/
def eCall (fn : List D → Option V) (fs : List (M C)) : M C := fun env => (evMs fs env).bind fun cs e1 => match fn (C.toDs cs) with
  | some v => .ok (.frz (ofV v)) e1
  | none => .no
theorem eCall_of {rr : List V → Hp → VK → Prop} {fn : List D → Option V} {fs : List (M C)} (h : CalS X.K rr fn) (σ : L2.St) (H : Hp) (Q : VK) (hq : rdE X w (eCall fn fs) σ H Q) : tCB rr (rdM X w fs) σ H Q :=
  rdM_do (k := fun cs e1 => match fn (C.toDs cs) with | some v => .ok (.frz (ofV v)) e1 | none => .no) hq fun B O cs e1 vs H' A O' r hk => by
    cases ev : fn (C.toDs cs) with
    | none => rw [ev] at hk; exact hk.elim
    | some v =>
      rw [ev] at hk
      exact h H' vs _ v Q r.isL.noW ev (hk v H' [] O' (Res.new (r.stt.less fun a z => .inl z) r.frm0 (New.of_is (ofV_is _ _ _ v))))
section
variable {id T : String} {x : Str} {fn : List D → Option V} {rr : List V → Hp → VK → Prop} {fs : List (M C)}
theorem e_callB (hc : CallR X (.builtin id) rr) (h : CalS X.K rr fn) (hg : Gl X x) (hm : X.mg x = none) (hv : bootBuiltins x = some (.builtin id)) (ha : AMk X w (e :: es) fs) (hn : x ≠ "__name__" := by decide) (hdb : (x == ("__debug__" : Str)) = false := by decide)
    (he : starEach (e :: es) X.env = (false, eval e X.env) :: starEach es X.env := by rfl) (hpl : (backTo pos (starEach es X.env)).any (·.1) = false := by rfl) : EOk X w (.Call (.Name x pp) (e :: es) [] pos) (eCall fn fs) :=
  (pe_callB hc hg hm hv ha hn hdb he hpl).imp (eCall_of h)
end
/-- what an exception is wished for, by the slots as they stand -/
def EofW (w : WX) (σ : L2.St) : XK := fun cls d H => w cls d σ H
def eFn (m : List C → Out C) (fs : List (M C)) : M C := fun env => (evMs fs env).bind fun cs e1 => match m cs with
  | .ok c _ => .ok (.frz c.toD) e1
  | .err x _ => .err x e1
  | .no => .no
/-- .. the first argument, a slot's own thing, lent -/
def lentTo (m : List C → Out C) (i : Nat) (cs : List C) (e1 : Slots) : Out C := match e1[i]? with
  | some (some c0) => match m (c0 :: cs) with
    | .ok c outs => match outs with
      | some c1 :: _ => .ok (.frz c.toD) (e1.set i (some c1))
      | _ => .no
    | .err x outs => match outs with
      | some c1 :: _ => .err x (e1.set i (some c1))
      | _ => .no
    | .no => .no
  | _ => .no
def eFnL (m : List C → Out C) (i : Nat) (fs : List (M C)) : M C := fun env => match env[i]? with
  | some (some _) => (evMs fs env).bind (lentTo m i)
  | _ => .no
end
end PL
namespace PL
open PySem PySem.Spec PyProof.Rows L2
section
variable {X : Cx} {w : WX} {H : Hp} {σ : L2.St} {e : Expr} {es : List Expr} {p q r : P} {ps : List P} {pos pp : Pos} {K : PySem.W.Frag} {mg : Str → Option Value} {B : Addr → Prop} {O : List Addr} {env : Slots}
theorem RepL.repE {W : Addr → Prop} : ∀ {cs : List C} {vs : List V} {A : List Addr}, RepL K W H cs vs A → RepE K W H (cs.map some) (vs.map some) A
  | [], vs, A, h => by rw [h.1, h.2]; exact ⟨rfl, rfl⟩
  | c :: r, vs, A, h => by
    obtain ⟨x, ys, A1, A2, rfl, rfl, h1, h2⟩ := h
    exact ⟨some x, ys.map some, A1, A2, rfl, rfl, ⟨x, rfl, h1⟩, RepL.repE h2⟩
/-- the slots behind a call that was handed A -/
theorem ResL.stay {cs : List C} {vs : List V} {H1 H' : Hp} {A O1 O2 A2 : List Addr} {e1 : Slots} (r : ResL K B O H σ cs e1 vs H1 A O1) (f : Frm A H1 A2 O2 H') : Stt K B H' σ e1 O1 ∧ Frm O H [] O1 H' := by
  have nA : ∀ a ∈ O1, a ∉ A := fun a ha z => r.stt.dj a ha (.inr z)
  refine ⟨⟨RepE.kp (fun a o hw ha => ?_) (fun a ha o e => (f a o (nA a ha) e).1) r.stt.rep, r.stt.nd, fun a ha z => r.stt.dj a ha (.inl z), fun a z => ?_⟩, fun a o hw ha => ?_⟩
  · exact ⟨(f a o (fun z => hw (.inl (.inr z))) ha).1, fun z => hw (z.imp .inl id)⟩
  · obtain ⟨u, e⟩ := r.stt.tr a (.inl z)
    exact ⟨u, (f a u (fun y => r.dj a y z) e).1⟩
  · obtain ⟨q, n⟩ := r.frm a o hw ha
    exact ⟨(f a o (fun z => n (.inl z)) q).1, fun z => n (z.elim (fun z => nomatch z) .inr)⟩
theorem ResL.args {cs : List C} {vs : List V} {H1 : Hp} {A O1 : List Addr} {e1 : Slots} (r : ResL K B O H σ cs e1 vs H1 A O1) : Stt K (fun a => B a ∨ a ∈ O1) H1 (vs.map some) (cs.map some) A :=
  ⟨RepE.kp (Kp.less fun a z => z.elim (fun z => z.elim (fun z => .inl (.inl z)) .inr) fun z => .inl (.inr z)) (fun _ _ _ e => e) (RepL.repE r.rep), r.nd, fun a ha z => z.elim (r.dj a ha) fun z => r.stt.dj a z (.inr ha), fun a z => z.elim (fun z => r.stt.tr a (.inl z)) fun z => RepE.trk r.stt.rep a z⟩
theorem IsX.kp {W W' : Addr → Prop} {H H' : Hp} (p : Kp W H W' H') : ∀ {l : List (Str × D)} {xs : List (Str × V)}, IsX K W H l xs → IsX K W' H' l xs
  | [], xs, h => h
  | (k, d) :: r, xs, h => by
    obtain ⟨x, ys, e, h1, h2⟩ := h
    exact ⟨x, ys, e, Is.kp p _ _ h1, IsX.kp p h2⟩
/-- the exception's own part -/
def XFs (K : PySem.W.Frag) (W : Addr → Prop) (H' : Hp) (x : Exn) (d : Option Addr) : Prop := match x.fs with
  | none => d = none
  | some fs => ∃ dd vs, d = some dd ∧ H' dd = some (.xd vs) ∧ ¬ W dd ∧ IsX K W H' fs vs
theorem XFs.less {W W' : Addr → Prop} {x : Exn} {d : Option Addr} (h : XFs K W H x d) (i : ∀ a, W' a → W a) : XFs K W' H x d := by
  unfold XFs at h ⊢
  cases e : x.fs with
  | none => rw [e] at h; exact h
  | some fs =>
    rw [e] at h
    obtain ⟨dd, vs, h1, h2, h3, h4⟩ := h
    exact ⟨dd, vs, h1, h2, fun z => h3 (i _ z), h4.kp (Kp.less i)⟩
theorem XRes.xfs {x : Exn} {cls : Value} {d : Option Addr} {H' : Hp} {O' : List Addr} {e1 : Slots} (r : XRes K mg B O H σ x e1 cls d H' O') : XFs K (fun a => B a ∨ a ∈ O') H' x d := by
  have q := r.fs
  unfold XFs
  cases e : x.fs with
  | none => rw [e] at q; exact q
  | some fs =>
    rw [e] at q
    obtain ⟨dd, vs, h1, h2, h3, h4, h5⟩ := q
    exact ⟨dd, vs, h1, h2, fun z => z.elim h3 h4, h5⟩
theorem XRes.mk' {x : Exn} {cls : Value} {d : Option Addr} {H' : Hp} {O' : List Addr} {e1 : Slots} (h1 : mg x.cls = some cls) (h2 : XFs K (fun a => B a ∨ a ∈ O') H' x d) (h3 : Stt K B H' σ e1 O') (h4 : Frm O H [] O' H') : XRes K mg B O H σ x e1 cls d H' O' := by
  refine ⟨h1, ?_, h3, h4⟩
  unfold XFs at h2
  cases e : x.fs with
  | none => rw [e] at h2; exact h2
  | some fs =>
    rw [e] at h2
    obtain ⟨dd, vs, g1, g2, g3, g4⟩ := h2
    exact ⟨dd, vs, g1, g2, fun z => g3 (.inl z), fun z => g3 (.inr z), g4⟩
theorem e_fn {k : Nat} {x : Str} {st : Stmt} {qs : List Str} {m : List C → Out C} {fs : List (M C)} (F : FnM X.prog X.w X.K X.mg X.base k x st qs m) (bd : BindP x st qs) (hg : X.A.guards = some []) (hr : Room k X.A) (tk : Takes X w) (gl : Gl X x) (ha : AMk X w (e :: es) fs) (hl : fs.length = qs.length := by rfl)
    (hdb : (x == ("__debug__" : Str)) = false := by decide) (he : starEach (e :: es) X.env = (false, eval e X.env) :: starEach es X.env := by rfl) (hpl : (backTo pos (starEach es X.env)).any (·.1) = false := by rfl) :
    EOk X w (.Call (.Name x pp) (e :: es) [] pos) (eFn m fs) := by
  obtain ⟨f, kV, doc, pm, an, cdv, ct, hm, kp, G⟩ := F.ex
  refine ⟨fun pins s σ H Q I h => ?_⟩
  have want : rdM X w fs σ H fun vs H1 => spM X.K X.mg qs.length m vs H1 Q (EofW w σ) := by
    obtain ⟨B, env, O, st, h⟩ := h
    refine ⟨B, env, O, st, ?_⟩
    unfold eFn at h
    have hlen : ∀ (gs : List (M C)) (e0 : Slots) (cs : List C) (e1 : Slots), evMs gs e0 = .ok cs e1 → cs.length = gs.length := by
      intro gs
      induction gs with
      | nil => intro e0 cs e1 z; cases z; rfl
      | cons g gs ih =>
        intro e0 cs e1 z
        unfold evMs at z
        cases eg : g e0 with
        | no => rw [eg] at z; cases z
        | err _ _ => rw [eg] at z; cases z
        | ok c e2 =>
          rw [eg] at z
          simp only [Out.bind] at z
          cases er : evMs gs e2 with
          | no => rw [er] at z; cases z
          | err _ _ => rw [er] at z; cases z
          | ok cs2 e3 =>
            rw [er] at z
            cases z
            rw [List.length_cons, List.length_cons, ih _ _ _ er]
    cases er : evMs fs env with
    | no => simp only [er, Out.bind] at h
    | err y e => simp only [er, Out.bind] at h; exact h
    | ok cs e1 =>
      simp only [er, Out.bind] at h
      intro vs H1 A O1 r
      refine ⟨by rw [r.rep.length, hlen _ _ _ _ er]; exact hl, fun a => B a ∨ a ∈ O1, cs, A, r.args, ?_⟩
      cases em : m cs with
      | no => rw [em] at h; exact h
      | err y outs =>
        rw [em] at h
        intro cls d H' O' x2
        obtain ⟨s2, f2⟩ := r.stay (A2 := []) x2.frm
        exact h cls d H' O1 (XRes.mk' x2.cls (x2.xfs.less fun a z => .inl z) s2 f2)
      | ok c outs =>
        rw [em] at h
        intro u H' A2 O2 r2
        obtain ⟨s2, f2⟩ := r.stay r2.frm
        exact h u H' [] O1 (Res.new s2 f2 (New.of_is (Is.kp (Kp.less fun a z => .inl z) _ _ r2.is)))
  refine wpAny_Call_Name_kw (ld_glob I gl hm ?_ hdb)
  refine PySem.W.callWith_K (h₀ := X.base) I.ok.mod.kin kp (thn (ha.run pos pins s σ H _ I want) ?_) he hpl
  rintro us s1 ⟨vs, H1, I1, r1, q1⟩
  exact ⟨I1.kIn, run_G G hg hr (fun e s' c => tk e s' (XE.of_call I1 (fun _ _ _ z => z) c)) (.of_eq (bd kV doc pm an cdv ct us (r1.length.symm.trans q1.1))) I1 r1 q1⟩
theorem evMs_len : ∀ {gs : List (M C)} {e0 : Slots} {cs : List C} {e1 : Slots}, evMs gs e0 = .ok cs e1 → cs.length = gs.length
  | [], e0, cs, e1, z => by cases z; rfl
  | g :: gs, e0, cs, e1, z => by
    unfold evMs at z
    cases eg : g e0 with
    | no => rw [eg] at z; cases z
    | err _ _ => rw [eg] at z; cases z
    | ok c e2 =>
      rw [eg] at z
      simp only [Out.bind] at z
      cases er : evMs gs e2 with
      | no => rw [er] at z; cases z
      | err _ _ => rw [er] at z; cases z
      | ok cs2 e3 =>
        rw [er] at z
        cases z
        rw [List.length_cons, List.length_cons, evMs_len er]
/-- the slots behind a call that was lent slot i's thing -/
theorem ResL.lend {i : Nat} {cs : List C} {vs : List V} {H1 : Hp} {A O1 : List Addr} {e1 : Slots} {c0 : C} (r : ResL K B O H σ cs e1 vs H1 A O1) (h0 : e1[i]? = some (some c0)) :
    ∃ x0 Bc O0, σ[i]? = some (some x0) ∧ Stt K Bc H1 ((x0 :: vs).map some) ((c0 :: cs).map some) O0 ∧ (∀ a, B a → Bc a) ∧
      ∀ (H' : Hp) (A2 O2 B1 B2 : List Addr) (c1 : C), Frm O0 H1 A2 O2 H' → (∀ a ∈ O2, ¬ (Bc a ∨ a ∈ A2)) → O2 = B1 ++ B2 → B1.Nodup → RepC K (fun a => (Bc a ∨ a ∈ A2) ∨ a ∈ O2) H' c1 x0 B1 →
        ∃ O3, Stt K B H' σ (e1.set i (some c1)) O3 ∧ Frm O H [] O3 H' ∧ ∀ a, (B a ∨ a ∈ O3) → (Bc a ∨ a ∈ O2) := by
  obtain ⟨o, A1, A2', A3, g1, g2, ⟨x0, rfl, hc0⟩, put⟩ := RepE.at r.stt.rep h0
  have nd := r.stt.nd
  rw [g2] at nd
  have sub : ∀ a, a ∈ A1 ++ A3 → a ∈ O1 := fun a ha => by rw [g2]; simp at ha ⊢; rcases ha with z | z <;> simp [z]
  have sub2 : ∀ a, a ∈ A2' → a ∈ O1 := fun a ha => by rw [g2]; simp [ha]
  have nd1 := List.nodup_append.mp nd
  have nd2 := List.nodup_append.mp nd1.2.1
  have n13 : ∀ a ∈ A2', a ∉ A1 ++ A3 := fun a ha z => by
    rcases List.mem_append.mp z with z | z
    · exact nd1.2.2 a z a (by simp [ha]) rfl
    · exact nd2.2.2 a ha a z rfl
  have nA : ∀ a ∈ O1, a ∉ A := fun a ha z => r.stt.dj a ha (.inr z)
  have ar := r.args
  have mem2 : ∀ a, a ∈ O1 ↔ a ∈ A2' ∨ a ∈ A1 ++ A3 := fun a => by rw [g2]; simp; constructor <;> intro h <;> rcases h with h | h | h <;> simp [h]
  refine ⟨x0, fun a => B a ∨ a ∈ A1 ++ A3, A2' ++ A, g1, ⟨?_, ?_, ?_, ?_⟩, fun a z => .inl z, fun H' Ar O2 B1 B2 c1 fr dj2 eO nB1 hc1 => ?_⟩
  · refine ⟨some x0, vs.map some, A2', A, rfl, rfl, ⟨x0, rfl, RepC.kp (Kp.less fun a z => ?_) _ _ _ (fun _ _ _ e => e) hc0⟩, RepE.kp (Kp.less fun a z => ?_) (fun _ _ _ e => e) (RepL.repE r.rep)⟩
    · rcases z with (z | z) | z
      · exact .inl (.inl z)
      · exact .inr (sub a z)
      · rcases List.mem_append.mp z with z | z
        · exact .inr (sub2 a z)
        · exact .inl (.inr z)
    · rcases z with (z | z) | z
      · exact .inl (.inl z)
      · exact .inr (sub a z)
      · rcases List.mem_append.mp z with z | z
        · exact .inr (sub2 a z)
        · exact .inl (.inr z)
  · exact List.nodup_append.mpr ⟨nd2.1, r.nd, fun a ha b hb e => nA a (sub2 a ha) (e ▸ hb)⟩
  · intro a ha z
    rcases List.mem_append.mp ha with ha | ha
    · exact z.elim (fun z => r.stt.dj a (sub2 a ha) (.inl z)) (n13 a ha)
    · exact z.elim (r.dj a ha) fun z => nA a (sub a z) ha
  · exact fun a z => z.elim (fun z => r.stt.tr a (.inl z)) fun z => RepE.trk r.stt.rep a (sub a z)
  · have keep13 : ∀ a ∈ A1 ++ A3, ∀ o, H1 a = some o → H' a = some o ∧ ¬ (a ∈ Ar ∨ a ∈ O2) := fun a ha o e => fr a o (fun z => (List.mem_append.mp z).elim (fun z => n13 a z ha) fun z => nA a (sub a ha) z) e
    have t13 : ∀ a ∈ A1 ++ A3, ∃ u : MHO, H1 a = some u.1 := fun a ha => RepE.trk r.stt.rep a (sub a ha)
    have b1 : ∀ a, a ∈ B1 → a ∈ O2 := fun a ha => by rw [eO]; simp [ha]
    have m3 : ∀ a, a ∈ A1 ++ (B1 ++ A3) → a ∈ A1 ++ A3 ∨ a ∈ B1 := fun a ha => by simp at ha ⊢; rcases ha with z | z | z <;> simp [z]
    refine ⟨A1 ++ (B1 ++ A3), ⟨?_, ?_, ?_, ?_⟩, ?_, fun a z => ?_⟩
    · have q := put (fun a => B a ∨ a ∈ A1 ++ (B1 ++ A3)) H' (some c1) (some x0) B1 ?_ (fun a ha o e => (keep13 a ha o e).1) ⟨x0, rfl, RepC.kp (Kp.less fun a z => ?_) _ _ _ (fun _ _ _ e => e) hc1⟩
      · rw [set_same g1] at q; exact q
      · intro a o hw ha
        obtain ⟨q1, q2⟩ := fr a o (fun z => (List.mem_append.mp z).elim (fun z => hw (.inr (sub2 a z))) fun z => hw (.inl (.inr z))) ha
        refine ⟨q1, fun z => ?_⟩
        rcases z with z | z
        · exact hw (.inl (.inl z))
        · rcases m3 a z with z | z
          · exact hw (.inr (sub a z))
          · exact q2 (.inr (b1 a z))
      · rcases z with z | z
        · exact .inl (.inl (.inl z))
        · rcases m3 a z with z | z
          · exact .inl (.inl (.inr z))
          · exact .inr (b1 a z)
    · have d13 : ∀ a ∈ B1, a ∉ A1 ++ A3 := fun a ha z => by
        obtain ⟨u, e⟩ := t13 a z
        exact (keep13 a z u e).2 (.inr (b1 a ha))
      refine List.nodup_append.mpr ⟨nd1.1, List.nodup_append.mpr ⟨nB1, nd2.2.1, fun a ha b hb e => d13 a ha (by subst e; simp [hb])⟩, fun a ha b hb e => ?_⟩
      subst e
      rcases List.mem_append.mp hb with z | z
      · exact d13 a z (by simp [ha])
      · exact nd1.2.2 a ha a (by simp [z]) rfl
    · intro a ha z
      rcases m3 a ha with ha | ha
      · exact r.stt.dj a (sub a ha) (.inl z)
      · exact dj2 a (b1 a ha) (.inl (.inl z))
    · intro a z
      obtain ⟨u, e⟩ := r.stt.tr a (.inl z)
      exact ⟨u, (fr a u (fun y => (List.mem_append.mp y).elim (fun y => r.stt.dj a (sub2 a y) (.inl z)) fun y => r.dj a y z) e).1⟩
    · intro a o hw ha
      obtain ⟨q, n⟩ := r.frm a o hw ha
      obtain ⟨q1, q2⟩ := fr a o (fun z => (List.mem_append.mp z).elim (fun z => n (.inr (sub2 a z))) fun z => n (.inl z)) q
      refine ⟨q1, fun z => z.elim (fun z => nomatch z) fun z => ?_⟩
      rcases m3 a z with z | z
      · exact n (.inr (sub a z))
      · exact q2 (.inr (b1 a z))
    · rcases z with z | z
      · exact .inl (.inl z)
      · rcases m3 a z with z | z
        · exact .inl (.inr z)
        · exact .inr (b1 a z)
/-- a call that is lent slot i's thing -/
theorem e_fnL {k i : Nat} {x y : Str} {py : Pos} {st : Stmt} {qs : List Str} {m : List C → Out C} {fs : List (M C)} (F : FnM X.prog X.w X.K X.mg X.base k x st qs m) (bd : BindP x st qs) (hg : X.A.guards = some []) (hr : Room k X.A) (tk : Takes X w) (gl : Gl X x)
    (hN : X.N[i]? = some y) (hv : Vis X.env.scope y) (ha : AMk X w es fs) (hl : fs.length + 1 = qs.length := by rfl) (hd : (y == ("__debug__" : Str)) = false := by decide) (hcd : (y == ("__classdict__" : Str)) = false := by decide)
    (hdb : (x == ("__debug__" : Str)) = false := by decide) (he : starEach (.Name y py :: es) X.env = (false, eval (.Name y py) X.env) :: starEach es X.env := by rfl) (hpl : (backTo pos (starEach es X.env)).any (·.1) = false := by rfl) :
    EOk X w (.Call (.Name x pp) (.Name y py :: es) [] pos) (eFnL m i fs) := by
  obtain ⟨f, kV, doc, pm, an, cdv, ct, hm, kp, G⟩ := F.ex
  refine ⟨fun pins s σ H Q I h => ?_⟩
  have want : tCons (tVar i) (rdM X w fs) σ H fun vs H1 => spM X.K X.mg qs.length m vs H1 Q (EofW w σ) := by
    obtain ⟨B, env, O, st, h⟩ := h
    unfold eFnL at h
    split at h
    · rename_i ent hent
      split at hent
      · rename_i c00 h00
        obtain ⟨o, A1, A2, A3, g1, g2, ⟨x0, rfl, hc0⟩, _⟩ := RepE.at st.rep h00
        refine ⟨x0, g1, B, env, O, st, ?_⟩
        cases er : evMs fs env with
        | no => rw [er] at hent; cases hent
        | err y e => rw [er] at hent; cases hent
        | ok cs e1 =>
          rw [er] at hent
          intro vs H1 A O1 r
          have hent : lentTo m i cs e1 = _ := hent
          unfold lentTo at hent
          split at hent
          · rename_i c0 h0
            obtain ⟨x0', Bc, O0, k1, k2, k3, k4⟩ := r.lend h0
            rw [g1] at k1
            cases k1
            refine ⟨by rw [List.length_cons, r.rep.length, evMs_len er]; exact hl, Bc, c0 :: cs, O0, k2, ?_⟩
            split at hent
            · rename_i c outs em
              split at hent
              · rename_i c1 rest
                cases hent
                try rw [em]
                intro u H' A2 O2 r2
                obtain ⟨o, τ, B1, B2, e1', e2', ⟨x1, e3', hc1⟩, _⟩ := r2.stt.rep
                rw [List.map_cons] at e1'
                cases e1'
                cases e3'
                have ndO2 := r2.stt.nd
                rw [e2'] at ndO2
                obtain ⟨O3, s3, f3, sb⟩ := k4 H' A2 O2 B1 B2 c1 r2.frm (fun a ha z => r2.stt.dj a ha z) e2' (List.nodup_append.mp ndO2).1 hc1
                exact h u H' [] O3 (Res.new s3 f3 (New.of_is (Is.kp (Kp.less sb) _ _ r2.is)))
              · cases hent
            · split at hent <;> cases hent
            · cases hent
          · cases hent
      · cases hent
    · rename_i x' ent hent
      split at hent
      · rename_i c00 h00
        obtain ⟨o, A1, A2, A3, g1, g2, ⟨x0, rfl, hc0⟩, _⟩ := RepE.at st.rep h00
        refine ⟨x0, g1, B, env, O, st, ?_⟩
        cases er : evMs fs env with
        | no => rw [er] at hent; cases hent
        | err y e =>
          rw [er] at hent
          cases hent
          exact h
        | ok cs e1 =>
          rw [er] at hent
          intro vs H1 A O1 r
          have hent : lentTo m i cs e1 = _ := hent
          unfold lentTo at hent
          split at hent
          · rename_i c0 h0
            obtain ⟨x0', Bc, O0, k1, k2, k3, k4⟩ := r.lend h0
            rw [g1] at k1
            cases k1
            refine ⟨by rw [List.length_cons, r.rep.length, evMs_len er]; exact hl, Bc, c0 :: cs, O0, k2, ?_⟩
            split at hent
            · split at hent <;> cases hent
            · rename_i y outs em
              split at hent
              · rename_i c1 rest
                cases hent
                try rw [em]
                intro cls d H' O2 r2
                obtain ⟨o, τ, B1, B2, e1', e2', ⟨x1, e3', hc1⟩, _⟩ := r2.stt.rep
                rw [List.map_cons] at e1'
                cases e1'
                cases e3'
                have ndO2 := r2.stt.nd
                rw [e2'] at ndO2
                obtain ⟨O3, s3, f3, sb⟩ := k4 H' [] O2 B1 B2 c1 r2.frm (fun a ha z => r2.stt.dj a ha (z.elim id fun z => nomatch z)) e2' (List.nodup_append.mp ndO2).1 (RepC.kp (Kp.less fun a z => z.imp (fun z => z.elim id fun z => nomatch z) id) _ _ _ (fun _ _ _ e => e) hc1)
                exact h cls d H' O3 (XRes.mk' r2.cls (r2.xfs.less sb) s3 f3)
              · cases hent
            · cases hent
          · cases hent
      · cases hent
    · exact h.elim
  refine wpAny_Call_Name_kw (ld_glob I gl hm ?_ hdb)
  refine PySem.W.callWith_K (h₀ := X.base) I.ok.mod.kin kp (thn ((pa_cons (pe_var (i := i) hN hv hd hcd) ha he).run pos pins s σ H _ I want) ?_) he hpl
  rintro us s1 ⟨vs, H1, I1, r1, q1⟩
  exact ⟨I1.kIn, run_G G hg hr (fun e s' c => tk e s' (XE.of_call I1 (fun _ _ _ z => z) c)) (.of_eq (bd kV doc pm an cdv ct us (r1.length.symm.trans q1.1))) I1 r1 q1⟩
end
end PL
namespace PL
open PySem PySem.Spec PyProof.Rows L2
section
variable {X : Cx} {w : WX} {H : Hp} {σ : L2.St} {e : Expr} {es : List Expr} {p q r : P} {ps : List P} {pos pp : Pos} {K : PySem.W.Frag} {mg : Str → Option Value} {B : Addr → Prop} {O : List Addr} {env : Slots}
theorem RepE.ext {W : Addr → Prop} : ∀ {env : Slots} {σ τ : List (Option V)} {A : List Addr}, RepE K W H env σ A → (∀ (i : Nat) (c : C), env[i]? = some (some c) → τ[i]? = σ[i]?) → τ.length = σ.length → RepE K W H env τ A
  | [], σ, τ, A, h, _, l => by
    obtain ⟨rfl, rfl⟩ := h
    exact ⟨List.eq_nil_of_length_eq_zero (by simpa using l), rfl⟩
  | oc :: r, σ, τ, A, h, q, l => by
    obtain ⟨o, ρ, A1, A2, rfl, rfl, h1, h2⟩ := h
    cases τ with
    | nil => simp at l
    | cons t τ =>
      refine ⟨t, τ, A1, A2, rfl, rfl, ?_, RepE.ext h2 (fun i c e => by simpa using q (i + 1) c (by simpa using e)) (by simpa using l)⟩
      cases oc with
      | none => exact h1
      | some c =>
        have z := q 0 c rfl
        simp at z
        subst z
        exact h1
theorem RepE.unset {W : Addr → Prop} {env : Slots} {σ : List (Option V)} {A : List Addr} (h : RepE K W H env σ A) (i : Nat) : ∃ A', A'.Sublist A ∧ RepE K W H (env.set i none) σ A' := by
  by_cases hi : i < env.length
  · obtain ⟨o, A1, A2, A3, g1, rfl, g3, g4⟩ := RepE.at h (List.getElem?_eq_getElem hi)
    have q := g4 W H none o [] Kp.refl (fun _ _ _ e => e) rfl
    rw [set_same g1] at q
    exact ⟨_, by simp, q⟩
  · rw [List.set_eq_of_length_le (by omega)]
    exact ⟨A, List.Sublist.refl _, h⟩
def wipeE (env : Slots) : List Nat → Slots
  | [] => env
  | v :: vs => (wipeE env vs).set v none
theorem RepE.wipe {W : Addr → Prop} {env : Slots} {σ : List (Option V)} {A : List Addr} (h : RepE K W H env σ A) : ∀ vs : List Nat, ∃ A', A'.Sublist A ∧ RepE K W H (wipeE env vs) σ A'
  | [] => ⟨A, List.Sublist.refl _, h⟩
  | v :: vs => by
    obtain ⟨A1, s1, h1⟩ := RepE.wipe h vs
    obtain ⟨A2, s2, h2⟩ := h1.unset v
    exact ⟨A2, s2.trans s1, h2⟩
theorem wipeE_none {env : Slots} {i : Nat} {c : C} : ∀ {vs : List Nat}, (wipeE env vs)[i]? = some (some c) → i ∉ vs
  | [], h => by simp
  | v :: vs, h => by
    unfold wipeE at h
    by_cases hv : v = i
    · subst hv
      rw [List.getElem?_set] at h
      split at h
      · split at h <;> cases h
      · rename_i z; exact absurd rfl z
    · rw [List.getElem?_set_ne hv] at h
      simp only [List.mem_cons, not_or]
      exact ⟨fun z => hv z.symm, wipeE_none h⟩
/-- only the slots at js may have changed -/
structure SetIn (js : List Nat) (σ τ : List (Option V)) : Prop where
  len : τ.length = σ.length
  out : ∀ i, i ∉ js → τ[i]? = σ[i]?
theorem SetIn.refl {js : List Nat} {σ : List (Option V)} : SetIn js σ σ := ⟨rfl, fun _ _ => rfl⟩
theorem SetIn.trans {js js' : List Nat} {σ τ ρ : List (Option V)} (h : SetIn js σ τ) (h' : SetIn js' τ ρ) : SetIn (js ++ js') σ ρ :=
  ⟨h'.len.trans h.len, fun i hi => (h'.out i fun z => hi (by simp [z])).trans (h.out i fun z => hi (by simp [z]))⟩
theorem SetIn.set {σ : List (Option V)} (i : Nat) (o : Option V) : SetIn [i] σ (σ.set i o) := ⟨by simp, fun j hj => List.getElem?_set_ne (fun z => hj (by simp [z]))⟩
theorem wipe_get (σ : List (Option V)) (i : Nat) : ∀ vs : List Nat, (L2.wipe σ vs)[i]? = if i ∈ vs then (σ[i]?).map fun _ => none else σ[i]?
  | [] => by simp [L2.wipe]
  | v :: vs => by
    unfold L2.wipe
    by_cases hv : v = i
    · subst hv
      have ih := wipe_get σ v vs
      rw [List.getElem?_set_self']
      rw [ih]
      simp only [List.mem_cons, true_or, if_true]
      split <;> cases σ[v]? <;> rfl
    · rw [List.getElem?_set_ne hv, wipe_get σ i vs]
      have : i ∈ v :: vs ↔ i ∈ vs := by
        rw [List.mem_cons]
        exact ⟨fun z => z.elim (fun z => absurd z.symm hv) id, .inr⟩
      simp only [this]
theorem SetIn.wipe {js vs : List Nat} {σ τ : List (Option V)} (h : SetIn js σ τ) (hs : ∀ j ∈ js, j ∈ vs) : L2.wipe τ vs = L2.wipe σ vs := by
  refine List.ext_getElem? fun i => ?_
  rw [wipe_get, wipe_get]
  by_cases hi : i ∈ vs
  · rw [if_pos hi, if_pos hi]
    by_cases hl : i < σ.length
    · rw [List.getElem?_eq_getElem hl, List.getElem?_eq_getElem (by rw [h.len]; exact hl)]; rfl
    · have hl' := h.len
      rw [List.getElem?_eq_none (show τ.length ≤ i by omega), List.getElem?_eq_none (show σ.length ≤ i by omega)]
  · rw [if_neg hi, if_neg hi]
    exact h.out i fun z => hi (hs i z)
/-- .. what the slots let go is told as another's -/
theorem Stt.wipedB {vs : List Nat} {τ : List (Option V)} (s : Stt K B H σ env O) (h : ∀ i, i ∉ vs → τ[i]? = σ[i]?) (hl : τ.length = σ.length) : ∃ O', O'.Sublist O ∧ Stt K (fun a => B a ∨ (a ∈ O ∧ a ∉ O')) H τ (wipeE env vs) O' := by
  obtain ⟨A', sub, r⟩ := s.rep.wipe vs
  have r2 := RepE.ext r (τ := τ) (fun i c e => h i (wipeE_none e)) hl
  refine ⟨A', sub, RepE.kp (Kp.less fun a z => ?_) (fun _ _ _ e => e) r2, s.nd.sublist sub, fun a ha z => ?_, fun a z => z.elim (s.tr a) fun z => RepE.trk s.rep a z.1⟩
  · rcases z with (z | z) | z
    · exact .inl z
    · exact .inr z.1
    · exact .inr (sub.subset z)
  · exact z.elim (s.dj a (sub.subset ha)) fun z => z.2 ha
theorem Frm.sub {O O1 O2 A : List Addr} {H H' : Hp} (f : Frm O H A O1 H') (s : ∀ a ∈ O2, a ∈ O1) : Frm O H A O2 H' := fun a o w h => ⟨(f a o w h).1, fun z => (f a o w h).2 (z.imp id (s a))⟩
/-- a value put into a slot -/
theorem Res.put {c : C} {e1 : Slots} {v : V} {H' : Hp} {A O' : List Addr} {i : Nat} (r : Res K B O H σ c e1 v H' A O') (hi : i < e1.length) :
    ∃ O2, Stt K B H' (σ.set i (some v)) (e1.set i (some c)) O2 ∧ Frm O H [] O2 H' := by
  obtain ⟨o, A1, A2, A3, g1, g2, g3, g4⟩ := RepE.at r.stt.rep (List.getElem?_eq_getElem hi)
  have nd := r.stt.nd
  rw [g2] at nd
  have nd1 := List.nodup_append.mp nd
  have nd2 := List.nodup_append.mp nd1.2.1
  have sub : ∀ a, a ∈ A1 ++ A3 → a ∈ O' := fun a ha => by rw [g2]; simp at ha ⊢; rcases ha with z | z <;> simp [z]
  have m3 : ∀ a, a ∈ A1 ++ (A ++ A3) → a ∈ A ∨ a ∈ A1 ++ A3 := fun a ha => by simp at ha ⊢; rcases ha with z | z | z <;> simp [z]
  refine ⟨A1 ++ (A ++ A3), ⟨?_, ?_, ?_, ?_⟩, fun a o hw ha => ⟨(r.frm a o hw ha).1, fun z => (r.frm a o hw ha).2 (z.elim (fun z => nomatch z) fun z => (m3 a z).imp id (sub a))⟩⟩
  · refine g4 _ H' (some c) (some v) A (Kp.less fun a z => ?_) (fun _ _ _ e => e) ⟨v, rfl, RepC.kp (Kp.less fun a z => ?_) _ _ _ (fun _ _ _ e => e) r.rep⟩
    · rcases z with z | z
      · exact .inl (.inl z)
      · exact (m3 a z).imp .inr (sub a)
    · rcases z with z | z
      · exact .inl (.inl z)
      · exact (m3 a z).imp .inr (sub a)
  · refine List.nodup_append.mpr ⟨nd1.1, List.nodup_append.mpr ⟨r.nd, nd2.2.1, fun a ha b hb e => ?_⟩, fun a ha b hb e => ?_⟩
    · subst e; exact r.stt.dj a (sub a (by simp [hb])) (.inr ha)
    · subst e
      rcases List.mem_append.mp hb with z | z
      · exact r.stt.dj a (sub a (by simp [ha])) (.inr z)
      · exact nd1.2.2 a ha a (by simp [z]) rfl
  · exact fun a ha z => (m3 a ha).elim (fun y => r.dj a y z) fun y => r.stt.dj a (sub a y) (.inl z)
  · exact fun a z => r.stt.tr a (.inl z)
theorem Stt.put {d : D} {v : V} {i : Nat} (s : Stt K B H σ env O) (h : Is K (fun a => B a ∨ a ∈ O) H d v) (hi : i < env.length) : ∃ O2, Stt K B H (σ.set i (some v)) (env.set i (some (.frz d))) O2 ∧ Frm O H [] O2 H :=
  (Res.new s Frm.refl (New.of_is h)).put hi
abbrev Tg := D → Slots → Option Slots
def rdG (X : Cx) (n : Bool) (js : List Nat) (t : Tg) : TG := fun v σ H Q => ∃ B env O d env', Stt X.K B H σ env O ∧ Is X.K (fun a => B a ∨ a ∈ O) H d v ∧ t d env = some env' ∧ ∀ σ' H' O', Stt X.K B H' σ' env' O' → Frm O H [] O' H' → SetIn js σ σ' → (n = true → H' = H ∧ O' = O) → Q σ' H'
def rdGs (X : Cx) (n : Bool) (js : List Nat) (t : List D → Slots → Option Slots) : TGs := fun vs σ H Q => ∃ B env O ds env', Stt X.K B H σ env O ∧ IsL X.K (fun a => B a ∨ a ∈ O) H ds vs ∧ t ds env = some env' ∧ ∀ σ' H' O', Stt X.K B H' σ' env' O' → Frm O H [] O' H' → SetIn js σ σ' → (n = true → H' = H ∧ O' = O) → Q σ' H'
abbrev GOk (X : Cx) (n : Bool) (tg : Expr) (js : List Nat) (t : Tg) : Prop := PG X tg (rdG X n js t)
abbrev GsOk (X : Cx) (n : Bool) (tg : List Expr) (js : List Nat) (t : List D → Slots → Option Slots) : Prop := PGs X tg (rdGs X n js t)
theorem _root_.L2.PG.imp {X : Cx} {e : Expr} {t t' : TG} (h : PG X e t) (i : ∀ v σ H Q, t' v σ H Q → t v σ H Q) : PG X e t' := ⟨fun pins s σ H v u Q I r hw => h.run pins s σ H v u Q I r (i v σ H Q hw)⟩
theorem _root_.L2.PGs.imp {X : Cx} {e : List Expr} {t t' : TGs} (h : PGs X e t) (i : ∀ v σ H Q, t' v σ H Q → t v σ H Q) : PGs X e t' := ⟨fun pins s σ H v u Q I r hw => h.run pins s σ H v u Q I r (i v σ H Q hw)⟩
def isFree : Option (Option C) → Bool
  | some none => true
  | _ => false
def gV (n : Bool) (i : Nat) : Tg := fun d env => if (!n || isFree env[i]?) then some (env.set i (some (.frz d))) else none
theorem Stt.putF {d : D} {v : V} {i : Nat} (s : Stt K B H σ env O) (h : Is K (fun a => B a ∨ a ∈ O) H d v) (hi : isFree env[i]? = true) : Stt K B H (σ.set i (some v)) (env.set i (some (.frz d))) O := by
  have hi' : env[i]? = some none := by
    cases e : env[i]? with
    | none => rw [e] at hi; cases hi
    | some o =>
      cases o with
      | none => rfl
      | some c => rw [e] at hi; cases hi
  obtain ⟨o, A1, A2, A3, g1, g2, g3, g4⟩ := RepE.at s.rep hi'
  have e2 : A2 = [] := g3
  subst e2
  have q := g4 (fun a => B a ∨ a ∈ O) H (some (.frz d)) (some v) [] Kp.refl (fun _ _ _ e => e) ⟨v, rfl, rfl, h⟩
  rw [← g2] at q
  exact ⟨q, s.nd, s.dj, s.tr⟩
theorem Stt.len (s : Stt K B H σ env O) : σ.length = env.length := RepE.length s.rep
theorem g_V {n : Bool} {i : Nat} {x : Str} (hN : X.N.Nodup) (hi : X.N[i]? = some x) (hx : Loc X.env.scope x) (hf : X.fn x = true ∨ X.env.scope.names.lookup x = some .local := by first | exact .inl rfl | exact .inr rfl | assumption) : GOk X n (.Name x pos) [i] (gV n i) := ⟨fun pins s σ H v u Q I r h => (pg_name hN hi hx hf).run pins s σ H v u Q I r (by
  obtain ⟨B, env, O, d, env', st, hd, ht, h⟩ := h
  have hl : i < env.length := by
    rw [← st.len, I.len]
    by_cases q : i < X.N.length
    · exact q
    · rw [List.getElem?_eq_none (by omega)] at hi; cases hi
  cases n with
  | true =>
    simp only [gV, Bool.not_true, Bool.false_or] at ht
    split at ht
    · rename_i hl
      cases ht
      exact h _ H O (st.putF hd hl) Frm.refl (SetIn.set i _) fun _ => ⟨rfl, rfl⟩
    · cases ht
  | false =>
    cases ht
    obtain ⟨O2, s2, f2⟩ := st.put hd hl
    exact h _ H O2 s2 f2 (SetIn.set i _) fun z => nomatch z)⟩
def gsNil : List D → Slots → Option Slots
  | [], env => some env
  | _, _ => none
def gsCons (t : Tg) (u : List D → Slots → Option Slots) : List D → Slots → Option Slots
  | d :: r, env => (t d env).bind (u r)
  | _, _ => none
theorem gs_nil {n : Bool} : GsOk X n [] [] gsNil := pgs_nil.imp fun vs σ H Q h => by
  obtain ⟨B, env, O, ds, env', s, hd, ht, h⟩ := h
  unfold gsNil at ht
  split at ht
  · cases ht
    exact ⟨hd, h σ H O s Frm.refl SetIn.refl fun _ => ⟨rfl, rfl⟩⟩
  · cases ht
theorem gs_cons {n : Bool} {js js' : List Nat} {t : Tg} {u : List D → Slots → Option Slots} (h1 : GOk X n e js t) (h2 : GsOk X n es js' u)
    (hs : (assignEach (e :: es) X.env).map (·.2) = assign e X.env :: (assignEach es X.env).map (·.2) := by rfl) : GsOk X n (e :: es) (js ++ js') (gsCons t u) := (pgs_cons h1 h2 hs).imp fun vs σ H Q h => by
  obtain ⟨B, env, O, ds, env', s, hd, ht, h⟩ := h
  unfold gsCons at ht
  split at ht
  · simp only [Option.bind_eq_some_iff] at ht
    obtain ⟨e1, ht1, ht2⟩ := ht
    obtain ⟨x, ys, rfl, i1, i2⟩ := hd
    refine ⟨x, ys, rfl, B, _, O, _, e1, s, i1, ht1, fun σ1 H1 O1 s1 f1 z1 q1 => ⟨B, e1, O1, _, env', s1, IsL.kp (fun a o hw ha => ?_) _ _ i2, ht2, fun σ2 H2 O2 s2 f2 z2 q2 => h σ2 H2 O2 s2 (f1.seq' f2) (z1.trans z2) fun z => ⟨(q2 z).1.trans (q1 z).1, (q2 z).2.trans (q1 z).2⟩⟩⟩
    obtain ⟨q, n⟩ := f1 a o (fun z => hw (.inr z)) ha
    exact ⟨q, fun z => z.elim (fun z => hw (.inl z)) fun z => n (.inr z)⟩
  · cases ht
def gTupD (n : Nat) (u : List D → Slots → Option Slots) : Tg := fun d env => match d with
  | .tup l => if l.length = n then u l env else none
  | _ => none
theorem g_tup {nn : Bool} {k n : Nat} {js : List Nat} {u : List D → Slots → Option Slots} (hc : X.calm = true) (h : GsOk X nn es js u) (hn : (assignEach es X.env).length = n := by rfl) (hst : (assignEach es X.env).findIdx? (·.1) = none := by rfl) : GOk X nn (.Tuple es k pos) js (gTupD n u) :=
  (pg_tup hc h hn hst).imp fun v σ H Q h => by
    obtain ⟨B, env, O, d, env', s, hd, ht, h⟩ := h
    unfold gTupD at ht
    split at ht
    · rename_i l
      split at ht
      · rename_i hl
        obtain ⟨a, xs, rfl, ha, nw, il⟩ := hd
        exact ⟨a, xs, rfl, SqT.of ha, il.length.trans hl, B, env, O, l, env', s, il, ht, h⟩
      · cases ht
    · cases ht
/-- a walk of l, whatever happens outside W -/
def WalkD (K : PySem.W.Frag) (W : Addr → Prop) (H : Hp) (J : It) (l : List D) : Prop := ∀ (W2 : Addr → Prop) (H2 : Hp), Kp W H W2 H2 → (∀ a, W2 a → ∃ u : MHO, H2 a = some u.1) →
  (∀ i, i < l.length → J.go i H2) ∧ J.stop l.length H2 ∧ ∀ i x H3, i < l.length → J.yld i H2 x H3 → Grw H2 H3 ∧ ∃ d, l[i]? = some d ∧ Is K W2 H3 d x
/-- .. while the heap but grows (the object at D aside) -/
def WalkG (K : PySem.W.Frag) (W : Addr → Prop) (H : Hp) (J : It) (l : List D) : Prop := ∀ (D : Addr) (H2 : Hp), H D = none → (∃ u : MHO, H2 D = some u.1) → (∀ a o, H a = some o → H2 a = some o) → (∀ a, W a → ∃ u : MHO, H2 a = some u.1) →
  (∀ i, i < l.length → J.go i H2) ∧ J.stop l.length H2 ∧ ∀ i x H3, i < l.length → J.yld i H2 x H3 → Grw H2 H3 ∧ ∃ d, l[i]? = some d ∧ Is K (fun a => W a ∨ a = D) H3 d x
theorem WalkD.g {W : Addr → Prop} {J : It} {l : List D} (h : WalkD K W H J l) : WalkG K W H J l := fun D H2 hD hD2 g tr =>
  h (fun a => W a ∨ a = D) H2 (fun a o w ha => ⟨g a o ha, fun z => z.elim w fun z => by subst z; rw [hD] at ha; cases ha⟩) fun a z => z.elim (tr a) fun z => z ▸ hD2
def rdIG (X : Cx) (src : PLs) : TI := fun σ H R => ∃ B env O, Stt X.K B H σ env O ∧ ∃ l, src env = some l ∧ ∀ J H', Grw H H' → WalkG X.K (fun a => B a ∨ a ∈ O) H' J l → R J H'
def rdID (X : Cx) (w : WX) (src : M (List D)) : TI := fun σ H R => ∃ B env O, Stt X.K B H σ env O ∧ match src env with
  | .ok l env' => ∀ J H' O', Stt X.K B H' σ env' O' → Frm O H [] O' H' → WalkD X.K (fun a => B a ∨ a ∈ O') H' J l → R J H'
  | .err x env' => ∀ cls d H' O', XRes X.K X.mg B O H σ x env' cls d H' O' → w cls d σ H'
  | .no => False
abbrev IGk (X : Cx) (tg e : Expr) (src : PLs) : Prop := PI X tg e (rdIG X src)
abbrev IDk (X : Cx) (w : WX) (tg e : Expr) (src : M (List D)) : Prop := PI X tg e (rdID X w src)
theorem _root_.L2.PI.imp {X : Cx} {tg e : Expr} {t t' : TI} (h : PI X tg e t) (i : ∀ σ H Q, t' σ H Q → t σ H Q) : PI X tg e t' := ⟨fun pins s σ H R I hw => h.run pins s σ H R I (i σ H R hw)⟩
theorem _root_.L2.PI.or {X : Cx} {tg e : Expr} {t t' : TI} (h : PI X tg e t) (h' : PI X tg e t') : PI X tg e (fun σ H R => t σ H R ∨ t' σ H R) := ⟨fun pins s σ H R I hw => hw.elim (h.run pins s σ H R I) (h'.run pins s σ H R I)⟩
theorem walkD_list {W : Addr → Prop} {a : Addr} {xs : List V} {l : List D} (ha : H a = some (.lst xs)) (nw : ¬ W a) (il : IsL K W H l xs) : WalkD K W H (Itl K a) l := fun W2 H2 kp tr => by
  have h2 := (kp a _ nw ha).1
  have i2 := IsL.kp kp _ _ il
  have hl := il.length
  refine ⟨fun i hi => ⟨xs, xs[i]'(by omega), SqL.of h2, by simp [hl, hi]⟩, ⟨xs, SqL.of h2, by omega⟩, fun i x H3 hi y => ?_⟩
  obtain ⟨rfl, y⟩ := y
  refine ⟨Grw.refl, l[i], by simp [hi], ?_⟩
  obtain ⟨x', e, h⟩ := i2.get (List.getElem?_eq_getElem hi)
  rw [y xs (SqL.of h2)] at e
  cases e
  exact h
theorem walkD_tup {W : Addr → Prop} {a : Addr} {xs : List V} {l : List D} (ha : H a = some (.tup xs)) (nw : ¬ W a) (il : IsL K W H l xs) : WalkD K W H (Itt K a) l := fun W2 H2 kp tr => by
  have h2 := (kp a _ nw ha).1
  have i2 := IsL.kp kp _ _ il
  have hl := il.length
  refine ⟨fun i hi => ⟨xs, xs[i]'(by omega), SqT.of h2, by simp [hl, hi]⟩, ⟨xs, SqT.of h2, by omega⟩, fun i x H3 hi y => ?_⟩
  obtain ⟨rfl, y⟩ := y
  refine ⟨Grw.refl, l[i], by simp [hi], ?_⟩
  obtain ⟨x', e, h⟩ := i2.get (List.getElem?_eq_getElem hi)
  rw [y xs (SqT.of h2)] at e
  cases e
  exact h
theorem walkG_list {W : Addr → Prop} {a : Addr} {xs : List V} {l : List D} (ha : H a = some (.lst xs)) (il : IsL K W H l xs) : WalkG K W H (Itl K a) l := fun D H2 hD hD2 g tr => by
  have h2 := g _ _ ha
  have i2 : IsL K (fun b => W b ∨ b = D) H2 l xs := IsL.kp (fun b o w hb => ⟨g b o hb, fun z => z.elim w fun z => by subst z; rw [hD] at hb; cases hb⟩) _ _ il
  have hl := il.length
  refine ⟨fun i hi => ⟨xs, xs[i]'(by omega), SqL.of h2, by simp [hl, hi]⟩, ⟨xs, SqL.of h2, by omega⟩, fun i x H3 hi y => ?_⟩
  obtain ⟨rfl, y⟩ := y
  refine ⟨Grw.refl, l[i], by simp [hi], ?_⟩
  obtain ⟨x', e, h⟩ := i2.get (List.getElem?_eq_getElem hi)
  rw [y xs (SqL.of h2)] at e
  cases e
  exact h
theorem walkD_range {W : Addr → Prop} (lo : Int) (n : Nat) : WalkD K W H (Itr lo n) ((List.range n).map fun (i : Nat) => D.int (lo + (i : Int))) := fun W2 H2 kp tr => by
  refine ⟨fun i hi => (by simpa using hi : i < n), by simp [Itr], fun i x H3 hi y => ?_⟩
  obtain ⟨rfl, rfl⟩ := y
  have hi : i < n := by simpa using hi
  exact ⟨Grw.refl, .int (lo + i), by simp [List.getElem?_range hi], rfl⟩
def enumD (l : List D) : List D := l.zipIdx.map fun p => .tup [.int (p.2 : Int), p.1]
theorem enumD_get {l : List D} {i : Nat} (hi : i < l.length) : (enumD l)[i]? = some (.tup [.int (i : Int), l[i]]) := by
  unfold enumD
  rw [List.getElem?_map, List.getElem?_zipIdx, List.getElem?_eq_getElem hi]
  simp
theorem enumD_length (l : List D) : (enumD l).length = l.length := by simp [enumD]
theorem walkD_enum {W : Addr → Prop} {a : Addr} {xs : List V} {l : List D} (ha : H a = some (.lst xs)) (nw : ¬ W a) (il : IsL K W H l xs) : WalkD K W H (Ite K a) (enumD l) := fun W2 H2 kp tr => by
  have h2 := (kp a _ nw ha).1
  have i2 := IsL.kp kp _ _ il
  have hl := il.length
  rw [enumD_length]
  refine ⟨fun i hi => ⟨xs, xs[i]'(by omega), SqL.of h2, by simp [hl, hi]⟩, ⟨xs, SqL.of h2, by omega⟩, fun i x H3 hi y => ?_⟩
  obtain ⟨T, z, rfl, hT, rfl, y⟩ := y
  have g1 : Grw H2 (upd H2 T (.tup [.int (i : Nat), z])) := fun b o e => by rw [upd_ne (ne_of_none e hT)]; exact e
  refine ⟨g1, _, enumD_get hi, T, _, rfl, upd_same, fun q => ?_, ?_⟩
  · obtain ⟨u, e⟩ := tr T q; rw [hT] at e; cases e
  · obtain ⟨x', e, h⟩ := i2.get (List.getElem?_eq_getElem hi)
    rw [y xs (SqL.of h2)] at e
    cases e
    exact ⟨_, _, rfl, rfl, _, _, rfl, h.grw g1, rfl⟩
def zipD (l m : List D) : List D := List.zipWith (fun a b => D.tup [a, b]) l m
section
variable {tg : Expr} {k1 k2 : Nat} {tpos : Pos} {elts : List Expr}
theorem iG_list {p : PLs} (h : LOk X e p) : IGk X tg e p := (pi_list h).imp fun σ H R hr => by
  obtain ⟨B, env, O, s, l, hp, hr⟩ := hr
  exact ⟨B, env, O, s, l, hp, fun a xs H1 g ha il => ⟨a, rfl, ⟨xs, SqL.of ha⟩, hr _ H1 g (walkG_list ha il)⟩⟩
/-- a frozen list or tuple -/
theorem iG_seq (h : POk X e p) : IGk X tg e (fSq p) := ((pi_list h).or (pi_tup h)).imp fun σ H R hr => by
  obtain ⟨B, env, O, s, l, hp, hr⟩ := hr
  unfold fSq at hp
  simp only [Option.bind_eq_some_iff] at hp
  obtain ⟨d, e1, e2⟩ := hp
  cases d with
  | lst l' =>
    cases e2
    exact .inl ⟨B, env, O, s, _, e1, fun v H1 g hv => let ⟨a, xs, ev, ha, nw, il⟩ := hv; ⟨a, ev, ⟨xs, SqL.of ha⟩, hr _ H1 g (walkD_list ha nw il).g⟩⟩
  | tup l' =>
    cases e2
    exact .inr ⟨B, env, O, s, _, e1, fun v H1 g hv => let ⟨a, xs, ev, ha, nw, il⟩ := hv; ⟨a, ev, ⟨xs, SqT.of ha⟩, hr _ H1 g (walkD_tup ha nw il).g⟩⟩
  | non => cases e2
  | bl _ => cases e2
  | int _ => cases e2
  | str _ => cases e2
  | dct _ => cases e2
  | dcT _ => cases e2
  | dcL _ => cases e2
  | ro _ => cases e2
  | fn _ => cases e2
  | opq _ => cases e2
  | lam _ _ => cases e2
def mSq (f : M C) : M (List D) := fun env => (f env).bind fun c e1 => match sqD c.toD with
  | some l => .ok l e1
  | none => .no
theorem iD_seq {f : M C} (h : EOk X w e f) : IDk X w tg e (mSq f) := ((pi_list h).or (pi_tup h)).imp fun σ H R hr => by
  obtain ⟨B, env, O, s, hr⟩ := hr
  unfold mSq at hr
  cases ef : f env with
  | no => simp only [ef, Out.bind] at hr
  | err x e1 =>
    simp only [ef, Out.bind] at hr
    exact .inl ⟨B, env, O, s, by rw [ef]; exact hr⟩
  | ok c e1 =>
    simp only [ef, Out.bind] at hr
    cases hd : c.toD with
    | lst l' =>
      rw [hd] at hr
      refine .inl ⟨B, env, O, s, ?_⟩
      rw [ef]
      intro v H1 A O1 r
      have hv := r.is
      rw [hd] at hv
      obtain ⟨a, xs, ev, ha, nw, il⟩ := hv
      exact ⟨a, ev, ⟨xs, SqL.of ha⟩, hr _ H1 O1 (r.stt.less fun a z => .inl z) (fun a o hw ha => ⟨(r.frm a o hw ha).1, fun z => (r.frm a o hw ha).2 (z.elim (fun z => nomatch z) .inr)⟩) (walkD_list ha nw il)⟩
    | tup l' =>
      rw [hd] at hr
      refine .inr ⟨B, env, O, s, ?_⟩
      rw [ef]
      intro v H1 A O1 r
      have hv := r.is
      rw [hd] at hv
      obtain ⟨a, xs, ev, ha, nw, il⟩ := hv
      exact ⟨a, ev, ⟨xs, SqT.of ha⟩, hr _ H1 O1 (r.stt.less fun a z => .inl z) (fun a o hw ha => ⟨(r.frm a o hw ha).1, fun z => (r.frm a o hw ha).2 (z.elim (fun z => nomatch z) .inr)⟩) (walkD_tup ha nw il)⟩
    | non => rw [hd] at hr; exact hr.elim
    | bl _ => rw [hd] at hr; exact hr.elim
    | int _ => rw [hd] at hr; exact hr.elim
    | str _ => rw [hd] at hr; exact hr.elim
    | dct _ => rw [hd] at hr; exact hr.elim
    | dcT _ => rw [hd] at hr; exact hr.elim
    | dcL _ => rw [hd] at hr; exact hr.elim
    | ro _ => rw [hd] at hr; exact hr.elim
    | fn _ => rw [hd] at hr; exact hr.elim
    | opq _ => rw [hd] at hr; exact hr.elim
    | lam _ _ => rw [hd] at hr; exact hr.elim
def rngL : List D → Option (List D)
  | [.int j] => if -(2 ^ 62) ≤ j ∧ j < 2 ^ 62 then some ((List.range j.toNat).map fun (i : Nat) => .int (0 + (i : Int))) else none
  | [.int i, .int j] => if (-(2 ^ 62) ≤ i ∧ i < 2 ^ 62) ∧ -(2 ^ 62) ≤ j ∧ j < 2 ^ 62 then some ((List.range (j - i).toNat).map fun (k : Nat) => .int (i + (k : Int))) else none
  | _ => none
def rngP (ps : List P) : PLs := fun env => (evPs ps env).bind rngL
def rngM (fs : List (M C)) : M (List D) := fun env => (evMs fs env).bind fun cs e1 => match rngL (C.toDs cs) with
  | some l => .ok l e1
  | none => .no
theorem iG_rng1 {a : Expr} {pa pb : Pos} (hg : Gl X "range") (hm : X.mg "range" = none) (ha : ABk X [a] [p]) (hs : starEach [a] X.env = [(false, eval a X.env)] := by rfl) : IGk X tg (.Call (.Name "range" pa) [a] [] pb) (rngP [p]) := (pi_range1 hg hm ha hs).imp fun σ H R hr => by
  obtain ⟨B, env, O, s, l, hp, hr⟩ := hr
  unfold rngP at hp
  simp only [Option.bind_eq_some_iff] at hp
  obtain ⟨ds, e1, e2⟩ := hp
  refine ⟨B, env, O, s, ds, e1, fun vs H1 g hv => ?_⟩
  have hl := evPs_len e1
  unfold rngL at e2
  split at e2
  · rename_i j
    split at e2
    · rename_i hj
      cases e2
      obtain ⟨x, rfl, hx⟩ := hv.one
      rw [show x = _ from hx]
      exact ⟨j, rfl, hj.1, hj.2, hr _ H1 g (walkD_range 0 _).g⟩
    · cases e2
  · simp at hl
  · cases e2
theorem iG_rng2 {a b : Expr} {pa pb : Pos} (hg : Gl X "range") (hm : X.mg "range" = none) (ha : ABk X [a, b] [p, q]) (hs : starEach [a, b] X.env = [(false, eval a X.env), (false, eval b X.env)] := by rfl) (hs2 : starEach [b] X.env = [(false, eval b X.env)] := by rfl) : IGk X tg (.Call (.Name "range" pa) [a, b] [] pb) (rngP [p, q]) := (pi_range2 hg hm ha hs hs2).imp fun σ H R hr => by
  obtain ⟨B, env, O, s, l, hp, hr⟩ := hr
  unfold rngP at hp
  simp only [Option.bind_eq_some_iff] at hp
  obtain ⟨ds, e1, e2⟩ := hp
  refine ⟨B, env, O, s, ds, e1, fun vs H1 g hv => ?_⟩
  have hl := evPs_len e1
  unfold rngL at e2
  split at e2
  · simp at hl
  · rename_i i j
    split at e2
    · rename_i hj
      cases e2
      obtain ⟨x, y, rfl, hx, hy⟩ := hv.two
      rw [show x = _ from hx, show y = _ from hy]
      exact ⟨i, j, rfl, ⟨hj.1.1, hj.1.2, hj.2.1, hj.2.2⟩, hr _ H1 g (walkD_range i _).g⟩
    · cases e2
  · cases e2
end
end
end PL
namespace PL
open PySem PySem.Spec PyProof.Rows L2
section
variable {X : Cx} {w : WX} {H : Hp} {σ : L2.St} {e : Expr} {es : List Expr} {p q r : P} {ps : List P} {pos pp : Pos} {K : PySem.W.Frag} {mg : Str → Option Value} {B : Addr → Prop} {O : List Addr} {env : Slots}
theorem toDs_length (l : List C) : (C.toDs l).length = l.length := by rw [toDs_map, List.length_map]
section
variable {tg : Expr} {kk : Nat} {tpos : Pos} {elts : List Expr}
/-- a source whose parts are pure -/
def mP (src : PLs) : M (List D) := fun env => match src env with | some l => .ok l env | none => .no
theorem rdID_args {fs : List (M C)} {k : List D → Option (List D)} {R : It → Hp → Prop} {Q : List V → Hp → Prop} (h : rdID X w (fun env => (evMs fs env).bind fun cs e1 => match k (C.toDs cs) with | some l => .ok l e1 | none => .no) σ H R)
    (i : ∀ (B : Addr → Prop) (O : List Addr) (l : List D) (ds : List D) (vs : List V) (H' : Hp), ds.length = fs.length → k ds = some l → IsL X.K (fun a => B a ∨ a ∈ O) H' ds vs → (∀ J, WalkD X.K (fun a => B a ∨ a ∈ O) H' J l → R J H') → Q vs H') : rdM X w fs σ H Q := by
  obtain ⟨B, env, O, s, h⟩ := h
  refine ⟨B, env, O, s, ?_⟩
  cases er : evMs fs env with
  | no => simp only [er, Out.bind] at h
  | err x e => simp only [er, Out.bind] at h; exact h
  | ok cs e1 =>
    simp only [er, Out.bind] at h
    intro vs H' A O' r
    cases el : k (C.toDs cs) with
    | none => rw [el] at h; exact h.elim
    | some l =>
      rw [el] at h
      exact i B O' l _ vs H' (by rw [toDs_length, evMs_len er]) el r.isL fun J wk => h J H' O' (r.stt.less fun a z => .inl z) r.frm0 wk
theorem iD_rng1 {a : Expr} {f : M C} {pa pb : Pos} (hg : Gl X "range") (hm : X.mg "range" = none) (ha : AMk X w [a] [f]) (hs : starEach [a] X.env = [(false, eval a X.env)] := by rfl) : IDk X w tg (.Call (.Name "range" pa) [a] [] pb) (rngM [f]) := (pi_range1 hg hm ha hs).imp fun σ H R hr =>
  rdID_args (k := rngL) hr fun B O l ds vs H' hl e2 hv k => by
    unfold rngL at e2
    split at e2
    · rename_i j
      split at e2
      · rename_i hj
        cases e2
        obtain ⟨x, rfl, hx⟩ := hv.one
        rw [show x = _ from hx]
        exact ⟨j, rfl, hj.1, hj.2, k _ (walkD_range 0 _)⟩
      · cases e2
    · simp at hl
    · cases e2
def enumP (p : PLs) : PLs := fun env => (p env).map enumD
def zipP (p q : PLs) : PLs := fun env => match p env, q env with
  | some l, some m => some (zipD l m)
  | _, _ => none
end
def compF (t : Tg) (q : PB) (p : P) (env : Slots) : List D → Option (List D)
  | [] => some []
  | x :: r => match t x env with
    | none => none
    | some e1 => match q e1 with
      | none => none
      | some false => compF t q p env r
      | some true => match p e1, compF t q p env r with
        | some d, some ds => some (d :: ds)
        | _, _ => none
def fComp (vs : List Nat) (t : Tg) (q : PB) (p : P) (src : PLs) : PLs := fun env => (src env).bind fun l => if l.length ≤ 100000 then compF t q p (wipeE env vs) l else none
abbrev TsOk (X : Cx) (es : List Expr) (q : PB) : Prop := PTs X es (rdQ X q)
theorem ts_nil : TsOk X [] (fun _ => some true) := ⟨fun pins s σ H Q I h => pts_nil.run pins s σ H Q I (by
  obtain ⟨B, env, O, st, b, hp, h⟩ := h
  cases hp
  exact h H Grw.refl)⟩
theorem ts_one {q : PB} (h : QOk X e q) : TsOk X [e] q := pts_one h
/-- the new list of a comprehension, seen without it -/
theorem without {D : Addr} {xs : List V} {H : Hp} (h : H D = some (.lst xs)) : upd (fun b => if b = D then none else H b) D (.lst xs) = H := by
  funext b
  by_cases hb : b = D
  · subst hb; rw [upd_same, h]
  · rw [upd_ne hb, if_neg hb]
theorem lc_of {js : List Nat} {t : Tg} {q : PB} {p : P} {src : PLs} {vs : List Nat} (hj : ∀ j ∈ js, j ∈ vs) (σ : L2.St) (H : Hp) (Q : VK) (h : rdF X (fComp vs t q p src) σ H Q) : tLc (rdIG X src) (rdG X true js t) (rdQ X q) (rdP X p) vs σ H Q := by
  obtain ⟨B, env, O, s, l, hp, h⟩ := h
  unfold fComp at hp
  simp only [Option.bind_eq_some_iff] at hp
  obtain ⟨its, hsrc, hp⟩ := hp
  split at hp
  case isFalse => cases hp
  rename_i hlen
  refine ⟨B, env, O, s, its, hsrc, fun J H1 g1 wk D hD => ?_⟩
  have s1 := s.grw g1
  have gD : ∀ a o, H1 a = some o → upd H1 D (.lst []) a = some o := fun a o e => by rw [upd_ne (ne_of_none e hD)]; exact e
  -- the state between two turns
  let Iv : Nat → Hp → Prop := fun i H2 => ∃ acc xs rest, H2 D = some (.lst xs) ∧ (∀ a o, H1 a = some o → H2 a = some o) ∧ IsL X.K (fun a => (B a ∨ a ∈ O) ∨ a = D) H2 acc xs ∧
    compF t q p (wipeE env vs) (its.drop i) = some rest ∧ acc ++ rest = l ∧ acc.length ≤ i
  refine ⟨fun i m H2 => m = its.length - i ∧ i ≤ its.length ∧ Iv i H2, ⟨its.length, by simp, Nat.zero_le _, [], [], l, upd_same, gD, rfl, by simpa using hp, rfl, Nat.le_refl _⟩, ?_⟩
  rintro i m H2 ⟨rfl, hi2, acc, xs, rest, k1, k2, k3, k4, k5, k6⟩
  have tr2 : ∀ a, B a ∨ a ∈ O → ∃ u : MHO, H2 a = some u.1 := fun a z => let ⟨u, e⟩ := s1.trk a z; ⟨u, k2 a u e⟩
  obtain ⟨w1, w2, w3⟩ := wk D H2 hD ⟨⟨.lst xs, True.intro⟩, k1⟩ k2 tr2
  have nWD : ¬ (B D ∨ D ∈ O) := fun z => by
    obtain ⟨u, e⟩ := s1.trk D z
    rw [hD] at e; cases e
  by_cases hlt : i < its.length
  · refine .inr ⟨w1 i hlt, fun H' => Iv (i + 1) H', fun H' z => ⟨its.length - (i + 1), by omega, rfl, hlt, z⟩, fun x H3 y => ?_⟩
    obtain ⟨g3, d, hd, hx⟩ := w3 i x H3 hlt y
    have edrop : its.drop i = d :: its.drop (i + 1) := by
      rw [List.drop_eq_getElem_cons hlt]
      rw [List.getElem?_eq_getElem hlt] at hd
      cases hd; rfl
    rw [edrop] at k4
    unfold compF at k4
    cases et : t d (wipeE env vs) with
    | none => rw [et] at k4; cases k4
    | some e1 =>
      rw [et] at k4
      simp only [] at k4
      -- the wiped slots
      have sB : Stt X.K (fun a => B a ∨ a = D) H3 σ env O := by
        refine s1.grow (B' := fun a => B a ∨ a = D) (H' := H3) (fun a o e => g3 a o (k2 a o e)) (fun a z => z.imp id fun z => by rw [show a = D from z]; exact hD) fun a z => ?_
        rcases z with z | z
        · obtain ⟨u, e⟩ := tr2 a (.inl z); exact ⟨u, g3 a u e⟩
        · exact ⟨⟨.lst xs, True.intro⟩, by rw [z]; exact g3 _ _ k1⟩
      obtain ⟨Ow, subw, sw⟩ := sB.wipedB (vs := vs) (τ := L2.wipe σ vs) (fun i hi => by rw [wipe_get, if_neg hi]) (L2.wipe_length σ vs)
      have wIff : ∀ a, ((B a ∨ a ∈ O) ∨ a = D) → ((B a ∨ a = D) ∨ (a ∈ O ∧ a ∉ Ow)) ∨ a ∈ Ow := fun a z => by
        rcases z with (z | z) | z
        · exact .inl (.inl (.inl z))
        · by_cases ho : a ∈ Ow
          · exact .inr ho
          · exact .inl (.inr ⟨z, ho⟩)
        · exact .inl (.inl (.inr z))
      refine ⟨_, wipeE env vs, Ow, d, e1, sw, Is.kp (Kp.less fun a z => ?_) _ _ hx, et, fun σ2 H3' O2 s2 f2 z2 q2 => ⟨?_, ?_⟩⟩
      · rcases z with ((z | z) | z) | z
        · exact .inl (.inl z)
        · exact .inr z
        · exact .inl (.inr z.1)
        · exact .inl (.inr (subw.subset z))
      · rw [z2.wipe hj, show L2.wipe (L2.wipe σ vs) vs = L2.wipe σ vs from ?_]
        refine List.ext_getElem? fun i => ?_
        rw [wipe_get, wipe_get]
        by_cases hi : i ∈ vs
        · simp only [hi, if_true]; cases σ[i]? <;> rfl
        · simp only [hi, if_false]
      · obtain ⟨rfl, rfl⟩ := q2 rfl
        cases eq : q e1 with
        | none => rw [eq] at k4; cases k4
        | some b =>
          rw [eq] at k4
          refine ⟨_, e1, O2, s2, b, eq, fun H4 g4 => ?_⟩
          have k24 : ∀ a o, H1 a = some o → H4 a = some o := fun a o e => g4 a o (g3 a o (k2 a o e))
          cases b with
          | false => exact iteF ⟨acc, xs, rest, g4 _ _ (g3 _ _ k1), k24, (k3.grw g3).grw g4, k4, k5, by omega⟩
          | true =>
            simp only [] at k4
            cases ep : p e1 with
            | none => rw [ep] at k4; cases k4
            | some dd =>
              cases er : compF t q p (wipeE env vs) (its.drop (i + 1)) with
              | none => rw [ep, er] at k4; cases k4
              | some ds =>
                rw [ep, er] at k4
                cases k4
                refine iteT ⟨_, e1, O2, s2.grw g4, dd, ep, fun v H5 g5 hv => ?_⟩
                have h5D : H5 D = some (.lst xs) := g5 _ _ (g4 _ _ (g3 _ _ k1))
                have kU : Kp (fun a => (B a ∨ a ∈ O) ∨ a = D) H5 (fun a => (B a ∨ a ∈ O) ∨ a = D) (upd H5 D (.lst (xs ++ [v]))) := fun a o hw ha => ⟨by rw [upd_ne fun z => hw (.inr z)]; exact ha, hw⟩
                have k35 : IsL X.K (fun a => (B a ∨ a ∈ O) ∨ a = D) H5 acc xs := ((k3.grw g3).grw g4).grw g5
                have hv5 : Is X.K (fun a => (B a ∨ a ∈ O) ∨ a = D) H5 dd v := Is.kp (Kp.less wIff) _ _ hv
                refine ⟨xs, h5D, by rw [k35.length, sizeLine_eq]; omega, acc ++ [dd], xs ++ [v], ds, upd_same, fun a o e => ?_, (IsL.kp kU _ _ k35).append ⟨v, [], rfl, Is.kp kU _ _ hv5, rfl⟩, er, by rw [List.append_assoc]; exact k5, by rw [List.length_append]; simp; omega⟩
                rw [upd_ne (ne_of_none e hD)]
                exact g5 a o (k24 a o e)
  · have e : i = its.length := by omega
    subst e
    refine .inl ⟨w2, ?_⟩
    rw [List.drop_length] at k4
    cases k4
    rw [List.append_nil] at k5
    subst k5
    have q2 := h D xs (fun b => if b = D then none else H2 b) (fun a o e => ?_) (if_pos rfl) (IsL.kp (fun a o w ha => ⟨?_, fun z => w (.inl z)⟩) _ _ k3)
    · rw [without k1] at q2; exact q2
    · exact (if_neg (ne_of_none (g1 a o e) hD)).trans (k2 a o (g1 a o e))
    · exact (if_neg fun z => w (.inr z)).trans ha
theorem f_comp {elt tg iter : Expr} {ifs : List Expr} {scope : Scope} {own : List (Str × Nat)} {js : List Nat} {t : Tg} {q : PB} {p : P} {src : PLs} (hc : X.calm = true) (hN : X.N.Nodup) (hi : IGk X tg iter src) (ok : BlkOk X.N X.env.scope scope own)
    (hg : ∀ (s : Shared) (H : Hp) (C : Addr) (cl : List (Str × Addr)) (fp : List Addr), GOk (X.blk s H scope (compEnvC scope cl C X.env) fp) true tg js t) (ht : ∀ (s : Shared) (H : Hp) (C : Addr) (cl : List (Str × Addr)) (fp : List Addr), TsOk (X.blk s H scope (compEnvC scope cl C X.env) fp) ifs q)
    (he : ∀ (s : Shared) (H : Hp) (C : Addr) (cl : List (Str × Addr)) (fp : List Addr), POk (X.blk s H scope (compEnvC scope cl C X.env) fp) elt p) (hj : ∀ j ∈ js, j ∈ own.map (·.2)) (hs : ∀ x, foldedSetIterable iter X.env x = pure x := by intro _; rfl) :
    FOk X (.ListComp elt [⟨tg, iter, ifs, 0⟩] scope pos) (fComp (own.map (·.2)) t q p src) :=
  (pe_lc (g := rdG X true js t) (tt := rdQ X q) (te := rdP X p) hc hN hi ok hg ht he hs).imp (lc_of hj)
theorem s_setLc {i : Nat} {y : Str} {py spos : Pos} {w : WX} {pn : List Nat} {elt tg iter : Expr} {ifs : List Expr} {scope : Scope} {own : List (Str × Nat)} {js : List Nat} {t : Tg} {q : PB} {p : P} {src : PLs} (hc : X.calm = true) (hN : X.N.Nodup) (hy : X.N[i]? = some y) (hyl : X.env.scope.names.lookup y = some .local)
    (hsw : swapsWith (.ListComp elt [⟨tg, iter, ifs, 0⟩] scope pos) (some (.Name y py)) spos.line X.env = pure true) (hi : IGk X tg iter src) (ok : BlkOk X.N X.env.scope scope own)
    (hg : ∀ (s : Shared) (H : Hp) (C : Addr) (cl : List (Str × Addr)) (fp : List Addr), GOk (X.blk s H scope (compEnvC scope cl C X.env) fp) true tg js t) (ht : ∀ (s : Shared) (H : Hp) (C : Addr) (cl : List (Str × Addr)) (fp : List Addr), TsOk (X.blk s H scope (compEnvC scope cl C X.env) fp) ifs q)
    (he : ∀ (s : Shared) (H : Hp) (C : Addr) (cl : List (Str × Addr)) (fp : List Addr), POk (X.blk s H scope (compEnvC scope cl C X.env) fp) elt p) (hj : ∀ j ∈ js, j ∈ own.map (·.2)) (hs : ∀ x, foldedSetIterable iter X.env x = pure x := by intro _; rfl) :
    PS X (.Assign [.Name y py] (.ListComp elt [⟨tg, iter, ifs, 0⟩] scope pos) spos) (tAsg (rdF X (fComp (own.map (·.2)) t q p src)) (gName i)) :=
  (ps_setLc hc hN hy hyl hsw hi ok hg ht he hs).imp fun D σ H h => lc_of hj σ H _ h
end
end PL
namespace PL
open PySem PySem.Spec PyProof.Rows L2
section
variable {X : Cx} {w : WX} {H : Hp} {σ : L2.St} {e : Expr} {es : List Expr} {p q r : P} {ps : List P} {pos pp : Pos} {K : PySem.W.Frag} {mg : Str → Option Value} {B : Addr → Prop} {O : List Addr} {env : Slots} {st : Stmt} {rest : List Stmt} {pn : List Nat}
/-- the slots at pn keep their values -/
def Pin (pn : List Nat) (σ τ : List (Option V)) : Prop := τ.length = σ.length ∧ ∀ i ∈ pn, τ[i]? = σ[i]?
theorem Pin.refl {σ : List (Option V)} : Pin pn σ σ := ⟨rfl, fun _ _ => rfl⟩
theorem Pin.trans {σ τ ρ : List (Option V)} (h : Pin pn σ τ) (h' : Pin pn τ ρ) : Pin pn σ ρ := ⟨h'.1.trans h.1, fun i hi => (h'.2 i hi).trans (h.2 i hi)⟩
theorem Pin.set {σ : List (Option V)} {i : Nat} {o : Option V} (hi : i ∉ pn) : Pin pn σ (σ.set i o) := ⟨List.length_set, fun j hj => List.getElem?_set_ne fun z => hi (by rw [show i = j from z]; exact hj)⟩
theorem SetIn.pin {js : List Nat} {σ τ : List (Option V)} (h : SetIn js σ τ) (hj : ∀ j ∈ js, j ∉ pn) : Pin pn σ τ := ⟨h.len, fun i hi => h.out i fun z => hj i z hi⟩
/-- what a statement is to do, by the outcome that the reading has -/
def SPost (X : Cx) (w : WX) (pn : List Nat) (D : Ends) (B : Addr → Prop) (O : List Addr) (σ : L2.St) (H : Hp) : SOut → Prop
  | .nx e => ∀ σ' H' O', Stt X.K B H' σ' e O' → Frm O H [] O' H' → Pin pn σ σ' → D.nx σ' H'
  | .bk e => ∀ σ' H' O', Stt X.K B H' σ' e O' → Frm O H [] O' H' → Pin pn σ σ' → D.bk σ' H'
  | .ct e => ∀ σ' H' O', Stt X.K B H' σ' e O' → Frm O H [] O' H' → Pin pn σ σ' → D.ct σ' H'
  | .rt c e => ∀ σ' v H' A O', Res X.K B O H σ' c e v H' A O' → Pin pn σ σ' → D.rt v H'
  | .err x e => ∀ σ' cls d H' O', XRes X.K X.mg B O H σ' x e cls d H' O' → Pin pn σ σ' → w cls d σ' H'
  | .no => False
def rdS (X : Cx) (w : WX) (pn : List Nat) (f : SS) : TS := fun D σ H => ∃ B env O, Stt X.K B H σ env O ∧ SPost X w pn D B O σ H (f env)
abbrev SOk (X : Cx) (w : WX) (pn : List Nat) (st : Stmt) (f : SS) : Prop := PS X st (rdS X w pn f)
abbrev SsOk (X : Cx) (w : WX) (pn : List Nat) (st : List Stmt) (f : SS) : Prop := PSs X st (rdS X w pn f)
/-- .. from a later state -/
theorem SPost.later {D : Ends} {O1 : List Addr} {H1 : Hp} {σ1 : L2.St} (f1 : Frm O H [] O1 H1) (p1 : Pin pn σ σ1) : ∀ {o : SOut}, SPost X w pn D B O σ H o → SPost X w pn D B O1 σ1 H1 o
  | .nx e, h => fun σ' H' O' s f p => h σ' H' O' s (f1.seq' f) (p1.trans p)
  | .bk e, h => fun σ' H' O' s f p => h σ' H' O' s (f1.seq' f) (p1.trans p)
  | .ct e, h => fun σ' H' O' s f p => h σ' H' O' s (f1.seq' f) (p1.trans p)
  | .rt c e, h => fun σ' v H' A O' r p => h σ' v H' A O' ⟨r.rep, r.stt, r.nd, r.dj, f1.seq' r.frm⟩ (p1.trans p)
  | .err x e, h => fun σ' cls d H' O' r p => h σ' cls d H' O' ⟨r.cls, r.fs, r.stt, f1.seq' r.frm⟩ (p1.trans p)
  | .no, h => h
def sSeq (f g : SS) : SS := fun env => match f env with
  | .nx e => g e
  | o => o
def sNx : SS := .nx
theorem s_nil : SsOk X w pn [] sNx := ⟨fun pins s σ H D I h => pss_nil.run pins s σ H D I (let ⟨_, _, _, st, h⟩ := h; h σ H _ st Frm.refl Pin.refl)⟩
theorem SPost.seq {f g : SS} {D : Ends} (h : SPost X w pn D B O σ H (sSeq f g env)) : SPost X w pn { D with nx := rdS X w pn g D } B O σ H (f env) := by
  unfold sSeq at h
  cases ef : f env with
  | nx e =>
    rw [ef] at h
    exact fun σ' H' O' s fr p => ⟨B, e, O', s, h.later fr p⟩
  | bk e => rw [ef] at h; exact h
  | ct e => rw [ef] at h; exact h
  | rt c e => rw [ef] at h; exact h
  | err x e => rw [ef] at h; exact h
  | no => rw [ef] at h; exact h
theorem s_cons {f g : SS} (h1 : SOk X w pn st f) (h2 : SsOk X w pn rest g) : SsOk X w pn (st :: rest) (sSeq f g) := (pss_cons h1 h2).imp fun D σ H h => by
  obtain ⟨B, env, O, s, h⟩ := h
  exact ⟨B, env, O, s, h.seq⟩
theorem s_one {f : SS} (h1 : SOk X w pn st f) : SsOk X w pn [st] f := pss_one h1
def sBk : SS := .bk
def sCt : SS := .ct
/-- code that is not come to -/
def sNo : SS := fun _ => .no
/-- behind an expression -/
def sOf {α : Type} (o : Out α) (k : α → Slots → SOut) : SOut := match o with
  | .ok a e => k a e
  | .err x e => .err x e
  | .no => .no
/-- an expression's reading from a statement's -/
theorem rdE_s {f : M C} {k : C → Slots → SOut} {D : Ends} {Q : VK} (s : Stt X.K B H σ env O) (h : SPost X w pn D B O σ H (sOf (f env) k))
    (i : ∀ c e v H' A O', Res X.K B O H σ c e v H' A O' → SPost X w pn D B O σ H (k c e) → Q v H') : rdE X w f σ H Q := by
  refine ⟨B, env, O, s, ?_⟩
  unfold sOf at h
  cases ef : f env with
  | no => rw [ef] at h; exact h
  | err x e => rw [ef] at h; exact fun cls d H' O' x => h σ cls d H' O' x Pin.refl
  | ok c e => rw [ef] at h; exact fun v H' A O' r => i c e v H' A O' r h
theorem rdT_s {f : M Bool} {k : Bool → Slots → SOut} {D : Ends} {Q : Bool → Hp → Prop} (s : Stt X.K B H σ env O) (h : SPost X w pn D B O σ H (sOf (f env) k))
    (i : ∀ c e H' O', f env = .ok c e → Stt X.K B H' σ e O' → Frm O H [] O' H' → SPost X w pn D B O σ H (k c e) → Q c H') : rdT X w f σ H Q := by
  refine ⟨B, env, O, s, ?_⟩
  unfold sOf at h
  cases ef : f env with
  | no => rw [ef] at h; exact h
  | err x e => rw [ef] at h; exact fun cls d H' O' x => h σ cls d H' O' x Pin.refl
  | ok c e => rw [ef] at h; exact fun H' O' s' f' => i c e H' O' ef s' f' h
/-- the value given up for good -/
def eFrz (f : M C) : M C := fun env => (f env).bind fun c e => .ok (.frz c.toD) e
theorem Res.frz {c : C} {e1 : Slots} {v : V} {H' : Hp} {A O' : List Addr} (r : Res K B O H σ c e1 v H' A O') : Res K B O H σ (.frz c.toD) e1 v H' [] O' :=
  Res.new (r.stt.less fun a z => .inl z) (fun a o hw ha => ⟨(r.frm a o hw ha).1, fun z => (r.frm a o hw ha).2 (z.elim (fun z => nomatch z) .inr)⟩) (New.of_is r.is)
theorem e_frz {f : M C} (h : EOk X w e f) : EOk X w e (eFrz f) := h.imp fun σ H Q h => by
  obtain ⟨B, env, O, s, h⟩ := h
  refine ⟨B, env, O, s, ?_⟩
  unfold eFrz at h
  cases ef : f env with
  | no => rw [ef] at h; exact h
  | err x e => rw [ef] at h; exact h
  | ok c e => rw [ef] at h; exact fun v H' A O' r => h v H' [] O' r.frz
def sSet (i : Nat) (f : M C) : SS := fun env => sOf (f env) fun c e => .nx (e.set i (some c))
theorem Res.len {c : C} {e1 : Slots} {v : V} {H' : Hp} {A O' : List Addr} (r : Res K B O H σ c e1 v H' A O') : e1.length = σ.length := r.stt.len.symm
theorem lt_of_N {N : List Str} {i : Nat} {x : Str} (h : N[i]? = some x) : i < N.length := by
  by_cases q : i < N.length
  · exact q
  · rw [List.getElem?_eq_none (by omega)] at h; cases h
theorem s_set {i : Nat} {x : Str} {f : M C} {pos' : Pos} (hN : X.N.Nodup) (hi : X.N[i]? = some x) (hx : Loc X.env.scope x) (he : EOk X w e f) (hp : i ∉ pn := by decide) (hs : swapsWith e (some (.Name x pos')) pos.line X.env = pure false := by rfl) (hf : X.fn x = true ∨ X.env.scope.names.lookup x = some .local := by first | exact .inl rfl | exact .inr rfl | assumption) :
    SOk X w pn (.Assign [.Name x pos'] e pos) (sSet i f) := ⟨fun pins s σ H D I h => (ps_set hN hi hx he hs hf).run pins s σ H D I (by
  obtain ⟨B, env, O, st, h⟩ := h
  refine rdE_s st h fun c e v H' A O' r h => ?_
  obtain ⟨O2, s2, f2⟩ := r.put (i := i) (by rw [r.len, I.len]; exact lt_of_N hi)
  exact h _ H' O2 s2 f2 (Pin.set hp))⟩
def sRet (f : M C) : SS := fun env => sOf (f env) fun c e => .rt c e
theorem s_ret {f : M C} (he : EOk X w e f) : SOk X w pn (.Return (some e) pos) (sRet f) := (ps_ret he).imp fun D σ H h => by
  obtain ⟨B, env, O, st, h⟩ := h
  exact rdE_s st h fun c e v H' A O' r h => h σ v H' A O' r Pin.refl
def sRetN : SS := fun env => .rt (.frz .non) env
/-- a value dropped -/
def sDrop (f : M C) : SS := fun env => sOf (f env) fun _ e => .nx e
theorem s_expr {f : M C} (he : EOk X w e f) (hs : swapsWith e none pos.line X.env = pure false := by rfl) : SOk X w pn (.Expr e pos) (sDrop f) := (ps_expr he hs).imp fun D σ H h => by
  obtain ⟨B, env, O, st, h⟩ := h
  exact rdE_s st h fun c e v H' A O' r h => h σ H' O' (r.stt.less fun a z => .inl z) r.frz.frm Pin.refl
def sIf (c : M Bool) (f g : SS) : SS := fun env => sOf (c env) fun b e => if b then f e else g e
theorem s_if {c : Expr} {a b : List Stmt} {q : M Bool} {f g : SS} (hc : TOk X w c q) (ha : SsOk X w pn a f) (hb : SsOk X w pn b g) : SOk X w pn (.If c a b pos) (sIf q f g) := (ps_if hc ha hb).imp fun D σ H h => by
  obtain ⟨B, env, O, st, h⟩ := h
  refine rdT_s st h fun c e H' O' _ s' f' h => ?_
  cases c with
  | true => exact iteT ⟨B, e, O', s', SPost.later f' Pin.refl h⟩
  | false => exact iteF ⟨B, e, O', s', SPost.later f' Pin.refl h⟩
def whileN (c : M Bool) (b : SS) : Nat → SS
  | 0 => fun _ => .no
  | n + 1 => fun env => sOf (c env) fun t e => if t then (match b e with
      | .nx e1 => whileN c b n e1
      | .ct e1 => whileN c b n e1
      | .bk e1 => .nx e1
      | o => o) else .nx e
open Classical in
noncomputable def sWhile (c : M Bool) (b : SS) : SS := fun env => if h : ∃ n, whileN c b n env ≠ .no then whileN c b h.choose env else .no
theorem whileN_mono {c : M Bool} {b : SS} : ∀ {n m : Nat} {env : Slots}, n ≤ m → whileN c b n env ≠ .no → whileN c b m env = whileN c b n env
  | 0, m, env, _, h => absurd rfl h
  | n + 1, 0, env, hl, _ => by omega
  | n + 1, m + 1, env, hl, h => by
    unfold whileN at h ⊢
    cases ec : c env with
    | no => rfl
    | err x e => rfl
    | ok t e =>
      rw [ec] at h
      simp only [sOf] at h ⊢
      cases t with
      | false => rfl
      | true =>
        simp only [if_true] at h ⊢
        cases eb : b e with
        | nx e1 => rw [eb] at h; exact whileN_mono (by omega) h
        | ct e1 => rw [eb] at h; exact whileN_mono (by omega) h
        | bk e1 => rfl
        | rt c e1 => rfl
        | err x e1 => rfl
        | no => rfl
theorem sWhile_of {c : M Bool} {b : SS} {n : Nat} {env : Slots} (h : whileN c b n env ≠ .no) : sWhile c b env = whileN c b n env := by
  unfold sWhile
  have h' : ∃ n, whileN c b n env ≠ .no := ⟨n, h⟩
  rw [dif_pos h']
  rcases Nat.le_total h'.choose n with q | q
  · exact (whileN_mono q h'.choose_spec).symm
  · exact whileN_mono q h
theorem sWhile_ex {c : M Bool} {b : SS} {env : Slots} (h : sWhile c b env ≠ .no) : ∃ n, whileN c b n env = sWhile c b env := by
  by_cases h' : ∃ n, whileN c b n env ≠ .no
  · obtain ⟨n, hn⟩ := h'
    exact ⟨n, (sWhile_of hn).symm⟩
  · unfold sWhile at h
    rw [dif_neg h'] at h
    exact absurd rfl h
theorem s_while {c : Expr} {body : List Stmt} {q : M Bool} {b : SS} (hpa : PassesOwn (model X.prog X.w) X.A X.env X.xe) (hc : TOk X w c q) (hb : SsOk X w pn body b) : SOk X w pn (.While c body [] pos) (sWhile q b) := (ps_while hpa hc hb).imp fun D σ H h => by
  obtain ⟨B, env, O, st, h⟩ := h
  generalize eo : sWhile q b env = out at h
  have ne : out ≠ .no := fun z => by rw [z] at h; exact h
  obtain ⟨n, hn⟩ := sWhile_ex (by rw [eo]; exact ne)
  rw [eo] at hn
  refine ⟨fun m σ1 H1 => ∃ e1 O1, Stt X.K B H1 σ1 e1 O1 ∧ Frm O H [] O1 H1 ∧ Pin pn σ σ1 ∧ whileN q b m e1 = out, ⟨n, env, O, st, Frm.refl, Pin.refl, hn⟩, ?_⟩
  rintro m σ1 H1 ⟨e1, O1, s1, f1, p1, hm⟩
  have h1 := h.later f1 p1
  cases m with
  | zero => exact absurd hm.symm ne
  | succ m =>
    unfold whileN at hm
    rw [← hm] at h1
    refine rdT_s s1 h1 fun t e2 H2 O2 ec s2 f2 h2 => ?_
    rw [ec] at hm
    simp only [sOf] at hm
    cases t with
    | false => exact iteF (h2 σ1 H2 O2 s2 f2 Pin.refl)
    | true =>
      refine iteT ⟨fun σ3 H3 => ∃ e3 O3, Stt X.K B H3 σ3 e3 O3 ∧ Frm O H [] O3 H3 ∧ Pin pn σ σ3 ∧ whileN q b m e3 = out, fun σ3 H3 z => ⟨m, Nat.lt_succ_self _, z⟩, B, e2, O2, s2, ?_⟩
      simp only [if_true] at h2 hm
      cases eb : b e2 with
      | nx e3 => rw [eb] at hm; exact fun σ3 H3 O3 s3 f3 p3 => ⟨e3, O3, s3, (f1.seq' f2).seq' f3, p1.trans p3, hm⟩
      | ct e3 => rw [eb] at hm; exact fun σ3 H3 O3 s3 f3 p3 => ⟨e3, O3, s3, (f1.seq' f2).seq' f3, p1.trans p3, hm⟩
      | bk e3 => rw [eb] at h2; exact h2.later f2 Pin.refl
      | rt c e3 => rw [eb] at h2; exact h2.later f2 Pin.refl
      | err x e3 => rw [eb] at h2; exact h2.later f2 Pin.refl
      | no => rw [eb] at h2; exact h2
def forL (t : Tg) (b : SS) : List D → SS
  | [], env => .nx env
  | d :: r, env => match t d env with
    | none => .no
    | some e => match b e with
      | .nx e1 => forL t b r e1
      | .ct e1 => forL t b r e1
      | .bk e1 => .nx e1
      | o => o
def sFor (src : M (List D)) (t : Tg) (b : SS) : SS := fun env => sOf (src env) (forL t b)
theorem s_for {tg iter : Expr} {body : List Stmt} {src : M (List D)} {js : List Nat} {t : Tg} {b : SS} (hpa : PassesOwn (model X.prog X.w) X.A X.env X.xe) (hc : X.calm = true) (hi : IDk X w tg iter src) (hg : GOk X false tg js t) (hb : SsOk X w pn body b) (hj : ∀ j ∈ js, j ∉ pn := by decide)
    (hs : ∀ x, foldedSetIterable iter X.env x = pure x := by intro _; rfl) : SOk X w pn (.For tg iter body [] pos) (sFor src t b) := (ps_for hpa hc hi hg hb hs).imp fun D σ H h => by
  obtain ⟨B, env, O, st, h⟩ := h
  refine ⟨B, env, O, st, ?_⟩
  unfold sFor sOf at h
  cases es : src env with
  | no => rw [es] at h; exact h
  | err x e => rw [es] at h; exact fun cls d H' O' x => h σ cls d H' O' x Pin.refl
  | ok l e0 =>
    rw [es] at h
    simp only [] at h ⊢
    intro J H0 O0 s0 f0 wk
    generalize eo : forL t b l e0 = out at h
    have ne : out ≠ .no := fun z => by rw [z] at h; exact h
    refine ⟨fun i m σ1 H1 => m = l.length - i ∧ i ≤ l.length ∧ ∃ e1 O1, Stt X.K B H1 σ1 e1 O1 ∧ Frm O0 H0 [] O1 H1 ∧ Pin pn σ σ1 ∧ forL t b (l.drop i) e1 = out, ⟨l.length, by simp, Nat.zero_le _, e0, O0, s0, Frm.refl, Pin.refl, by simpa using eo⟩, ?_⟩
    rintro i m σ1 H1 ⟨rfl, hi2, e1, O1, s1, f1, p1, hm⟩
    obtain ⟨w1, w2, w3⟩ := wk (fun a => B a ∨ a ∈ O1) H1 (fun a o hw ha => ⟨(f1 a o (fun z => hw (.inr z)) ha).1, fun z => z.elim (fun z => hw (.inl z)) fun z => (f1 a o (fun z => hw (.inr z)) ha).2 (.inr z)⟩) s1.trk
    have h1 := (h.later f0 Pin.refl).later f1 p1
    by_cases hlt : i < l.length
    · refine .inr ⟨w1 i hlt, fun σ3 H3 => ∃ e3 O3, Stt X.K B H3 σ3 e3 O3 ∧ Frm O0 H0 [] O3 H3 ∧ Pin pn σ σ3 ∧ forL t b (l.drop (i + 1)) e3 = out, fun σ' H' z => ⟨l.length - (i + 1), by omega, rfl, hlt, z⟩, fun x H2 y => ?_⟩
      obtain ⟨g2, d, hd, hx⟩ := w3 i x H2 hlt y
      have edrop : l.drop i = d :: l.drop (i + 1) := by
        rw [List.drop_eq_getElem_cons hlt]
        rw [List.getElem?_eq_getElem hlt] at hd
        cases hd; rfl
      rw [edrop] at hm
      unfold forL at hm
      cases et : t d e1 with
      | none => rw [et] at hm; exact absurd hm.symm ne
      | some e2 =>
        rw [et] at hm
        simp only [] at hm
        have f2 : Frm O0 H0 [] O1 H2 := fun a o hw ha => ⟨g2 a o (f1 a o hw ha).1, (f1 a o hw ha).2⟩
        have f2' : Frm O1 H1 [] O1 H2 := fun a o hw ha => ⟨g2 a o ha, fun z => z.elim (fun z => nomatch z) hw⟩
        refine ⟨B, e1, O1, d, e2, s1.grw g2, hx, et, fun σ3 H3 O3 s3 f3 z3 _ => ⟨B, e2, O3, s3, ?_⟩⟩
        have p3 := z3.pin hj
        cases eb : b e2 with
        | nx e4 => rw [eb] at hm; exact fun σ4 H4 O4 s4 f4 p4 => ⟨e4, O4, s4, (f2.seq' f3).seq' f4, (p1.trans p3).trans p4, hm⟩
        | ct e4 => rw [eb] at hm; exact fun σ4 H4 O4 s4 f4 p4 => ⟨e4, O4, s4, (f2.seq' f3).seq' f4, (p1.trans p3).trans p4, hm⟩
        | bk e4 => rw [eb] at hm; subst hm; exact (h1.later f2' Pin.refl).later f3 p3
        | rt c e4 => rw [eb] at hm; subst hm; exact (h1.later f2' Pin.refl).later f3 p3
        | err x e4 => rw [eb] at hm; subst hm; exact (h1.later f2' Pin.refl).later f3 p3
        | no => rw [eb] at hm; exact absurd hm.symm ne
    · have e : i = l.length := by omega
      subst e
      refine .inl ⟨w2, ?_⟩
      rw [List.drop_length] at hm
      subst hm
      exact h1 σ1 H1 O1 s1 Frm.refl Pin.refl
end
end PL
namespace PL
open PySem PySem.Spec PyProof.Rows L2
section
variable {X : Cx} {w : WX} {H : Hp} {σ : L2.St} {e : Expr} {es : List Expr} {p q r : P} {ps : List P} {pos pp : Pos} {K : PySem.W.Frag} {mg : Str → Option Value} {B : Addr → Prop} {O : List Addr} {env : Slots} {st : Stmt} {rest : List Stmt} {pn : List Nat}
def getP : C → List Nat → Option C
  | c, [] => some c
  | .own l, j :: js => (l[j]?).bind fun c => getP c js
  | _, _ :: _ => none
def setP : C → List Nat → C → C
  | _, [], c' => c'
  | .own l, j :: js, c' => match l[j]? with
    | some c => .own (l.set j (setP c js c'))
    | none => .own l
  | c, _ :: _, _ => c
def VAt (H : Hp) : V → List Nat → V → Prop
  | v, [], x => v = x
  | v, j :: js, x => ∃ a xs y, v = .ref a ∧ H a = some (.lst xs) ∧ xs[j]? = some y ∧ VAt H y js x
theorem VAt.grw {H H' : Hp} (g : Grw H H') : ∀ {js : List Nat} {v x : V}, VAt H v js x → VAt H' v js x
  | [], v, x, h => h
  | j :: js, v, x, h => by
    obtain ⟨a, xs, y, h1, h2, h3, h4⟩ := h
    exact ⟨a, xs, y, h1, g _ _ h2, h3, VAt.grw g h4⟩
theorem VAt.inj {H : Hp} : ∀ {js : List Nat} {v x y : V}, VAt H v js x → VAt H v js y → x = y
  | [], v, x, y, h, h' => h.symm.trans h'
  | j :: js, v, x, y, h, h' => by
    obtain ⟨a, xs, z, rfl, h2, h3, h4⟩ := h
    obtain ⟨a', xs', z', h1', h2', h3', h4'⟩ := h'
    cases h1'
    rw [h2] at h2'
    cases h2'
    rw [h3] at h3'
    cases h3'
    exact VAt.inj h4 h4'
theorem RepC.foc {W : Addr → Prop} : ∀ {js : List Nat} {c c1 : C} {v : V} {A : List Addr}, RepC K W H c v A → getP c js = some c1 → ∃ x A1 A2 A3, A = A1 ++ (A2 ++ A3) ∧ VAt H v js x ∧ RepC K W H c1 x A2 ∧
    ∀ (W' : Addr → Prop) (H' : Hp) (c' : C) (A2' : List Addr), Kp W H W' H' → (∀ a ∈ A1 ++ A3, ∀ o, H a = some o → H' a = some o) → RepC K W' H' c' x A2' → RepC K W' H' (setP c js c') v (A1 ++ (A2' ++ A3))
  | [], c, c1, v, A, h, e => by
    cases e
    refine ⟨v, [], A, [], by simp, rfl, h, fun W' H' c' A2' _ _ h' => ?_⟩
    simpa [setP] using h'
  | j :: js, c, c1, v, A, h, e => by
    cases c with
    | own l =>
      simp only [getP, Option.bind_eq_some_iff] at e
      obtain ⟨c2, e1, e2⟩ := e
      obtain ⟨a, xs, B1, rfl, rfl, ha, hl⟩ := h
      obtain ⟨y, D1, D2, D3, g1, g2, g3, g4⟩ := RepL.at hl e1
      obtain ⟨x, A1, A2, A3, k1, k2, k3, k4⟩ := RepC.foc g3 e2
      refine ⟨x, a :: (D1 ++ A1), A2, A3 ++ D3, ?_, ⟨a, xs, y, rfl, ha, g1, k2⟩, k3, fun W' H' c' A2' kp q h' => ?_⟩
      · rw [g2, k1]; simp
      · have z := g4 W' H' (setP c2 js c') y (A1 ++ (A2' ++ A3)) kp (fun b hb o eb => q b (by
          rcases List.mem_append.mp hb with z | z <;> simp [z]) o eb) (k4 W' H' c' A2' kp (fun b hb o eb => q b (by
          rcases List.mem_append.mp hb with z | z <;> simp [z]) o eb) h')
        rw [set_same g1] at z
        simp only [setP, e1]
        refine ⟨a, xs, D1 ++ (A1 ++ (A2' ++ A3) ++ D3), rfl, by simp, q a (by simp) _ ha, z⟩
    | frz d => cases e
    | ownD l => cases e
    | ownT l => cases e
    | tabs qs => cases e
theorem mem3 {α : Type} {L1 A2 L3 : List α} {a b : α} : b ∈ L1 ++ ((a :: A2) ++ L3) ↔ b ∈ L1 ∨ (b = a ∨ b ∈ A2) ∨ b ∈ L3 := by
  simp only [List.mem_append, List.mem_cons]
theorem Stt.mut {A O1 : List Addr} {H1 : Hp} {e1 : Slots} {i : Nat} {js : List Nat} {c0 : C} {l : List C} (s1 : Stt K (fun a => B a ∨ a ∈ A) H1 σ e1 O1) (nA : A.Nodup) (dA : ∀ a ∈ A, ¬ B a) (f : Frm O H A O1 H1) (he : e1[i]? = some (some c0)) (hg : getP c0 js = some (.own l)) :
    ∃ v0 a xs A2, σ[i]? = some (some v0) ∧ VAt H1 v0 js (.ref a) ∧ H1 a = some (.lst xs) ∧ RepL K (fun a => (B a ∨ a ∈ A) ∨ a ∈ O1) H1 l xs A2 ∧ A2.Nodup ∧ (a ∉ A2 ∧ a ∈ O1 ∧ ∀ b ∈ A2, b ∈ O1) ∧
      ∀ (l' : List C) (xs' : List V) (A2' : List Addr), RepL K (fun a => (B a ∨ a ∈ A) ∨ a ∈ O1) H1 l' xs' A2' → A2'.Nodup → (∀ b ∈ A2', b ∈ A2 ∨ b ∈ A) →
        ∃ O2, Stt K B (upd H1 a (.lst xs')) σ (e1.set i (some (setP c0 js (.own l')))) O2 ∧ Frm O H [] O2 (upd H1 a (.lst xs')) ∧ ∀ b ∈ O2, (b ∈ O1 ∨ b ∈ A) ∧ (b ∈ A2 → b ∈ A2') ∧ (b ∈ A → b ∈ A2') := by
  obtain ⟨o, D1, D2, D3, g1, g2, ⟨v0, rfl, hc0⟩, g4⟩ := RepE.at s1.rep he
  obtain ⟨x, A1, A2, A3, k1, k2, ⟨a, xs, A2t, rfl, rfl, ha, hl⟩, k4⟩ := RepC.foc hc0 hg
  have nd := s1.nd
  rw [g2, k1] at nd
  have perm : O1 = (D1 ++ A1) ++ ((a :: A2t) ++ (A3 ++ D3)) := by rw [g2, k1]; simp
  have nd' : ((D1 ++ A1) ++ ((a :: A2t) ++ (A3 ++ D3))).Nodup := by rw [← perm]; exact s1.nd
  have n1 := List.nodup_append.mp nd'
  have n2 := List.nodup_append.mp n1.2.1
  have n3 := List.nodup_cons.mp n2.1
  have mO : ∀ b, b ∈ O1 ↔ b ∈ D1 ++ A1 ∨ (b = a ∨ b ∈ A2t) ∨ b ∈ A3 ++ D3 := fun b => by rw [perm]; exact mem3
  have aO : a ∈ O1 := (mO a).mpr (.inr (.inl (.inl rfl)))
  have tO : ∀ b ∈ A2t, b ∈ O1 := fun b hb => (mO b).mpr (.inr (.inl (.inr hb)))
  have nAO : ∀ b ∈ A, b ∉ O1 := fun b hb z => s1.dj b z (.inr hb)
  refine ⟨v0, a, xs, A2t, g1, k2, ha, hl, n3.2, ⟨n3.1, aO, tO⟩, fun l' xs' A2' hl' nd2 sub => ?_⟩
  have sO : ∀ b, b ∈ (D1 ++ A1) ++ ((a :: A2') ++ (A3 ++ D3)) → b ∈ O1 ∨ b ∈ A := fun b hb => by
    rcases mem3.mp hb with z | (z | z) | z
    · exact .inl ((mO b).mpr (.inl z))
    · exact .inl (z ▸ aO)
    · exact (sub b z).imp (tO b) id
    · exact .inl ((mO b).mpr (.inr (.inr z)))
  have kp : Kp (fun a => (B a ∨ a ∈ A) ∨ a ∈ O1) H1 (fun b => B b ∨ b ∈ (D1 ++ A1) ++ ((a :: A2') ++ (A3 ++ D3))) (upd H1 a (.lst xs')) := fun b o hw hb => by
    refine ⟨(upd_ne fun z : b = a => hw (.inr (by rw [z]; exact aO))).trans hb, fun z => ?_⟩
    rcases z with z | z
    · exact hw (.inl (.inl z))
    · exact (sO b z).elim (fun z => hw (.inr z)) fun z => hw (.inl (.inr z))
  have na : ∀ b, b ∈ D1 ++ A1 ∨ b ∈ A3 ++ D3 → b ≠ a := fun b hb z => by
    rcases hb with hb | hb
    · exact n1.2.2 b hb a (by simp) z
    · exact n2.2.2 a (by simp) b hb z.symm
  have na2 : ∀ b ∈ A2', b ≠ a := fun b hb z => by
    rcases sub b hb with y | y
    · exact n3.1 (z ▸ y)
    · exact nAO b y (z ▸ aO)
  have z1 : RepC K (fun b => B b ∨ b ∈ (D1 ++ A1) ++ ((a :: A2') ++ (A3 ++ D3))) (upd H1 a (.lst xs')) (.own l') (.ref a) (a :: A2') :=
    ⟨a, xs', A2', rfl, rfl, upd_same, RepL.kp kp _ _ _ (fun b hb o eb => by rw [upd_ne (na2 b hb)]; exact eb) hl'⟩
  have z2 := k4 _ _ _ _ kp (fun b hb o eb => by rw [upd_ne (na b ((List.mem_append.mp hb).imp (fun z => by simp [z]) fun z => by simp [z]))]; exact eb) z1
  have z3 := g4 _ _ (some (setP c0 js (.own l'))) (some v0) _ kp (fun b hb o eb => by rw [upd_ne (na b ((List.mem_append.mp hb).imp (fun z => by simp [z]) fun z => by simp [z]))]; exact eb) ⟨v0, rfl, z2⟩
  rw [set_same g1] at z3
  refine ⟨(D1 ++ A1) ++ ((a :: A2') ++ (A3 ++ D3)), ⟨?_, ?_, ?_, ?_⟩, fun b o hw hb => ?_, fun b hb => ⟨sO b hb, fun z => ?_, fun z => ?_⟩⟩
  · have eq : (D1 ++ A1) ++ ((a :: A2') ++ (A3 ++ D3)) = D1 ++ (A1 ++ (a :: A2' ++ A3) ++ D3) := by simp
    have z4 := z3
    rw [← eq] at z4
    exact z4
  · refine List.nodup_append.mpr ⟨n1.1, List.nodup_append.mpr ⟨List.nodup_cons.mpr ⟨fun z => na2 a z rfl, nd2⟩, n2.2.1, fun b hb d hd eq => ?_⟩, fun b hb d hd eq => ?_⟩
    · subst eq
      rcases List.mem_cons.mp hb with z | z
      · exact na b (.inr hd) z
      · rcases sub b z with y | y
        · exact n2.2.2 b (by simp [y]) b hd rfl
        · exact nAO b y ((mO b).mpr (.inr (.inr hd)))
    · subst eq
      rw [List.mem_append, List.mem_cons] at hd
      rcases hd with (z | z) | z
      · exact na b (.inl hb) z
      · rcases sub b z with y | y
        · exact n1.2.2 b hb b (by simp [y]) rfl
        · exact nAO b y ((mO b).mpr (.inl hb))
      · exact n1.2.2 b hb b (by rw [List.mem_append]; exact .inr z) rfl
  · exact fun b hb z => (sO b hb).elim (fun y => s1.dj b y (.inl z)) fun y => dA b y z
  · intro b z
    by_cases hba : b = a
    · exact ⟨⟨.lst xs', True.intro⟩, by rw [hba]; exact upd_same⟩
    · obtain ⟨u, eu⟩ := s1.tr b (.inl z)
      exact ⟨u, by rw [upd_ne hba]; exact eu⟩
  · obtain ⟨q1, q2⟩ := f b o hw hb
    refine ⟨(upd_ne fun z : b = a => q2 (.inr (by rw [z]; exact aO))).trans q1, fun z => ?_⟩
    rcases z with z | z
    · cases z
    · exact (sO b z).elim (fun z => q2 (.inr z)) fun z => q2 (.inl z)
  · rcases mem3.mp hb with y | (y | y) | y
    · exact absurd rfl (n1.2.2 b y b (by simp [z]))
    · exact absurd (y ▸ z) n3.1
    · exact y
    · exact absurd rfl (n2.2.2 b (by simp [z]) b y)
  · rcases mem3.mp hb with y | (y | y) | y
    · exact absurd ((mO b).mpr (.inl y)) (nAO b z)
    · exact absurd (y ▸ aO) (nAO b z)
    · exact y
    · exact absurd ((mO b).mpr (.inr (.inr y))) (nAO b z)
end
end PL
namespace PL
open PySem PySem.Spec PyProof.Rows L2
section
variable {X : Cx} {w : WX} {H : Hp} {σ : L2.St} {e : Expr} {es : List Expr} {p q r : P} {ps : List P} {pos pp : Pos} {K : PySem.W.Frag} {mg : Str → Option Value} {B : Addr → Prop} {O : List Addr} {env : Slots} {st : Stmt} {rest : List Stmt} {pn : List Nat}
abbrev Pa := Slots → Option (List Nat)
def rdPa (X : Cx) (i : Nat) (pa : Pa) : TE := fun σ H Q => ∃ B env O, Stt X.K B H σ env O ∧ ∃ js, pa env = some js ∧ ∀ v0 x H', σ[i]? = some (some v0) → VAt H' v0 js x → Grw H H' → Q x H'
abbrev PaOk (X : Cx) (e : Expr) (i : Nat) (pa : Pa) : Prop := PE X e (rdPa X i pa)
def paV (i : Nat) : Pa := fun env => match env[i]? with
  | some (some _) => some []
  | _ => none
theorem pa_V {i : Nat} {x : Str} (hN : X.N[i]? = some x) (hv : Vis X.env.scope x) (hd : (x == ("__debug__" : Str)) = false := by decide) (hcd : (x == ("__classdict__" : Str)) = false := by decide) : PaOk X (.Name x pos) i (paV i) :=
  (pe_var (i := i) hN hv hd hcd).imp fun σ H Q h => by
    obtain ⟨B, env, O, s, js, hp, h⟩ := h
    unfold paV at hp
    split at hp
    · rename_i c e1
      cases hp
      obtain ⟨o, A1, A2, A3, g1, g2, ⟨y, rfl, g4⟩, _⟩ := RepE.at s.rep e1
      exact ⟨y, g1, h y y H g1 rfl Grw.refl⟩
    · cases hp
/-- the own list at a path -/
def ownAt (i : Nat) (js : List Nat) (env : Slots) : Option (List C) := match env[i]? with
  | some (some c0) => match getP c0 js with
    | some (.own l) => some l
    | _ => none
  | _ => none
def setAt (i : Nat) (js : List Nat) (l : List C) (env : Slots) : Slots := match env[i]? with
  | some (some c0) => env.set i (some (setP c0 js (.own l)))
  | _ => env
theorem ownAt_some {i : Nat} {js : List Nat} {env : Slots} {l : List C} (h : ownAt i js env = some l) : ∃ c0, env[i]? = some (some c0) ∧ getP c0 js = some (.own l) ∧ ∀ l', setAt i js l' env = env.set i (some (setP c0 js (.own l'))) := by
  unfold ownAt at h
  split at h
  · rename_i c0 e0
    split at h
    · rename_i l0 e1
      cases h
      exact ⟨c0, e0, e1, fun l' => by unfold setAt; rw [e0]⟩
    · cases h
  · cases h
theorem VAt.snoc {H : Hp} : ∀ {js : List Nat} {v : V} {a : Addr} {xs : List V} {j : Nat} {y : V}, VAt H v js (.ref a) → H a = some (.lst xs) → xs[j]? = some y → VAt H v (js ++ [j]) y
  | [], v, a, xs, j, y, h, h1, h2 => ⟨a, xs, y, h, h1, h2, rfl⟩
  | k :: js, v, a, xs, j, y, h, h1, h2 => by
    obtain ⟨b, zs, z, e1, e2, e3, e4⟩ := h
    exact ⟨b, zs, z, e1, e2, e3, VAt.snoc e4 h1 h2⟩
def intOf : Option D → Option Int
  | some (.int k) => some k
  | _ => none
theorem intOf_some {o : Option D} {k : Int} (h : intOf o = some k) : o = some (.int k) := by
  unfold intOf at h
  split at h
  · cases h; rfl
  · cases h
def paIx (i : Nat) (pa : Pa) (q : P) : Pa := fun env => (pa env).bind fun js => (ownAt i js env).bind fun l => (intOf (q env)).bind fun k => (ixN l.length k).map fun j => js ++ [j]
/-- the list that is found at a path -/
theorem Stt.look {i : Nat} {js : List Nat} {l : List C} {v0 x : V} {H' : Hp} (s : Stt K B H σ env O) (g : Grw H H') (ho : ownAt i js env = some l) (h0 : σ[i]? = some (some v0)) (hx : VAt H' v0 js x) : ∃ a xs A2, x = .ref a ∧ H' a = some (.lst xs) ∧ RepL K (fun a => B a ∨ a ∈ O) H' l xs A2 := by
  obtain ⟨c0, e0, e1, _⟩ := ownAt_some ho
  have s' := s.grw g
  obtain ⟨o, A1, A2, A3, g1, g2, ⟨y, rfl, g4⟩, _⟩ := RepE.at s'.rep e0
  rw [h0] at g1
  cases g1
  obtain ⟨x', B1, B2, B3, k1, k2, ⟨a, xs, A2t, rfl, rfl, ha, hl⟩, _⟩ := RepC.foc g4 e1
  exact ⟨a, xs, A2t, VAt.inj hx k2, ha, hl⟩
def gIx (i : Nat) (pa : Pa) (q : P) : Tg := fun d env => (pa env).bind fun js => (ownAt i js env).bind fun l => (intOf (q env)).bind fun k => (ixN l.length k).map fun j => setAt i js (l.set j (.frz d)) env
theorem RepL.setF {W : Addr → Prop} {l : List C} {xs : List V} {A : List Addr} {d : D} {v : V} (h : RepL K W H l xs A) {j : Nat} (hj : j < l.length) (hv : Is K W H d v) (nd : A.Nodup) : ∃ A', RepL K W H (l.set j (.frz d)) (xs.set j v) A' ∧ A'.Nodup ∧ ∀ b ∈ A', b ∈ A := by
  obtain ⟨x, A1, A2, A3, g1, rfl, g3, g4⟩ := RepL.at h (List.getElem?_eq_getElem hj)
  have n1 := List.nodup_append.mp nd
  have n2 := List.nodup_append.mp n1.2.1
  refine ⟨A1 ++ ([] ++ A3), g4 W H (.frz d) v [] Kp.refl (fun _ _ _ e => e) ⟨rfl, hv⟩, ?_, fun b hb => ?_⟩
  · rw [List.nil_append]
    exact List.nodup_append.mpr ⟨n1.1, n2.2.1, fun a ha b hb => n1.2.2 a ha b (by simp [hb])⟩
  · simp at hb ⊢
    rcases hb with z | z <;> simp [z]
theorem Stt.grwF {H' : Hp} (s : Stt K B H σ env O) (g : Grw H H') : Frm O H [] O H' := fun a o hw ha => ⟨g a o ha, fun z => z.elim (fun z => nomatch z) hw⟩
theorem Stt.nilB (s : Stt K B H σ env O) : Stt K (fun a => B a ∨ a ∈ ([] : List Addr)) H σ env O := s.less fun a z => z.elim id fun z => nomatch z
theorem g_ix {o k : Expr} {i : Nat} {pa : Pa} {tpos : Pos} (ho : PaOk X o i pa) (hk : BOk X k q)
    (ha : ∀ v : Value, assign (.Subscript o k tpos) X.env v = (do
      let ov ← holding [v] (eval o X.env)
      let iv ← holding [v, ov] (eval k X.env)
      standAt tpos
      holding [v, ov, iv] (setItem ov iv v)
      release [v, ov, iv] []) := by intro _; rfl) : GOk X false (.Subscript o k tpos) [] (gIx i pa q) := (pg_sub ho hk set_list ha).imp fun v σ H Q h => by
  obtain ⟨B, env, O, d, env', s, hd, ht, h⟩ := h
  unfold gIx at ht
  simp only [Option.bind_eq_some_iff, Option.map_eq_some_iff] at ht
  obtain ⟨js, e1, l, e2, kk, e3, j, e4, rfl⟩ := ht
  refine ⟨B, env, O, s, js, e1, fun v0 x H1 h0 hx g1 => ⟨B, env, O, s.grw g1, _, intOf_some e3, fun iv H2 g2 hv => ?_⟩⟩
  obtain ⟨c0, k0, k1, k2⟩ := ownAt_some e2
  have g := g1.trans g2
  have s2 := s.grw g
  obtain ⟨w0, a, xs, A2, m1, m2, m3, m4, m5, m6, m7⟩ := s2.nilB.mut .nil (fun _ z => nomatch z) (s.grwF g) k0 k1
  rw [h0] at m1
  cases m1
  have ex : x = .ref a := VAt.inj (hx.grw g2) m2
  subst ex
  have hj := (ixN_seq e4).2.1
  obtain ⟨A', r1, r2, r3⟩ := m4.setF (j := j) (d := d) (v := v) hj (Is.kp (fun b o w hb => ⟨g b o hb, fun z => w (z.elim (fun z => .inl (z.elim id fun z => nomatch z)) .inr)⟩) _ _ hd) m5
  obtain ⟨O2, t1, t2, t3⟩ := m7 _ _ _ r1 r2 fun b hb => .inl (r3 b hb)
  refine ⟨a, xs, kk, j, rfl, hv, m3, by rw [m4.length]; exact e4, ?_⟩
  rw [k2] at h
  exact h σ _ O2 t1 t2 SetIn.refl fun z => nomatch z
/-- a value given to a target -/
def sAsg (f : M C) (t : Tg) : SS := fun env => sOf (f env) fun c e => match t c.toD e with
  | some e' => .nx e'
  | none => .no
theorem s_asg {tg : Expr} {f : M C} {js : List Nat} {t : Tg} (he : EOk X w e f) (hg : GOk X false tg js t) (hj : ∀ j ∈ js, j ∉ pn := by decide) (hs : swapsWithSole [tg] e pos.line X.env = pure false := by rfl) (hw : swappedStores [tg] e X.env = pure none := by rfl)
    (h1 : (assignEach [tg] X.env).map (·.2) = [assign tg X.env] := by rfl) : SOk X w pn (.Assign [tg] e pos) (sAsg f t) := (ps_asg he hg hs hw h1).imp fun D σ H h => by
  obtain ⟨B, env, O, s, h⟩ := h
  refine rdE_s s h fun c e v H' A O' r h => ?_
  have rf := r.frz
  cases et : t c.toD e with
  | none => rw [et] at h; exact h.elim
  | some e' =>
    rw [et] at h
    have s1 : Stt X.K B H' σ e O' := r.stt.less fun a z => .inl z
    exact ⟨B, e, O', c.toD, e', s1, r.is, et, fun σ' H2 O2 s2 f2 z _ => h σ' H2 O2 s2 (rf.frm.seq' f2) (z.pin hj)⟩
def sAugIx (op : D → D → Option V) (i : Nat) (pa : Pa) (q p : P) : SS := fun env => match (pa env).bind fun js => (ownAt i js env).bind fun l => (intOf (q env)).bind fun k => (ixN l.length k).bind fun j => (l[j]?).bind fun c => (p env).bind fun d => (op c.toD d).map fun v => setAt i js (l.set j (.frz (ofV v))) env with
  | some e => .nx e
  | none => .no
theorem RepL.getIs {W : Addr → Prop} {l : List C} {xs : List V} {A : List Addr} {j : Nat} {c : C} (h : RepL K W H l xs A) (e : l[j]? = some c) : ∃ x, xs[j]? = some x ∧ Is K NoW H c.toD x := by
  obtain ⟨x, A1, A2, A3, g1, g2, g3, g4⟩ := RepL.at h e
  exact ⟨x, g1, RepC.is (fun a z => z.elim) _ _ _ (fun a _ z => z.elim) g3⟩
theorem get_seqL : PGet X (rIxL X.K) := by
  intro pins s σ H x y v u Q I rx ry h
  obtain ⟨p, xs, i, z, rfl, rfl, hq, he, q⟩ := h
  cases rx
  obtain ⟨t, rfl⟩ := ry
  obtain ⟨its, r, pl, hz⟩ := I.list hq
  obtain ⟨j, h1, h2, h3, h4, h5⟩ := atI_get he
  obtain ⟨w, ew, rw'⟩ := r.get h2
  have hl := r.length
  have hn := line63
  have fin : EP X pins σ Q w s := ⟨z, H, I, rw', q⟩
  by_cases h0 : 0 ≤ i
  · have hj : i.toNat = j := by
      rw [seqIndex_of h0 h5] at h1
      exact Option.some.inj h1
    exact wpAny_getItem_list pl.isList h0 (by omega) (by rw [hj]; simpa using ew) fin
  · have hj : (i + (its.toArray.size : Int)).toNat = j := by
      rw [seqIndex_neg (by omega) h4] at h1
      rw [List.size_toArray, ← hl]
      exact Option.some.inj h1
    exact wpAny_getItem_list_neg pl.isList (by omega) (by rw [List.size_toArray] <;> omega) (by omega) (by rw [hj]; simpa using ew) fin
theorem s_augIx {o k v : Expr} {i : Nat} {pa : Pa} {tpos : Pos} {oop : Operator} {rr : R2} {op : D → D → Option V} (ho : PaOk X o i pa) (hk : BOk X k q) (he : BOk X v p) (hop : OpR X (inplaceOp oop) rr) (h : PureS X.K rr op)
    (ha : ∀ ov iv new, augStore k ov iv new = (do holding [new, ov, iv] (setItem ov iv new); release [new, ov, iv] []; pure .next) := by intros; rfl) : SOk X w pn (.AugAssign (.Subscript o k tpos) oop v pos) (sAugIx op i pa q p) :=
  (ps_augS ho hk get_seqL he hop set_list ha).imp fun D σ H hh => by
    obtain ⟨B, env, O, s, hh⟩ := hh
    unfold sAugIx at hh
    split at hh
    · rename_i e' he'
      simp only [Option.bind_eq_some_iff, Option.map_eq_some_iff] at he'
      obtain ⟨js, e1, l, e2, kk, e3, j, e4, c, e5, d, e6, z, e7, rfl⟩ := he'
      refine ⟨B, env, O, s, js, e1, fun v0 x H1 h0 hx g1 => ⟨B, env, O, s.grw g1, _, intOf_some e3, fun iv H2 g2 hv => ?_⟩⟩
      have g := g1.trans g2
      obtain ⟨a1, xs, A2, rfl, ha1, hl⟩ := s.look g e2 h0 (hx.grw g2)
      obtain ⟨y, y1, y2⟩ := hl.getIs e5
      refine ⟨a1, xs, kk, y, rfl, hv, SqL.of ha1, by unfold atI; rw [hl.length, e4]; exact y1, B, env, O, s.grw g, d, e6, fun u H3 g3 hu => ?_⟩
      have g' := g.trans g3
      refine h H3 y u c.toD d z _ (y2.grw g3) hu e7 ?_
      obtain ⟨c0, k0, k1, k2⟩ := ownAt_some e2
      have s2 := s.grw g'
      obtain ⟨w0, a, xs', A2', m1, m2, m3, m4, m5, m6, m7⟩ := s2.nilB.mut .nil (fun _ z => nomatch z) (s.grwF g') k0 k1
      rw [h0] at m1
      cases m1
      have ex : V.ref a1 = .ref a := VAt.inj ((hx.grw g2).grw g3) m2
      cases ex
      have hj := (ixN_seq e4).2.1
      obtain ⟨A', r1, r2, r3⟩ := m4.setF (j := j) (d := ofV z) (v := z) hj (ofV_is _ _ _ z) m5
      obtain ⟨O2, t1, t2, t3⟩ := m7 _ _ _ r1 r2 fun b hb => .inl (r3 b hb)
      refine ⟨a1, xs', kk, j, rfl, hv, m3, by rw [m4.length]; exact e4, ?_⟩
      rw [k2] at hh
      exact hh σ _ O2 t1 t2 Pin.refl
    · exact hh.elim
/-- x op= .. on scalars -/
def sAug (op : D → D → Option V) (i : Nat) (p : P) : SS := fun env => match env[i]? with
  | some (some c) => match (p env).bind (op c.toD) with
    | some v => .nx (env.set i (some (.frz (ofV v))))
    | none => .no
  | _ => .no
end
end PL
namespace PL
open PySem PySem.Spec PyProof.Rows L2
section
variable {X : Cx} {w : WX} {H : Hp} {σ : L2.St} {e : Expr} {es : List Expr} {p q r : P} {ps : List P} {pos pp : Pos} {K : PySem.W.Frag} {mg : Str → Option Value} {B : Addr → Prop} {O : List Addr} {env : Slots} {st : Stmt} {rest : List Stmt} {pn : List Nat}
def eApp (i : Nat) (f : M C) : M C := fun env => match ownAt i [] env with
  | some _ => (f env).bind fun c e1 => match ownAt i [] e1 with
    | some l => if l.length < 100000 then .ok (.frz .non) (setAt i [] (l ++ [c]) e1) else .no
    | none => .no
  | none => .no
theorem Stt.ref0 {i : Nat} {l : List C} (s : Stt K B H σ env O) (h : ownAt i [] env = some l) : ∃ a xs A2, σ[i]? = some (some (.ref a)) ∧ H a = some (.lst xs) ∧ RepL K (fun a => B a ∨ a ∈ O) H l xs A2 := by
  obtain ⟨c0, e0, e1, _⟩ := ownAt_some h
  cases e1
  obtain ⟨o, A1, A2, A3, g1, g2, ⟨y, rfl, ⟨a, xs, A2t, rfl, rfl, ha, hl⟩⟩, _⟩ := RepE.at s.rep e0
  exact ⟨a, xs, A2t, g1, ha, hl⟩
theorem e_app {i : Nat} {x : Str} {f : M C} {npos apos cpos : Pos} (hN : X.N[i]? = some x) (hv : Vis X.env.scope x) (he : EOk X w e f) (hd : (x == ("__debug__" : Str)) = false := by decide) (hcd : (x == ("__classdict__" : Str)) = false := by decide)
    (hbase : attributeBase (.Name x npos) "append" X.env (eval (.Name x npos) X.env) = eval (.Name x npos) X.env := by rfl)
    (hfew : ((backTo cpos (starEach [e] X.env)).all (fun x => !x.1) && (backToKw cpos (keywordEach [] X.env)).all (fun x => x.1.isSome)
      && decide ([e].length + ([] : List Keyword).length + (if ([] : List Keyword).isEmpty then 0 else 1) < 30)) = true := by rfl)
    (hline : (apos.endLine == cpos.line) = true := by rfl) (hs : starEach [e] X.env = (false, eval e X.env) :: starEach [] X.env := by rfl) (hplain : (backTo cpos (starEach [] X.env)).any (·.1) = false := by rfl) :
    EOk X w (.Call (.Attribute (.Name x npos) "append" apos) [e] [] cpos) (eApp i f) :=
  (pe_bm PySem.F.plainAttrs_list PySem.F.slot_list_append PySem.F.type_list_append mt_append (pe_var (i := i) hN hv hd hcd) (pa_cons he pa_nil hs) hbase hfew hline hs hplain).imp fun σ H Q h => by
    obtain ⟨B, env, O, s, h⟩ := h
    unfold eApp at h
    cases e0 : ownAt i [] env with
    | none => rw [e0] at h; exact h.elim
    | some l0 =>
      rw [e0] at h
      simp only [] at h
      obtain ⟨a, xs, A2, g1, g2, g3⟩ := s.ref0 e0
      refine ⟨_, g1, .inl ⟨rfl, xs, SqL.of g2⟩, B, env, O, s, ?_⟩
      cases ef : f env with
      | no => rw [ef] at h; exact h
      | err y e1 => rw [ef] at h; exact h
      | ok c e1 =>
        rw [ef] at h
        simp only [Out.bind] at h
        intro v H1 A O1 r
        cases e2 : ownAt i [] e1 with
        | none => rw [e2] at h; exact h.elim
        | some l =>
          rw [e2] at h
          simp only [] at h
          split at h
          · rename_i e3 he3
            split at he3
            · rename_i hlen
              cases he3
              obtain ⟨c0, k0, k1, k2⟩ := ownAt_some e2
              obtain ⟨w0, a', xs', A2', m1, m2, m3, m4, m5, m6, m7⟩ := r.stt.mut r.nd r.dj r.frm k0 k1
              rw [g1] at m1
              cases m1
              have ea : V.ref a = .ref a' := m2
              cases ea
              obtain ⟨O2, t1, t2, t3⟩ := m7 (l ++ [c]) (xs' ++ [v]) (A2' ++ A) (m4.append (RepL.one r.rep)) (List.nodup_append.mpr ⟨m5, r.nd, fun b hb d hd z => r.stt.dj b (m6.2.2 b hb) (.inr (z ▸ hd))⟩) fun b hb => List.mem_append.mp hb
              refine ⟨a, xs', v, rfl, rfl, m3, by rw [m4.length, sizeLine_eq]; omega, ?_⟩
              rw [k2] at h
              exact h .non _ [] O2 (Res.new t1 t2 (New.of_is rfl))
            · cases he3
          · rename_i he3; split at he3 <;> cases he3
          · exact h.elim
/-- .. deeper, of a pure value -/
def eAppP (i : Nat) (pa : Pa) (p : P) : M C := fun env => match (pa env).bind fun js => (ownAt i js env).bind fun l => if l.length < 100000 then (p env).map fun d => setAt i js (l ++ [.frz d]) env else none with
  | some e => .ok (.frz .non) e
  | none => .no
def ePop (i : Nat) (pa : Pa) : M C := fun env => match (pa env).bind fun js => (ownAt i js env).bind fun l => l.getLast?.map fun c => (c, setAt i js l.dropLast env) with
  | some (c, e) => .ok (.frz c.toD) e
  | none => .no
end
end PL
namespace PL
open PySem PySem.Spec PyProof.Rows L2
open AutoSeq1 (wpAny_loadPart')
theorem enum_newT (t0 : Addr) (its : Array Value) (n : Nat) (dc : Option Addr) (sl : Array (Option Value)) :
    Meets (Builtin.«enumerate.__new__» ⟨[.type "enumerate", .ref t0], []⟩) (fun _ R s => s.heap.get? t0 = some { cls := .type "tuple", dict := dc, data := .seq its n, slots := sl } ∧
      R (.ok (.ret (.ref (s.heap.push { cls := .type "tuple_iterator", data := .fields #[.ref t0, .int 0 0] }).objs.size)))
        { s with heap := (s.heap.push { cls := .type "tuple_iterator", data := .fields #[.ref t0, .int 0 0] }).push { cls := .type "enumerate", data := .fields #[.none, .bool false, .ref s.heap.objs.size, rawInt 0, .none, .none] } }) :=
  .of_wp fun pr wo Ar R st0 hh => by
    obtain ⟨hp, g, d, tk, os⟩ := st0; obtain ⟨ht0, hh⟩ := hh
    have hsub := sub_enumerate
    have hT0 : Heap.IsTuple (Shared.heap ⟨hp, g, d, tk, os⟩) t0 its := ⟨_, ht0, rfl, n, rfl⟩
    wp_walk using wpAny_loadPart' ht0
    refine wpAny_stack_any fun sk => wpAny_pure ?_
    split
    · rename_i cl _ _ _ _ _
      cases (cl == Value.type "enumerate") <;>
      · wp_walk using wpAny_loadPart' ht0, wpAny_pyIter_tuple hT0
        exact ⟨_, rfl, hh⟩
    · wp_walk using wpAny_loadPart' ht0, wpAny_pyIter_tuple hT0
      exact ⟨_, rfl, hh⟩
theorem enum_callT {prog : Program} {w : World} {A : Around} {E : Value → Shared → Prop} {s : Shared} {t0 : Addr} {its : Array Value} {Q : Value → Shared → Prop} (hT : s.heap.IsTuple t0 its)
    (k : ∀ h', IsEnum h' (s.heap.objs.size + 1) s.heap.objs.size 0 .none → h'.IsTupleIter s.heap.objs.size t0 0 → (∀ b o, s.heap.get? b = some o → h'.get? b = some o) → Q (.ref (s.heap.objs.size + 1)) { s with heap := h' }) :
    wpAny (model prog w) A (call (.type "enumerate") [.ref t0]) Q E s := by
  obtain ⟨⟨cl, dc, dt, sl⟩, hg, e1, n, e2⟩ := hT
  cases (show cl = .type "tuple" from e1)
  cases (show dt = .seq its n from e2)
  refine callType_new F.called_enumerate (by decide) (F.typeCall_enumerate_1 _) (F.newCall_enumerate_1 _) (fun ob => F.args_object_init_2 ob _) F.entry_enumerate_new
    (enum_newT t0 its n dc sl) ⟨hg, ?_⟩
  have z1 : (s.heap.push { cls := .type "tuple_iterator", data := .fields #[.ref t0, .int 0 0] }).objs.size = s.heap.objs.size + 1 := Heap.size_push ..
  show _ ∧ _
  rw [z1]
  have e0 : IsEnum ((s.heap.push { cls := .type "tuple_iterator", data := .fields #[.ref t0, .int 0 0] }).push
      { cls := .type "enumerate", data := .fields #[.none, .bool false, .ref s.heap.objs.size, rawInt 0, .none, .none] }) (s.heap.objs.size + 1) s.heap.objs.size 0 .none := by
    have q := Heap.get?_push_size (s.heap.push { cls := .type "tuple_iterator", data := .fields #[.ref t0, .int 0 0] })
      (o := { cls := .type "enumerate", data := .fields #[.none, .bool false, .ref s.heap.objs.size, rawInt 0, .none, .none] }) rfl
    rw [z1] at q; exact q
  exact ⟨⟨_, e0, rfl⟩, k _ e0 ⟨_, Heap.get?_push_of_some _ (Heap.get?_push_size _ rfl), rfl, rfl⟩ fun b o x => Heap.get?_push_of_some _ (Heap.get?_push_of_some _ x)⟩
/-- the tuple at a, each item in a new pair -/
def IteT (K : PySem.W.Frag) (a : Addr) : It :=
  ⟨fun i H => ∃ (xs : List V) (x : V), SqT K H a xs ∧ xs[i]? = some x, fun i H v H' => ∃ T x, v = .ref T ∧ H T = none ∧ H' = upd H T (.tup [.int (i : Nat), x]) ∧ ∀ xs, SqT K H a xs → xs[i]? = some x, fun i H => ∃ xs : List V, SqT K H a xs ∧ xs.length ≤ i⟩
theorem enum_turnT {P : Program} {w : World} {K : PySem.W.Frag} {elts : List Expr} {kk : Nat} {tpos : Pos} (a en it : Addr) (na : a ≠ it) :
    Turn P w K (.Tuple elts kk tpos) (IteT K a) [en, it] en (fun i h => (∃ old, IsEnum h en it ((i : Nat) : Int) old) ∧ h.IsTupleIter it a i ∧ en ≠ it ∧ en ≠ a) where
  mem := List.mem_cons_self
  obj := fun i h hst b hb => by
    obtain ⟨⟨old, q1⟩, ⟨o, q2, q3, q4⟩, _⟩ := hst
    rcases List.mem_cons.mp hb with z | z
    · rw [z]; exact ⟨_, q1, fun v y => by cases y⟩
    · rw [List.mem_singleton.mp z]
      exact ⟨o, q2, fun v y => by rw [q4] at y; cases y⟩
  keep := fun i h h' hst k => by
    obtain ⟨⟨old, q1⟩, q2, q3⟩ := hst
    exact ⟨⟨old, k en List.mem_cons_self _ q1⟩, q2.at fun o z => k it (List.mem_cons_of_mem _ List.mem_cons_self) o z, q3⟩
  item := by
    intro X hP hw hK hc i pins s σ H E I hf ⟨⟨old, q1⟩, q2, q3, q3'⟩ ⟨xs, x, hq, hx⟩
    subst hP hw hK
    obtain ⟨vs, rv, tp, hz⟩ := I.tuple hq
    obtain ⟨u, hu, ru⟩ := rv.get hx
    have hu' : vs.toArray[i]? = some u := by simpa using hu
    have l1 : en < s.heap.objs.size := Heap.lt_size q1
    have l2 : it < s.heap.objs.size := by obtain ⟨_, z, _⟩ := q2; exact Heap.lt_size z
    have hi : i < vs.toArray.size := by
      by_cases z : i < vs.toArray.size
      · exact z
      · rw [Array.getElem?_eq_none (by omega)] at hu'; cases hu'
    have Dr := Draws.tuple (prog := X.prog) (w := X.w) (A := X.A.in1) (I.ok.hd hc) it a na vs.toArray
    refine wpAny_pyNext_enum_itemD (fp := [it, a]) (n := vs.toArray.size) Dr q1 ⟨q2, tp⟩ hi q3 (fun z => ?_) fun y h' tk hy ho hst hT hsz hk => ?_
    · rcases List.mem_cons.mp z with z | z
      · exact q3 z
      · exact q3' (List.mem_singleton.mp z)
    · have hy' : vs.toArray[i]? = some y := hy
      rw [hu'] at hy'
      cases hy'
      refine ⟨_, rfl, wpAny_letOwnedTupleGo_enum (s := { s with heap := h', toks := tk + 1 }) ho fun h2 he2 sb => ?_⟩
      have t2 : h2.get? s.heap.objs.size = some { cls := .type "tuple", data := .seq #[.int i tk, u] } := (sb.2 _ (Nat.ne_of_gt l1)).trans hT
      have nw : ObjOk X.prog X.w (upd H s.heap.objs.size (.tup [.int (i : Nat), x])) h2 s.heap.objs.size (.tup [.int (i : Nat), x]) :=
        ⟨by show 2 ≤ sizeLine; decide, [.int i tk, u], .cons ⟨_, rfl⟩ (.cons ru .nil), ⟨_, t2, rfl, _, rfl⟩⟩
      have J : Inv X pins σ (upd H s.heap.objs.size (.tup [.int (i : Nat), x])) { s with heap := h2, toks := tk + 1 } :=
        I.turnedNew (ch := [en, it]) (fun b ob hb z => (sb.2 b (fun y => hb (by simp [y]))).trans (hk b ob (fun y => hb (by simp [y])) (fun y => hb (by simp [y])) z)) hf (Nat.le_refl _) nw
      refine ⟨.ref s.heap.objs.size, _, J, rfl, ⟨_, x, rfl, I.hok.fresh (Nat.le_refl _), rfl, fun ys hy => by rw [I.tuple_inj hy hq]; exact hx⟩, ⟨⟨u, ?_⟩, hst.1.at fun o z => (sb.2 it (Ne.symm q3)).trans z, q3, q3'⟩, fun b hb => ?_⟩
      · rw [show ((i + 1 : Nat) : Int) = (i : Int) + 1 by omega]; exact he2
      · have lb : b < s.heap.objs.size := by
          rcases List.mem_cons.mp hb with z | z
          · rw [z]; exact l1
          · rw [List.mem_singleton.mp z]; exact l2
        rw [upd_ne (Nat.ne_of_lt lb)]
        exact (hf b hb).1
  done := by
    intro X hP hw hK hc i pins s σ H E I hf ⟨⟨old, q1⟩, q2, q3, q3'⟩ ⟨xs, hq, hx⟩
    subst hP hw hK
    obtain ⟨vs, rv, tp, hz⟩ := I.tuple hq
    obtain ⟨f0, f1, f2, f3, f4, f5⟩ := hf it (List.mem_cons_of_mem _ List.mem_cons_self)
    have hl := rv.length
    have hT : s.TypeIs (.ref en) "enumerate" := ⟨_, q1, rfl⟩
    unfold pyNext
    refine wpAny_bind (wpAny_attempt (wpAny_callSpecial?_slot (name := Str.ofString "__next__") hT F.slot_enumerate_next
      (wpAny_call_entry F.slot_enumerate_next hT F.entry_enumerate_next ?_ (F.args_enumerate_next_1 _))))
    show wpAny _ _ (field (.ref en) 2 >>= _) _ _ _
    refine wpAny_bind (wpAny_field q1 rfl (x := .ref it) rfl ?_)
    refine wpAny_bind (wpAny_nextOf_tuple_end (I.ok.hd hc) q2 tp (by simp; omega) fun h' y xb hy => ?_)
    obtain ⟨o, ho, hcl⟩ := hy
    exact wpAny_bind (wpAny_isInstance (T := "StopIteration") (b := true) ⟨o, ho, hcl⟩ isSubtype_stop (wpAny_pure ⟨rfl, I.turned (t' := s.toks) (fun b ob hb z => xb b ob hb z) f0 f1 f3 f4 f5⟩))
  self := fun A i s Q E hst h => by
    obtain ⟨⟨_, q1⟩, _⟩ := hst
    exact wpAny_pyIter_enum q1 h
def iEnumT (K : PySem.W.Frag) (ta : TA) : TI := fun σ H R => ta σ H fun vs H1 => ∃ a xs, vs = [.ref a] ∧ SqT K H1 a xs ∧ R (IteT K a) H1
theorem pi_enumT {X : Cx} {e : Expr} {ta : TA} {p pos tpos : Pos} {elts : List Expr} {kk : Nat} (hg : Gl X "enumerate") (hm : X.mg "enumerate" = none) (ha : PA X [e] ta) (hs : starEach [e] X.env = [(false, eval e X.env)] := by rfl) :
    PI X (.Tuple elts kk tpos) (.Call (.Name "enumerate" p) [e] [] pos) (iEnumT X.K ta) := ⟨fun pins s σ H R I h => by
  refine Call_ (ld_blt I hg hm boot_enumerate (PyProof.Rows.callWith_type1 (thn (ha.run pos pins s σ H _ I h) fun us s1 ⟨vs, H1, I1, r1, q1⟩ => ?_) hs rfl))
  obtain ⟨a, xs, rfl, hq, q⟩ := q1
  obtain ⟨u, rfl, ru⟩ := r1.one
  cases ru
  obtain ⟨ws, rv, tp, hz⟩ := I1.tuple hq
  have la : a < s1.heap.objs.size := by obtain ⟨_, z, _⟩ := tp; exact Heap.lt_size z
  refine enum_callT tp fun h' he hit hk => wpAny_pyIter_enum he ?_
  have J : Inv X pins σ H1 { s1 with heap := h' } := I1.kept (t' := s1.toks) hk
  refine ⟨s1.heap.objs.size + 1, [s1.heap.objs.size + 1, s1.heap.objs.size], _, _, H1, rfl, J, enum_turnT a (s1.heap.objs.size + 1) s1.heap.objs.size (Nat.ne_of_lt la), ⟨⟨.none, he⟩, hit, Nat.succ_ne_self _, Nat.ne_of_gt (Nat.lt_succ_of_lt la)⟩, fun b hb => ?_, q⟩
  have hle : s1.heap.objs.size ≤ b := by
    rcases List.mem_cons.mp hb with z | z
    · rw [z]; exact Nat.le_add_right _ _
    · rw [List.mem_singleton.mp z]; exact Nat.le_refl _
  exact I1.fpOk hle (I1.hok.fresh hle)⟩
section
variable {X : Cx} {w : WX} {H : Hp} {σ : L2.St} {e : Expr} {es : List Expr} {p q r : P} {ps : List P} {pos pp : Pos} {K : PySem.W.Frag} {mg : Str → Option Value} {B : Addr → Prop} {O : List Addr} {env : Slots} {st : Stmt} {rest : List Stmt} {pn : List Nat}
variable {tg : Expr} {kk : Nat} {tpos : Pos} {elts : List Expr}
theorem walkD_enumT {W : Addr → Prop} {a : Addr} {xs : List V} {l : List D} (ha : H a = some (.tup xs)) (nw : ¬ W a) (il : IsL K W H l xs) : WalkD K W H (IteT K a) (enumD l) := fun W2 H2 kp tr => by
  have h2 := (kp a _ nw ha).1
  have i2 := IsL.kp kp _ _ il
  have hl := il.length
  rw [enumD_length]
  refine ⟨fun i hi => ⟨xs, xs[i]'(by omega), SqT.of h2, by simp [hl, hi]⟩, ⟨xs, SqT.of h2, by omega⟩, fun i x H3 hi y => ?_⟩
  obtain ⟨T, z, rfl, hT, rfl, y⟩ := y
  have g1 : Grw H2 (upd H2 T (.tup [.int (i : Nat), z])) := fun b o e => by rw [upd_ne (ne_of_none e hT)]; exact e
  refine ⟨g1, _, enumD_get hi, T, _, rfl, upd_same, fun q => ?_, ?_⟩
  · obtain ⟨u, e⟩ := tr T q; rw [hT] at e; cases e
  · obtain ⟨x', e, h⟩ := i2.get (List.getElem?_eq_getElem hi)
    rw [y xs (SqT.of h2)] at e
    cases e
    exact ⟨_, _, rfl, rfl, _, _, rfl, h.grw g1, rfl⟩
/-- enumerate over a frozen list or tuple -/
def enumS (p : P) : PLs := fun env => (fSq p env).map enumD
theorem iG_enumS {a : Expr} {pa pb : Pos} (hg : Gl X "enumerate") (hm : X.mg "enumerate" = none) (ha : POk X a p) (hs : starEach [a] X.env = [(false, eval a X.env)] := by rfl) :
    IGk X (.Tuple elts kk tpos) (.Call (.Name "enumerate" pa) [a] [] pb) (enumS p) := ((pi_enum hg hm (pa_cons ha pa_nil (by rw [hs]; rfl)) hs).or (pi_enumT hg hm (pa_cons ha pa_nil (by rw [hs]; rfl)) hs)).imp fun σ H R hr => by
  obtain ⟨B, env, O, s, l, hp, hr⟩ := hr
  unfold enumS fSq at hp
  simp only [Option.map_eq_some_iff, Option.bind_eq_some_iff] at hp
  obtain ⟨l0, ⟨d, e1, e2⟩, rfl⟩ := hp
  cases d with
  | lst l' =>
    cases e2
    exact .inl ⟨B, env, O, s, _, e1, fun v H1 g hv => let ⟨a, xs, ev, ha, nw, il⟩ := hv; ⟨a, xs, by rw [ev], SqL.of ha, hr _ H1 g (walkD_enum ha nw il).g⟩⟩
  | tup l' =>
    cases e2
    exact .inr ⟨B, env, O, s, _, e1, fun v H1 g hv => let ⟨a, xs, ev, ha, nw, il⟩ := hv; ⟨a, xs, by rw [ev], SqT.of ha, hr _ H1 g (walkD_enumT ha nw il).g⟩⟩
  | non => cases e2
  | bl _ => cases e2
  | int _ => cases e2
  | str _ => cases e2
  | dct _ => cases e2
  | dcT _ => cases e2
  | dcL _ => cases e2
  | ro _ => cases e2
  | fn _ => cases e2
  | opq _ => cases e2
  | lam _ _ => cases e2
/-- a walk's source that is pure, for a loop -/
theorem iD_enumS {a : Expr} {pa pb : Pos} (hg : Gl X "enumerate") (hm : X.mg "enumerate" = none) (ha : POk X a p) (hs : starEach [a] X.env = [(false, eval a X.env)] := by rfl) :
    IDk X w (.Tuple elts kk tpos) (.Call (.Name "enumerate" pa) [a] [] pb) (mP (enumS p)) := ((pi_enum hg hm (pa_cons ha pa_nil (by rw [hs]; rfl)) hs).or (pi_enumT hg hm (pa_cons ha pa_nil (by rw [hs]; rfl)) hs)).imp fun σ H R hr => by
  obtain ⟨B, env, O, s, hr⟩ := hr
  unfold mP enumS fSq at hr
  cases e1 : p env with
  | none => simp [e1] at hr
  | some d =>
    have go : ∀ l, sqD d = some l → ∀ J H1, Grw H H1 → WalkD X.K (fun a => B a ∨ a ∈ O) H1 J (enumD l) → R J H1 := fun l hl J H1 g wk => by
      simp only [e1, Option.bind_some, hl, Option.map_some] at hr
      exact hr J H1 O (s.grw g) (s.grwF g) wk
    cases hd : sqD d with
    | none => simp [e1, hd] at hr
    | some l =>
      cases d with
      | lst l' =>
        cases hd
        exact .inl ⟨B, env, O, s, _, e1, fun v H1 g hv => let ⟨a, xs, ev, ha, nw, il⟩ := hv; ⟨a, xs, by rw [ev], SqL.of ha, go _ rfl _ H1 g (walkD_enum ha nw il)⟩⟩
      | tup l' =>
        cases hd
        exact .inr ⟨B, env, O, s, _, e1, fun v H1 g hv => let ⟨a, xs, ev, ha, nw, il⟩ := hv; ⟨a, xs, by rw [ev], SqT.of ha, go _ rfl _ H1 g (walkD_enumT ha nw il)⟩⟩
      | non => cases hd
      | bl _ => cases hd
      | int _ => cases hd
      | str _ => cases hd
      | dct _ => cases hd
      | dcT _ => cases hd
      | dcL _ => cases hd
      | ro _ => cases hd
      | fn _ => cases hd
      | opq _ => cases hd
      | lam _ _ => cases hd
end
end PL
namespace PL
open PySem PySem.Spec PyProof.Rows L2
section
variable {X : Cx} {w : WX} {H : Hp} {σ : L2.St} {e : Expr} {es : List Expr} {p q r : P} {ps : List P} {pos pp : Pos} {K : PySem.W.Frag} {mg : Str → Option Value} {B : Addr → Prop} {O : List Addr} {env : Slots} {st : Stmt} {rest : List Stmt} {pn : List Nat}
def eExt (i : Nat) (pa : Pa) (f : PLs) : M C := fun env => match (pa env).bind fun js => (ownAt i js env).bind fun l => (f env).bind fun m => if l.length + m.length < 100000 then some (setAt i js (l ++ m.map .frz) env) else none with
  | some e => .ok (.frz .non) e
  | none => .no
theorem e_ext {i : Nat} {o : Expr} {pa : Pa} {f : PLs} {apos cpos : Pos} (ho : PaOk X o i pa) (he : LOk X e f)
    (hbase : attributeBase o "extend" X.env (eval o X.env) = eval o X.env := by rfl)
    (hfew : ((backTo cpos (starEach [e] X.env)).all (fun x => !x.1) && (backToKw cpos (keywordEach [] X.env)).all (fun x => x.1.isSome)
      && decide ([e].length + ([] : List Keyword).length + (if ([] : List Keyword).isEmpty then 0 else 1) < 30)) = true := by rfl)
    (hline : (apos.endLine == cpos.line) = true := by rfl) (hs : starEach [e] X.env = (false, eval e X.env) :: starEach [] X.env := by rfl) (hplain : (backTo cpos (starEach [] X.env)).any (·.1) = false := by rfl) :
    EOk X w (.Call (.Attribute o "extend" apos) [e] [] cpos) (eExt i pa f) :=
  (pe_bm PySem.F.plainAttrs_list PySem.F.slot_list_extend PySem.F.type_list_extend mt_extend ho (pa_cons he pa_nil hs) hbase hfew hline hs hplain).imp fun σ H Q h => by
    obtain ⟨B, env, O, s, h⟩ := h
    unfold eExt at h
    split at h
    · rename_i c' e' hc'
      split at hc'
      · rename_i e2 he2
        cases hc'
        simp only [Option.bind_eq_some_iff] at he2
        obtain ⟨js, e1, l, e3, m, e4, he2⟩ := he2
        split at he2
        · rename_i hlen
          cases he2
          refine ⟨B, env, O, s, js, e1, fun v0 x H1 h0 hx g1 => ?_⟩
          obtain ⟨a, xs, A2, rfl, ha, hl⟩ := s.look g1 e3 h0 hx
          refine ⟨.inl ⟨rfl, xs, SqL.of ha⟩, B, env, O, s.grw g1, m, e4, fun b ys H2 g2 hb hm => ?_⟩
          have g := g1.trans g2
          have s2 := s.grw g
          obtain ⟨c0, k0, k1, k2⟩ := ownAt_some e3
          obtain ⟨w0, a', xs', A2', m1, m2, m3, m4, m5, m6, m7⟩ := s2.nilB.mut .nil (fun _ z => nomatch z) (s.grwF g) k0 k1
          rw [h0] at m1
          cases m1
          have ea : V.ref a = .ref a' := VAt.inj (hx.grw g2) m2
          cases ea
          obtain ⟨O2, t1, t2, t3⟩ := m7 (l ++ m.map .frz) (xs' ++ ys) (A2' ++ []) (m4.append (RepL.frz (IsL.kp (Kp.less fun b z => z.imp (fun z => z.elim id fun z => nomatch z) id) _ _ hm))) (by rw [List.append_nil]; exact m5) fun b hb => .inl (by simpa using hb)
          refine ⟨a, b, xs', ys, rfl, rfl, m3, hb, by rw [m4.length, hm.length, sizeLine_eq]; omega, ?_⟩
          rw [k2] at h
          exact h .non _ [] O2 (Res.new t1 t2 (New.of_is rfl))
        · cases he2
      · cases hc'
    · rename_i hc'; split at hc' <;> cases hc'
    · exact h.elim
/-- the first of the values put into a slot -/
theorem ResL.put1 {c : C} {cs : List C} {e1 : Slots} {v : V} {vs : List V} {H' : Hp} {A O' : List Addr} {i : Nat} (r : ResL K B O H σ (c :: cs) e1 (v :: vs) H' A O') (hi : i < e1.length) :
    ∃ A2 O2, ResL K B O H (σ.set i (some v)) cs (e1.set i (some c)) vs H' A2 O2 := by
  obtain ⟨v', vs', D1, D2, e0, rfl, hc, hl⟩ := r.rep
  cases e0
  obtain ⟨o, A1, A2, A3, g1, g2, g3, g4⟩ := RepE.at r.stt.rep (List.getElem?_eq_getElem hi)
  have nd := r.stt.nd
  rw [g2] at nd
  have nd1 := List.nodup_append.mp nd
  have nd2 := List.nodup_append.mp nd1.2.1
  have nD := List.nodup_append.mp r.nd
  have sub : ∀ a, a ∈ A1 ++ A3 → a ∈ O' := fun a ha => by rw [g2]; simp at ha ⊢; rcases ha with z | z <;> simp [z]
  have m3 : ∀ a, a ∈ A1 ++ (D1 ++ A3) → a ∈ D1 ∨ a ∈ A1 ++ A3 := fun a ha => by simp at ha ⊢; rcases ha with z | z | z <;> simp [z]
  have le : ∀ a, (B a ∨ a ∈ D2) ∨ a ∈ A1 ++ (D1 ++ A3) → (B a ∨ a ∈ D1 ++ D2) ∨ a ∈ O' := fun a z => by
    rcases z with (z | z) | z
    · exact .inl (.inl z)
    · exact .inl (.inr (by simp [z]))
    · exact (m3 a z).elim (fun z => .inl (.inr (by simp [z]))) fun z => .inr (sub a z)
  refine ⟨D2, A1 ++ (D1 ++ A3), RepL.kp (Kp.less le) _ _ _ (fun _ _ _ e => e) hl, ⟨?_, ?_, ?_, ?_⟩, nD.2.1, fun a ha => r.dj a (by simp [ha]), fun a o hw ha => ⟨(r.frm a o hw ha).1, fun z => ?_⟩⟩
  · exact g4 _ H' (some c) (some v) D1 (Kp.less le) (fun _ _ _ e => e) ⟨v, rfl, RepC.kp (Kp.less le) _ _ _ (fun _ _ _ e => e) hc⟩
  · refine List.nodup_append.mpr ⟨nd1.1, List.nodup_append.mpr ⟨nD.1, nd2.2.1, fun a ha b hb e => ?_⟩, fun a ha b hb e => ?_⟩
    · subst e; exact r.stt.dj a (sub a (by simp [hb])) (.inr (by simp [ha]))
    · subst e
      rcases List.mem_append.mp hb with z | z
      · exact r.stt.dj a (sub a (by simp [ha])) (.inr (by simp [z]))
      · exact nd1.2.2 a ha a (by simp [z]) rfl
  · intro a ha z
    rcases m3 a ha with y | y
    · exact z.elim (r.dj a (by simp [y])) fun z => nD.2.2 a y a z rfl
    · exact r.stt.dj a (sub a y) (z.imp id fun z => by simp [z])
  · exact fun a z => r.stt.tr a (z.imp id fun z => by simp [z])
  · refine (r.frm a o hw ha).2 ?_
    rcases z with z | z
    · exact .inl (by simp [z])
    · exact (m3 a z).elim (fun z => .inl (by simp [z])) fun z => .inr (sub a z)
theorem ResL.done {e1 : Slots} {H' : Hp} {A O' : List Addr} (r : ResL K B O H σ [] e1 [] H' A O') : Stt K B H' σ e1 O' ∧ Frm O H [] O' H' := ⟨r.stt.less fun a z => .inl z, r.frm0⟩
def sPar (is : List Nat) (fs : List (M C)) : SS := fun env => sOf (evMs fs env) fun cs e => .nx ((is.zip cs).foldl (fun e (p : Nat × C) => e.set p.1 (some p.2)) e)
theorem rdM_s {fs : List (M C)} {k : List C → Slots → SOut} {D : Ends} {Q : List V → Hp → Prop} (s : Stt X.K B H σ env O) (h : SPost X w pn D B O σ H (sOf (evMs fs env) k))
    (i : ∀ cs e vs H' A O', evMs fs env = .ok cs e → ResL X.K B O H σ cs e vs H' A O' → SPost X w pn D B O σ H (k cs e) → Q vs H') : rdM X w fs σ H Q := by
  refine ⟨B, env, O, s, ?_⟩
  unfold sOf at h
  cases ef : evMs fs env with
  | no => rw [ef] at h; exact h
  | err x e => rw [ef] at h; exact fun cls d H' O' x => h σ cls d H' O' x Pin.refl
  | ok c e => rw [ef] at h; exact fun v H' A O' r => i c e v H' A O' ef r h
theorem ResL.len {cs : List C} {vs : List V} {H1 : Hp} {A O1 : List Addr} {e1 : Slots} (r : ResL K B O H σ cs e1 vs H1 A O1) : e1.length = σ.length := r.stt.len.symm
theorem s_par {i j : Nat} {x y : Str} {a b : Expr} {f g : M C} {px py pt : Pos} {kt k2 pt2} (hc : X.calm = true) (hN : X.N.Nodup) (hi : X.N[i]? = some x) (hj : X.N[j]? = some y) (hij : i ≠ j)
    (hx : X.env.scope.names.lookup x = some .local) (hy : X.env.scope.names.lookup y = some .local) (ha : AMk X w [a, b] [f, g]) (hpi : i ∉ pn := by decide) (hpj : j ∉ pn := by decide)
    (hw : swappedStores [.Tuple [.Name x px, .Name y py] kt pt] (.Tuple [a, b] k2 pt2) X.env = pure (some [x, y]))
    (hs : swapsWithSole [.Tuple [.Name x px, .Name y py] kt pt] (.Tuple [a, b] k2 pt2) pos.line X.env = pure false := by rfl) :
    SOk X w pn (.Assign [.Tuple [.Name x px, .Name y py] kt pt] (.Tuple [a, b] k2 pt2) pos) (sPar [i, j] [f, g]) := ⟨fun pins s σ H D I h => (ps_par hc hN hi hj hij hx hy ha hw hs).run pins s σ H D I (by
  obtain ⟨B, env, O, st, h⟩ := h
  refine rdM_s st h fun cs e vs H' A O' ec r h => ?_
  have hl := evMs_len ec
  have hv := r.rep.length
  obtain ⟨c1, c2, rfl⟩ : ∃ c1 c2, cs = [c1, c2] := by
    match cs, hl with
    | [c1, c2], _ => exact ⟨c1, c2, rfl⟩
  obtain ⟨v1, v2, rfl⟩ : ∃ v1 v2, vs = [v1, v2] := by
    match vs, hv with
    | [v1, v2], _ => exact ⟨v1, v2, rfl⟩
  have hn := I.len
  obtain ⟨A2, O2, r2⟩ := r.put1 (i := i) (by rw [r.len, hn]; exact lt_of_N hi)
  obtain ⟨A3, O3, r3⟩ := r2.put1 (i := j) (by rw [r2.len, List.length_set, hn]; exact lt_of_N hj)
  obtain ⟨s3, f3⟩ := r3.done
  exact ⟨v1, v2, rfl, h _ H' O3 s3 f3 ((Pin.set hpi).trans (Pin.set hpj))⟩)⟩
theorem s_par3 {i j l : Nat} {x y z : Str} {a b c : Expr} {f g k : M C} {px py pz pt : Pos} {kt k2 pt2} (hc : X.calm = true) (hN : X.N.Nodup) (hi : X.N[i]? = some x) (hj : X.N[j]? = some y) (hl : X.N[l]? = some z) (hij : i ≠ j) (hil : i ≠ l) (hjl : j ≠ l)
    (hx : X.env.scope.names.lookup x = some .local) (hy : X.env.scope.names.lookup y = some .local) (hz : X.env.scope.names.lookup z = some .local) (ha : AMk X w [a, b, c] [f, g, k]) (hpi : i ∉ pn := by decide) (hpj : j ∉ pn := by decide) (hpl : l ∉ pn := by decide)
    (hw : swappedStores [.Tuple [.Name x px, .Name y py, .Name z pz] kt pt] (.Tuple [a, b, c] k2 pt2) X.env = pure (some [x, y, z]))
    (hs : swapsWithSole [.Tuple [.Name x px, .Name y py, .Name z pz] kt pt] (.Tuple [a, b, c] k2 pt2) pos.line X.env = pure false := by rfl) :
    SOk X w pn (.Assign [.Tuple [.Name x px, .Name y py, .Name z pz] kt pt] (.Tuple [a, b, c] k2 pt2) pos) (sPar [i, j, l] [f, g, k]) := ⟨fun pins s σ H D I h => (ps_par3 hc hN hi hj hl hij hil hjl hx hy hz ha hw hs).run pins s σ H D I (by
  obtain ⟨B, env, O, st, h⟩ := h
  refine rdM_s st h fun cs e vs H' A O' ec r h => ?_
  have hl' := evMs_len ec
  have hv := r.rep.length
  obtain ⟨c1, c2, c3, rfl⟩ : ∃ c1 c2 c3, cs = [c1, c2, c3] := by
    match cs, hl' with
    | [c1, c2, c3], _ => exact ⟨c1, c2, c3, rfl⟩
  obtain ⟨v1, v2, v3, rfl⟩ : ∃ v1 v2 v3, vs = [v1, v2, v3] := by
    match vs, hv with
    | [v1, v2, v3], _ => exact ⟨v1, v2, v3, rfl⟩
  have hn := I.len
  obtain ⟨A2, O2, r2⟩ := r.put1 (i := i) (by rw [r.len, hn]; exact lt_of_N hi)
  obtain ⟨A3, O3, r3⟩ := r2.put1 (i := j) (by rw [r2.len, List.length_set, hn]; exact lt_of_N hj)
  obtain ⟨A4, O4, r4⟩ := r3.put1 (i := l) (by rw [r3.len, List.length_set, List.length_set, hn]; exact lt_of_N hl)
  obtain ⟨s3, f3⟩ := r4.done
  exact ⟨v1, v2, v3, rfl, h _ H' O4 s3 f3 (((Pin.set hpi).trans (Pin.set hpj)).trans (Pin.set hpl))⟩)⟩
def eFnO (m : List C → Out C) (fs : List (M C)) : M C := fun env => (evMs fs env).bind fun cs e1 => match m cs with
  | .ok c _ => .ok c e1
  | .err x _ => .err x e1
  | .no => .no
theorem e_fnO {k : Nat} {x : Str} {st : Stmt} {qs : List Str} {m : List C → Out C} {fs : List (M C)} (F : FnM X.prog X.w X.K X.mg X.base k x st qs m) (bd : BindP x st qs) (hg : X.A.guards = some []) (hr : Room k X.A) (tk : Takes X w) (gl : Gl X x) (ha : AMk X w (e :: es) fs) (hl : fs.length = qs.length := by rfl)
    (hdb : (x == ("__debug__" : Str)) = false := by decide) (he : starEach (e :: es) X.env = (false, eval e X.env) :: starEach es X.env := by rfl) (hpl : (backTo pos (starEach es X.env)).any (·.1) = false := by rfl) :
    EOk X w (.Call (.Name x pp) (e :: es) [] pos) (eFnO m fs) := by
  obtain ⟨f, kV, doc, pm, an, cdv, ct, hm, kp, G⟩ := F.ex
  refine ⟨fun pins s σ H Q I h => ?_⟩
  have want : rdM X w fs σ H fun vs H1 => spM X.K X.mg qs.length m vs H1 Q (EofW w σ) := by
    obtain ⟨B, env, O, st, h⟩ := h
    refine ⟨B, env, O, st, ?_⟩
    unfold eFnO at h
    cases er : evMs fs env with
    | no => simp only [er, Out.bind] at h
    | err y e => simp only [er, Out.bind] at h; exact h
    | ok cs e1 =>
      simp only [er, Out.bind] at h
      intro vs H1 A O1 r
      refine ⟨by rw [r.rep.length, evMs_len er]; exact hl, fun a => B a ∨ a ∈ O1, cs, A, r.args, ?_⟩
      cases em : m cs with
      | no => rw [em] at h; exact h
      | err y outs =>
        rw [em] at h
        intro cls d H' O' x2
        obtain ⟨s2, f2⟩ := r.stay (A2 := []) x2.frm
        exact h cls d H' O1 (XRes.mk' x2.cls (x2.xfs.less fun a z => .inl z) s2 f2)
      | ok c outs =>
        rw [em] at h
        intro u H' A2 O2 r2
        obtain ⟨s2, f2⟩ := r.stay r2.frm
        have tA : ∀ a ∈ A2, ∃ u : MHO, H' a = some u.1 := RepC.trk _ _ _ r2.rep
        have nA : ∀ a ∈ A2, a ∉ O1 := fun a ha z => r2.dj a ha (.inr z)
        refine h u H' A2 O1 ⟨RepC.kp (Kp.less fun a z => ?_) _ _ _ (fun _ _ _ e => e) r2.rep, ⟨RepE.kp (fun a o hw ha => ?_) (fun a ha o e => (r2.frm a o (fun z => r.stt.dj a ha (.inr z)) e).1) r.stt.rep, s2.nd, fun a ha z => z.elim (s2.dj a ha) fun z => nA a z ha, fun a z => z.elim (s2.tr a) (tA a)⟩, r2.nd, fun a ha z => r2.dj a ha (.inl z), fun a o hw ha => ?_⟩
        · rcases z with (z | z) | z
          · exact .inl (.inl (.inl z))
          · exact .inl (.inr z)
          · exact .inl (.inl (.inr z))
        · obtain ⟨q1, q2⟩ := r2.frm a o (fun z => hw (.inl (.inr z))) ha
          exact ⟨q1, fun z => z.elim (fun z => z.elim (fun z => hw (.inl (.inl z))) fun z => q2 (.inl z)) fun z => hw (.inr z)⟩
        · obtain ⟨q1, q2⟩ := r.frm a o hw ha
          obtain ⟨q3, q4⟩ := r2.frm a o (fun z => q2 (.inl z)) q1
          exact ⟨q3, fun z => z.elim (fun z => q4 (.inl z)) fun z => q2 (.inr z)⟩
  refine wpAny_Call_Name_kw (ld_glob I gl hm ?_ hdb)
  refine PySem.W.callWith_K (h₀ := X.base) I.ok.mod.kin kp (thn (ha.run pos pins s σ H _ I want) ?_) he hpl
  rintro us s1 ⟨vs, H1, I1, r1, q1⟩
  exact ⟨I1.kIn, run_G G hg hr (fun e s' c => tk e s' (XE.of_call I1 (fun _ _ _ z => z) c)) (.of_eq (bd kV doc pm an cdv ct us (r1.length.symm.trans q1.1))) I1 r1 q1⟩
end
end PL
namespace PL
open PySem PySem.Spec PySem.W PyProof.Rows L2
section
variable {X : Cx} {w : WX} {H : Hp} {σ : L2.St} {e : Expr} {es : List Expr} {p q r : P} {ps : List P} {pos pp : Pos} {K : PySem.W.Frag} {mg : Str → Option Value} {B : Addr → Prop} {O : List Addr} {env : Slots} {st : Stmt} {rest : List Stmt} {pn : List Nat}
def dmD : D → D → Option D
  | .int a, .int b => if 0 < b ∧ Builtin.divisionGoesByPylong a b = false then some (.tup [.int (a / b), .int (a % b)]) else none
  | _, _ => none
def pDm (p q : P) : P := fun env => match p env, q env with
  | some a, some b => dmD a b
  | _, _ => none
theorem p_divmod {a b : Expr} (hg : Gl X "divmod") (hm : X.mg "divmod" = none) (ha : ABk X [a, b] [p, q]) (he : starEach [a, b] X.env = (false, eval a X.env) :: starEach [b] X.env := by rfl) (hpl : (backTo pos (starEach [b] X.env)).any (·.1) = false := by rfl) :
    POk X (.Call (.Name "divmod" pp) [a, b] [] pos) (pDm p q) :=
  (pe_callB call_divmodW hg hm (by decide +kernel) ha (by decide) (by decide) he hpl).imp fun σ H Q h => by
    obtain ⟨B, env, O, s, d, hp, h⟩ := h
    unfold pDm at hp
    split at hp
    · rename_i d1 d2 e1 e2
      unfold dmD at hp
      split at hp
      · split at hp
        · rename_i i j hc
          cases hp
          refine ⟨B, env, O, s, [.int i, .int j], by simp [evPs, e1, e2], fun vs H1 g1 hv => ?_⟩
          obtain ⟨x, y, rfl, hx, hy⟩ := hv.two
          rw [show x = _ from hx, show y = _ from hy]
          refine ⟨i, j, rfl, hc, fun t ht => ?_⟩
          have g2 : Grw H1 (upd H1 t (.tup [.int (i / j), .int (i % j)])) := fun b o e => by rw [upd_ne (ne_of_none e ht)]; exact e
          refine h _ _ (g1.trans g2) ⟨t, _, rfl, upd_same, fun z => ?_, _, _, rfl, rfl, _, _, rfl, rfl, rfl⟩
          obtain ⟨u, e⟩ := (s.grw g1).trk t z
          rw [ht] at e; cases e
        · cases hp
      · cases hp
    · cases hp
end
def startE (n : Nat) (cs : List C) : Slots := cs.map some ++ List.replicate (n - cs.length) none
def outsE (pn : List Nat) : Nat → Nat → Slots → Slots
  | _, 0, _ => []
  | _, _ + 1, [] => []
  | k, n + 1, oc :: r => (if pn.contains k then oc else none) :: outsE pn (k + 1) n r
/-- what a body makes of the arguments (N: how many slots; pn: the lent ones; a: how many parameters) -/
def bodyM (N : Nat) (pn : List Nat) (a : Nat) (f : SS) : List C → Out C := fun cs => match f (startE N cs) with
  | .nx e => .ok (.frz .non) (outsE pn 0 a e)
  | .rt c e => .ok c (outsE pn 0 a e)
  | .err x e => .err x (outsE pn 0 a e)
  | _ => .no
theorem RepE.nones {K : PySem.W.Frag} {W : Addr → Prop} {H : Hp} : ∀ n : Nat, RepE K W H (List.replicate n none) (List.replicate n none) []
  | 0 => ⟨rfl, rfl⟩
  | n + 1 => ⟨none, List.replicate n none, [], [], rfl, rfl, rfl, RepE.nones n⟩
theorem RepE.app {K : PySem.W.Frag} {W : Addr → Prop} {H : Hp} {e2 : Slots} {σ2 : List (Option V)} (h2 : RepE K W H e2 σ2 []) : ∀ {e1 : Slots} {σ1 : List (Option V)} {A : List Addr}, RepE K W H e1 σ1 A → RepE K W H (e1 ++ e2) (σ1 ++ σ2) A
  | [], σ1, A, h => by
    obtain ⟨rfl, rfl⟩ := h
    exact h2
  | oc :: r, σ1, A, h => by
    obtain ⟨o, τ, A1, A2, rfl, rfl, h3, h4⟩ := h
    exact ⟨o, τ ++ σ2, A1, A2, rfl, rfl, h3, RepE.app h2 h4⟩
theorem Stt.start {K : PySem.W.Frag} {B : Addr → Prop} {H : Hp} {cs : List C} {vs : List V} {O : List Addr} (N : List Str) (s : Stt K B H (vs.map some) (cs.map some) O) : Stt K B H (L2.start N vs) (startE N.length cs) O := by
  have hl : vs.length = cs.length := by have := s.len; simpa using this
  unfold L2.start startE
  rw [hl]
  exact ⟨RepE.app (RepE.nones _) s.rep, s.nd, s.dj, s.tr⟩
theorem RepE.outs {K : PySem.W.Frag} {W : Addr → Prop} {H : Hp} {pn : List Nat} : ∀ {n k : Nat} {e : Slots} {σ τ : List (Option V)} {A : List Addr}, RepE K W H e σ A → τ.length = n → n ≤ e.length → (∀ i, k + i ∈ pn → i < n → σ[i]? = τ[i]?) → ∃ A', A'.Sublist A ∧ RepE K W H (outsE pn k n e) τ A'
  | 0, k, e, σ, τ, A, h, ht, hl, hp => ⟨[], List.nil_sublist _, by
    rw [List.eq_nil_of_length_eq_zero ht]
    unfold outsE
    exact ⟨rfl, rfl⟩⟩
  | n + 1, k, [], σ, τ, A, h, ht, hl, hp => by simp at hl
  | n + 1, k, oc :: r, σ, τ, A, h, ht, hl, hp => by
    obtain ⟨o, σ', A1, A2, rfl, rfl, h1, h2⟩ := h
    cases τ with
    | nil => simp at ht
    | cons t τ =>
      obtain ⟨A', sub, h3⟩ := RepE.outs (n := n) (k := k + 1) (τ := τ) h2 (by simpa using ht) (by simpa using hl) fun i hi hn => by
        have := hp (i + 1) (by rw [show k + (i + 1) = k + 1 + i by omega]; exact hi) (by omega)
        simpa using this
      unfold outsE
      by_cases hk : pn.contains k = true
      · rw [if_pos hk]
        refine ⟨A1 ++ A', List.Sublist.append (List.Sublist.refl _) sub, t, τ, A1, A', rfl, rfl, ?_, h3⟩
        have := hp 0 (by simpa using hk) (by omega)
        simp at this
        rw [← this]
        exact h1
      · rw [if_neg hk]
        exact ⟨A', List.Sublist.trans sub (List.sublist_append_right _ _), t, τ, [], A', rfl, rfl, rfl, h3⟩
theorem Stt.outs {K : PySem.W.Frag} {B : Addr → Prop} {H : Hp} {σ : List (Option V)} {vs : List V} {e : Slots} {O : List Addr} {pn : List Nat} {N : List Str} (s : Stt K B H σ e O) (hl : vs.length ≤ e.length) (hp : Pin pn (L2.start N vs) σ) :
    ∃ O', O'.Sublist O ∧ Stt K B H (vs.map some) (outsE pn 0 vs.length e) O' := by
  obtain ⟨A', sub, h⟩ := RepE.outs (pn := pn) (k := 0) (τ := vs.map some) s.rep (by simp) hl fun i hi hn => by
    rw [hp.2 i (by simpa using hi)]
    unfold L2.start
    rw [List.getElem?_append_left (by simpa using hn)]
  exact ⟨A', sub, RepE.kp (Kp.less fun a z => z.imp id (sub.subset ·)) (fun _ _ _ e => e) h, s.nd.sublist sub, fun a ha => s.dj a (sub.subset ha), s.tr⟩
/-- THE RULE: a def, by its body's reading -/
theorem fnG_of {Pr : Program} {w : World} {K : PySem.W.Frag} {mg : Str → Option Value} {base : Heap} {k : Nat} {f : Addr} {nm qu : Str} {pa : Arguments} {body : List Stmt} {sc : Scope} {dV kV doc pm cdv ct oc : Value} {an od : Option Addr}
    {osl : Array (Option Value)} {N ps : List Str} {pn : List Nat} {g : SS} (lk : K.lookup f = some ⟨oc, od, .func (PySem.W.fnOf nm qu pa body sc dV kV doc pm an cdv ct), osl⟩) (hcd : PySem.W.codeIn K cdv qu = true) (S : FnScope N ps sc)
    (hb : ∀ (A : Around) (outer : List Env) (s : Shared) (H : Hp) (E : XK), A.guards = some [] → Room k (A.deeper (envOfC qu sc s.heap.objs.size f cdv)) →
      SsOk (cxOf (CY Pr w) Pr w K mg base N qu sc f cdv A outer s H E) (fun cls d _ H' => E cls d H') pn body g) :
    FnG Pr w K mg base (k + 1) f (PySem.W.fnOf nm qu pa body sc dV kV doc pm an cdv ct) ps (spM K mg ps.length (bodyM N.length pn ps.length g)) :=
  fn_ofG lk hcd S (fun vs H Q E h => h.1) fun A outer s H vs Q E hg hr h => by
    refine ⟨_, hb A outer s H E hg hr, ?_⟩
    obtain ⟨hl, B, cs, O, st, h⟩ := h
    have hpl : ps.length ≤ N.length := by have := congrArg List.length S.pre; rw [List.length_take] at this; omega
    have hcs : cs.length = vs.length := by have := st.len; simp at this; exact this.symm
    refine ⟨B, startE N.length cs, O, st.start N, ?_⟩
    have lenS : (L2.start N vs).length = N.length := by
      unfold L2.start
      rw [List.length_append, List.length_map, List.length_replicate]; omega
    unfold bodyM at h
    rw [← hl] at h
    have lenE : ∀ {σ' : List (Option V)} {e : Slots} {B' : Addr → Prop} {H' : Hp} {O' : List Addr}, Stt K B' H' σ' e O' → Pin pn (L2.start N vs) σ' → vs.length ≤ e.length := fun s' p' => by
      rw [← s'.len, p'.1, lenS]; omega
    have subF : ∀ {A' O' O2 : List Addr} {H' : Hp}, Frm O H A' O' H' → O2.Sublist O' → Frm O H A' O2 H' := fun f sub => Frm.sub f fun a z => sub.subset z
    cases eg : g (startE N.length cs) with
    | no => rw [eg] at h; exact h
    | bk e => rw [eg] at h; exact h.elim
    | ct e => rw [eg] at h; exact h.elim
    | nx e =>
      rw [eg] at h
      intro σ' H' O' s' f' p'
      obtain ⟨O2, sub, s2⟩ := s'.outs (lenE s' p') p'
      exact h .non H' [] O2 (Res.new s2 (subF f' sub) (New.of_is rfl))
    | rt c e =>
      rw [eg] at h
      intro σ' v H' A' O' r p'
      obtain ⟨O2, sub, s2⟩ := r.stt.outs (lenE r.stt p') p'
      exact h v H' A' O2 ⟨RepC.kp (Kp.less fun a z => z.imp id (sub.subset ·)) _ _ _ (fun _ _ _ e => e) r.rep, s2, r.nd, r.dj, subF r.frm sub⟩
    | err x e =>
      rw [eg] at h
      intro σ' cls d H' O' r p'
      obtain ⟨O2, sub, s2⟩ := r.stt.outs (lenE r.stt p') p'
      exact h cls d H' O2 (XRes.mk' r.cls (r.xfs.less fun a z => z.imp id (sub.subset ·)) s2 (subF r.frm sub))
end PL
namespace PL
open PySem PySem.Spec PySem.W PyProof.Rows L2
/-- the table of modules stands -/
def SysD (h : Heap) : Prop := ∃ (o : Obj) (es : Array DictEntry) (ep : Nat), h.get? sysModules = some o ∧ o.data = .dict es ep
theorem SysD.of {h : Heap} (x : h.NoSeer) : SysD h := by
  obtain ⟨mm, ⟨o, es, ep, e, d, _⟩, _⟩ := x.mods
  exact ⟨o, es, ep, e, d⟩
theorem SysD.keeps {h h' : Heap} (x : SysD h) (k : ∀ b o, h.get? b = some o → h'.get? b = some o) : SysD h' := let ⟨o, es, ep, e, d⟩ := x; ⟨o, es, ep, k _ _ e, d⟩
end PL
namespace PL
open PySem PySem.Spec PyProof.Rows L2
section
variable {X : Cx} {w : WX} {H : Hp} {σ : L2.St} {e : Expr} {es : List Expr} {p q r : P} {ps : List P} {pos pp : Pos} {K : PySem.W.Frag} {mg : Str → Option Value} {B : Addr → Prop} {O : List Addr} {env : Slots} {st : Stmt} {rest : List Stmt} {pn : List Nat}
def compM (vs : List Nat) (t : Tg) (q : PB) (f : M C) : List D → Slots → Option (List C × Slots)
  | [], e => some ([], e)
  | d :: r, e => match t d e with
    | none => none
    | some e1 => match q e1 with
      | none => none
      | some false => compM vs t q f r (wipeE e1 vs)
      | some true => match f e1 with
        | .ok c e3 => match compM vs t q f r (wipeE e3 vs) with
          | some (cs, e4) => some (c :: cs, e4)
          | none => none
        | _ => none
def freeE (vs : List Nat) (e : Slots) : Bool := vs.all fun v => isFree e[v]?
def eComp (vs : List Nat) (t : Tg) (q : PB) (f : M C) (src : M (List D)) : M C := fun env => (src env).bind fun l e1 => if freeE vs e1 && decide (l.length ≤ 100000) then (match compM vs t q f l e1 with
  | some (cs, e2) => .ok (.own cs) e2
  | none => .no) else .no
/-- slots of which nothing is known may change -/
theorem Stt.ext {τ : List (Option V)} (s : Stt K B H σ env O) (h : ∀ (i : Nat) (c : C), env[i]? = some (some c) → τ[i]? = σ[i]?) (hl : τ.length = σ.length) : Stt K B H τ env O := ⟨RepE.ext s.rep h hl, s.nd, s.dj, s.tr⟩
end
structure DefAt (K : PySem.W.Frag) (mg : Str → Option Value) (x : Str) (st : Stmt) : Prop where
  ex : ∃ (f : Addr) (oc : Value) (od : Option Addr) (kV doc pm : Value) (an : Option Addr) (cdv ct : Value) (osl : Array (Option Value)), mg x = some (.ref f) ∧ PySem.W.keepIn K (.ref f) = true ∧
    K.lookup f = some ⟨oc, od, .func (PySem.W.fnOf x x (defArgs st) (defBody st) (defScope st) .none kV doc pm an cdv ct), osl⟩ ∧ PySem.W.codeIn K cdv x = true
theorem FnM.of {Pr : Program} {w : World} {K : PySem.W.Frag} {mg : Str → Option Value} {base : Heap} {k : Nat} {x : Str} {st : Stmt} {N ps : List Str} {pn : List Nat} {g : SS} (F : DefAt K mg x st) (S : FnScope N ps (defScope st))
    (hb : ∀ (f : Addr) (cdv : Value) (A : Around) (outer : List Env) (s : Shared) (H : Hp) (E : XK), A.guards = some [] → Room k (A.deeper (envOfC x (defScope st) s.heap.objs.size f cdv)) →
      SsOk (cxOf (CY Pr w) Pr w K mg base N x (defScope st) f cdv A outer s H E) (fun cls d _ H' => E cls d H') pn (defBody st) g) :
    FnM Pr w K mg base (k + 1) x st ps (bodyM N.length pn ps.length g) := by
  obtain ⟨f, oc, od, kV, doc, pm, an, cdv, ct, osl, h1, h2, h3, h4⟩ := F.ex
  exact ⟨f, kV, doc, pm, an, cdv, ct, h1, h2, fnG_of h3 h4 S fun A outer s H E hg hr => hb f cdv A outer s H E hg hr⟩
theorem FnG.mono {Pr : Program} {w : World} {K : PySem.W.Frag} {mg : Str → Option Value} {base : Heap} {j k : Nat} {f : Addr} {fd : FuncData} {ps : List Str} {sp : Sp} (F : FnG Pr w K mg base j f fd ps sp) (h : j ≤ k) : FnG Pr w K mg base k f fd ps sp :=
  ⟨F.len, fun A outer s H args us vs Q E hg hr => F.run A outer s H args us vs Q E hg (hr.mono h)⟩
theorem FnM.mono {Pr : Program} {w : World} {K : PySem.W.Frag} {mg : Str → Option Value} {base : Heap} {j k : Nat} {x : Str} {st : Stmt} {ps : List Str} {m : List C → Out C} (F : FnM Pr w K mg base j x st ps m) (h : j ≤ k) : FnM Pr w K mg base k x st ps m := by
  obtain ⟨f, kV, doc, pm, an, cdv, ct, h1, h2, G⟩ := F.ex
  exact ⟨f, kV, doc, pm, an, cdv, ct, h1, h2, G.mono h⟩
end PL
namespace PL
open PySem PySem.Spec PyProof.Rows L2
section
variable {X : Cx} {w : WX} {H : Hp} {σ : L2.St} {a b e : Expr} {es : List Expr} {p q r : P} {ps : List P} {fs : List (M C)} {pos pp : Pos} {K : PySem.W.Frag} {mg : Str → Option Value} {B : Addr → Prop} {O : List Addr} {env : Slots} {st : Stmt} {rest : List Stmt} {pn : List Nat} {k : Nat}
theorem c_len : CallR X (.builtin "len") (fun xs H Q => (∃ x n, xs = [x] ∧ LenV X.K x H n ∧ Q (.int n) H) ∨ (∃ a kvs, xs = [V.ref a] ∧ H a = some (.dK kvs) ∧ Q (.int kvs.length) H) ∨ rLenT xs H Q) := call_len.or (call_lenD.or call_len_dT)
theorem c_isi : CallR X (.builtin "isinstance") (fun xs H Q => rIsi X.K xs H Q ∨ rIsiT X.K xs H Q) := call_isi.or call_isiT
theorem p_len (hm : X.mg "len" = none) (ha : ABk X [e] ps) (hg : Gl X "len" := by rfl) (he : starEach [e] X.env = (false, eval e X.env) :: starEach [] X.env := by rfl) (hpl : (backTo pos (starEach [] X.env)).any (·.1) = false := by rfl) : POk X (.Call (.Name "len" pp) [e] [] pos) (pCall lenF ps) :=
  p_callB c_len cal_len hg hm PySem.boot_len ha (by decide) (by decide) he hpl
theorem p_isi (hm : X.mg "isinstance" = none) (ha : ABk X (a :: es) ps) (hg : Gl X "isinstance" := by rfl) (he : starEach (a :: es) X.env = (false, eval a X.env) :: starEach es X.env := by rfl) (hpl : (backTo pos (starEach es X.env)).any (·.1) = false := by rfl) : POk X (.Call (.Name "isinstance" pp) (a :: es) [] pos) (pCall isiF ps) :=
  p_callB c_isi cal_isi hg hm boot_isinstance ha (by decide) (by decide) he hpl
theorem p_abs (hm : X.mg "abs" = none) (ha : ABk X [e] ps) (hg : Gl X "abs" := by rfl) (he : starEach [e] X.env = (false, eval e X.env) :: starEach [] X.env := by rfl) (hpl : (backTo pos (starEach [] X.env)).any (·.1) = false := by rfl) : POk X (.Call (.Name "abs" pp) [e] [] pos) (pCall absF ps) :=
  p_callB call_abs cal_abs hg hm boot_abs ha (by decide) (by decide) he hpl
theorem p_intC (hm : X.mg "int" = none) (ha : ABk X [e] ps) (hg : Gl X "int" := by rfl) (he : starEach [e] X.env = (false, eval e X.env) :: starEach [] X.env := by rfl) (hpl : (backTo pos (starEach [] X.env)).any (·.1) = false := by rfl) : POk X (.Call (.Name "int" pp) [e] [] pos) (pCall intF ps) :=
  p_callT call_int1 cal_int hg hm (by decide +kernel) ha (by decide) (by decide) he hpl
theorem p_max (hc : X.calm = true) (hm : X.mg "max" = none) (ha : ABk X (a :: es) ps) (hg : Gl X "max" := by rfl) (he : starEach (a :: es) X.env = (false, eval a X.env) :: starEach es X.env := by rfl) (hpl : (backTo pos (starEach es X.env)).any (·.1) = false := by rfl) : POk X (.Call (.Name "max" pp) (a :: es) [] pos) (pCall maxF ps) :=
  p_callB ((cr_max hc).or (call_max2 hc)) cal_max hg hm (by decide +kernel) ha (by decide) (by decide) he hpl
theorem p_all (hc : X.calm = true) (hm : X.mg "all" = none) (ha : ABk X [e] ps) (hg : Gl X "all" := by rfl) (he : starEach [e] X.env = (false, eval e X.env) :: starEach [] X.env := by rfl) (hpl : (backTo pos (starEach [] X.env)).any (·.1) = false := by rfl) : POk X (.Call (.Name "all" pp) [e] [] pos) (pCall allF ps) :=
  p_callB (cr_all hc) cal_all hg hm (by decide +kernel) ha (by decide) (by decide) he hpl
theorem f_listC (hm : X.mg "list" = none) (ha : POk X e p) (hg : Gl X "list" := by rfl) (he : starEach [e] X.env = (false, eval e X.env) :: starEach [] X.env := by rfl) : FOk X (.Call (.Name "list" pp) [e] [] pos) (fSq p) := f_listS hg hm (by decide +kernel) ha (he := he)
/-- M-tier -/
theorem e_len (hm : X.mg "len" = none) (ha : AMk X w [e] fs) (hg : Gl X "len" := by rfl) (he : starEach [e] X.env = (false, eval e X.env) :: starEach [] X.env := by rfl) (hpl : (backTo pos (starEach [] X.env)).any (·.1) = false := by rfl) : EOk X w (.Call (.Name "len" pp) [e] [] pos) (eCall lenF fs) :=
  e_callB c_len cal_len hg hm PySem.boot_len ha (by decide) (by decide) he hpl
def eMv (i : Nat) : M C := fun env => match env[i]? with
  | some (some c) => .ok c (env.set i none)
  | _ => .no
theorem e_Mv {i : Nat} {x : Str} (hN : X.N[i]? = some x) (hv : Vis X.env.scope x) (hd : (x == ("__debug__" : Str)) = false := by decide) (hcd : (x == ("__classdict__" : Str)) = false := by decide) :
    EOk X w (.Name x pos) (eMv i) := (pe_var (i := i) hN hv hd hcd).imp fun σ H Q h => by
  obtain ⟨B, env, O, s, h⟩ := h
  unfold eMv at h
  split at h
  · rename_i c' e' hc
    split at hc
    · rename_i c e0
      cases hc
      obtain ⟨o, A1, A2, A3, g1, g2, ⟨x0, rfl, hc0⟩, put⟩ := RepE.at s.rep e0
      have nd := s.nd
      rw [g2] at nd
      have n1 := List.nodup_append.mp nd
      have n2 := List.nodup_append.mp n1.2.1
      have mO : ∀ b, b ∈ O ↔ b ∈ A2 ∨ b ∈ A1 ++ A3 := fun b => by rw [g2]; simp; constructor <;> intro h <;> rcases h with h | h | h <;> simp [h]
      have z := put (fun b => (B b ∨ b ∈ A2) ∨ b ∈ A1 ++ A3) H none (some x0) [] (Kp.less fun b z => by
        rcases z with (z | z) | z
        · exact .inl z
        · exact .inr ((mO b).mpr (.inl z))
        · exact .inr ((mO b).mpr (.inr z))) (fun _ _ _ e => e) rfl
      rw [set_same g1] at z
      refine ⟨x0, g1, h x0 H A2 (A1 ++ A3) ⟨RepC.kp (Kp.less fun b z => ?_) _ _ _ (fun _ _ _ e => e) hc0, ⟨by simpa using z, ?_, fun b hb y => ?_, fun b y => y.elim (s.tr b) fun y => RepE.trk s.rep b ((mO b).mpr (.inl y))⟩, n2.1, fun b hb => s.dj b ((mO b).mpr (.inl hb)), fun b o hw hb => ⟨hb, fun y => hw ((mO b).mpr (y.imp id id))⟩⟩⟩
      · rcases z with (z | z) | z
        · exact .inl z
        · exact .inr ((mO b).mpr (.inl z))
        · exact .inr ((mO b).mpr (.inr z))
      · exact List.nodup_append.mpr ⟨n1.1, n2.2.1, fun b hb d hd => n1.2.2 b hb d (by simp [hd])⟩
      · rcases y with y | y
        · exact s.dj b ((mO b).mpr (.inr hb)) y
        · rcases List.mem_append.mp hb with z | z
          · exact n1.2.2 b z b (by simp [y]) rfl
          · exact n2.2.2 b y b z rfl
    · cases hc
  · rename_i hc; split at hc <;> cases hc
  · exact h.elim
def flatD : D → Bool
  | .non => true
  | .bl _ => true
  | .int _ => true
  | .str _ => true
  | _ => false
def pFnB (m : List C → Out C) (ps : List P) : P := fun env => match evPs ps env with
  | some ds => match m (ds.map .frz) with
    | .ok c _ => if flatD c.toD then some c.toD else none
    | _ => none
  | none => none
end
end PL
namespace PL
open PySem PySem.Spec PyProof.Rows L2
section
variable {X : Cx} {w : WX} {H : Hp} {σ : L2.St} {a b e : Expr} {es : List Expr} {p q r : P} {ps : List P} {fs : List (M C)} {pos pp : Pos} {K : PySem.W.Frag} {mg : Str → Option Value} {B : Addr → Prop} {O : List Addr} {env : Slots} {st : Stmt} {rest : List Stmt} {pn : List Nat} {k : Nat}
def catD : D → D → Option C
  | .lst l, .lst m => if l.length + m.length ≤ 100000 then some (.own ((l ++ m).map .frz)) else none
  | _, _ => none
theorem New.lst {W : Addr → Prop} {l : List D} {xs : List V} {t : Addr} (h : IsL K W H l xs) (ht : H t = none) : New K W H (.own (l.map .frz)) (.ref t) (upd H t (.lst xs)) [t] := by
  have g : Grw H (upd H t (.lst xs)) := fun b o e => by rw [upd_ne (ne_of_none e ht)]; exact e
  refine ⟨g, ⟨t, xs, [], rfl, rfl, upd_same, RepL.frz (IsL.kp (fun b o hw hb => ⟨g b o hb, fun z => ?_⟩) _ _ h)⟩, by simp, fun b hb => by rw [List.mem_singleton.mp hb]; exact ht⟩
  rcases z with z | z
  · exact hw z
  · rw [List.mem_singleton.mp z, ht] at hb; cases hb
def eCat (f g : M C) : M C := eBin catD f g
def repD : D → D → Option C
  | .lst l, .int k => if (-(2 ^ 63) ≤ k ∧ k < 2 ^ 63) ∧ l.length * k.toNat ≤ 100000 then some (.own ((List.replicate k.toNat l).flatten.map .frz)) else none
  | _, _ => none
def eRep (f g : M C) : M C := eBin repD f g
def eExtM (i : Nat) (f : M C) : M C := fun env => match ownAt i [] env with
  | some _ => (f env).bind fun c e1 => match ownAt i [] e1, c.toD with
    | some l, .lst m => if l.length + m.length < 100000 then .ok (.frz .non) (setAt i [] (l ++ m.map .frz) e1) else .no
    | _, _ => .no
  | none => .no
theorem p_dct0 : POk X (.Dict [] [] pos) (pK (.dct [])) := pe_dnewK.imp fun σ H Q h => by
  obtain ⟨B, env, O, s, d, hp, h⟩ := h
  cases hp
  intro t ht
  have g : Grw H (upd H t (.dK [])) := fun b o e => by rw [upd_ne (ne_of_none e ht)]; exact e
  refine h _ _ g ⟨t, [], rfl, upd_same, fun z => ?_, rfl⟩
  obtain ⟨u, e⟩ := s.trk t z
  rw [ht] at e; cases e
end
/-- a def's body does what g says -/
def BdOk (Pr : Program) (w : World) (K : PySem.W.Frag) (mg : Str → Option Value) (base : Heap) (k : Nat) (x : Str) (st : Stmt) (N : List Str) (pn : List Nat) (g : SS) : Prop := ∀ (f : Addr) (cdv : Value) (A : Around) (outer : List Env) (s : Shared) (H : Hp) (E : XK), A.guards = some [] → Room k (A.deeper (envOfC x (defScope st) s.heap.objs.size f cdv)) →
  SsOk (cxOf (CY Pr w) Pr w K mg base N x (defScope st) f cdv A outer s H E) (fun cls d _ H' => E cls d H') pn (defBody st) g
theorem FnM.by {Pr : Program} {w : World} {K : PySem.W.Frag} {mg : Str → Option Value} {base : Heap} {k : Nat} {x : Str} {st : Stmt} {N ps : List Str} {pn : List Nat} {g : SS} (F : DefAt K mg x st) (S : FnScope N ps (defScope st)) (hb : BdOk Pr w K mg base k x st N pn g) :
    FnM Pr w K mg base (k + 1) x st ps (bodyM N.length pn ps.length g) := FnM.of F S hb
end PL
namespace PL
open PySem PySem.Spec PyProof.Rows L2
@[simp] theorem shaped_int (i : Int) : SeqAt.shaped (.int i) = true := by unfold SeqAt.shaped; simp [PyData.canLay0, PyData.depth]
@[simp] theorem shaped_bool (i : Bool) : SeqAt.shaped (.bool i) = true := by unfold SeqAt.shaped; simp [PyData.canLay0, PyData.depth]
@[simp] theorem shaped_none : SeqAt.shaped .none = true := by unfold SeqAt.shaped; simp [PyData.canLay0, PyData.depth]
@[simp] theorem eqD_int (a b : Int) : eqD (.int a) (.int b) = some (a == b) := by simp [eqD, toPy, PyData.eqv]
theorem mulOk_r {a b : Int} (h1 : -(2 ^ 64) < b) (h2 : b < 2 ^ 64) : mulOk a b = true := by unfold mulOk; rw [decide_eq_true h1, decide_eq_true h2, Bool.and_self, Bool.or_true]
theorem mulOk_l {a b : Int} (h1 : -(2 ^ 64) < a) (h2 : a < 2 ^ 64) : mulOk a b = true := by unfold mulOk; rw [decide_eq_true h1, decide_eq_true h2, Bool.and_self, Bool.or_true, Bool.true_or]
theorem divOk_small {a b : Int} (h1 : b ≠ 0) (h2 : b.natAbs < 1073741824) : divOk a b = true := by simp [divOk, h1, PyProof.noPylong_small h2]
/-- an own pot of two numbers -/
def pot (a b : Int) : C := .own [.frz (.int a), .frz (.int b)]
def PotOk (c : C) : Prop := ∃ a b, c = pot a b ∧ 0 ≤ b ∧ b < 4294967296
/-- what a law's draw keeps to: one of 0 .. s - 1, the pot a pot -/
def DrawOk (m : List C → Out C) : Prop := ∀ (c : C) (s : Int), PotOk c → 0 < s → s < 1073741824 → ∃ r c', m [c, .frz (.int s)] = .ok (.frz (.int r)) [some c', none] ∧ 0 ≤ r ∧ r < s ∧ PotOk c'
end PL
namespace PL
open PySem PySem.Spec PyProof.Rows L2
def inD (l : List Int) : List D := l.map D.int
def lnD (ls : List (List Int)) : List D := ls.map fun l => D.lst (inD l)
def fz (l : List D) : List C := l.map C.frz
@[simp] theorem inD_nil : inD [] = [] := rfl
@[simp] theorem lnD_nil : lnD [] = [] := rfl
@[simp] theorem fz_nil : fz [] = [] := rfl
@[simp] theorem fz_fold (l : List D) : l.map C.frz = fz l := rfl
@[simp] theorem toDs_fz (l : List D) : C.toDs (fz l) = l := toDs_frz l
@[simp] theorem inD_len (l : List Int) : (inD l).length = l.length := by simp [inD]
@[simp] theorem lnD_len (l : List (List Int)) : (lnD l).length = l.length := by simp [lnD]
@[simp] theorem fz_len (l : List D) : (fz l).length = l.length := List.length_map ..
theorem fz_cons (x : D) (l : List D) : fz (x :: l) = .frz x :: fz l := rfl
@[simp] theorem frzs_fz (l : List D) : frzs (fz l) = some l := frzs_map l
@[simp] theorem intsOf_inD (l : List Int) : intsOf (inD l) = some l := intsOf_map l
/-- trailing zeros cut off -/
def trimI : List Int → List Int
  | [] => []
  | x :: r => match trimI r with
    | [] => if x = 0 then [] else [x]
    | y :: t => x :: y :: t
theorem trimI_len (l : List Int) : (trimI l).length ≤ l.length := by
  induction l with
  | nil => simp [trimI]
  | cons x r ih =>
    unfold trimI
    cases e : trimI r with
    | nil => simp only []; split <;> simp
    | cons y t => rw [e] at ih; simp at ih ⊢; omega
theorem trimI_last {l : List Int} {x : Int} (h : (trimI l).getLast? = some x) : x ≠ 0 := by
  induction l with
  | nil => simp [trimI] at h
  | cons y r ih =>
    unfold trimI at h
    cases e : trimI r with
    | nil =>
      rw [e] at h
      simp only [] at h
      split at h
      · simp at h
      · simp at h; subst h; assumption
    | cons z t =>
      rw [e] at h ih
      simp only [List.getLast?_cons_cons] at h
      exact ih h
theorem trimI_mem {l : List Int} {x : Int} (h : x ∈ trimI l) : x ∈ l := by
  induction l with
  | nil => exact h
  | cons y r ih =>
    unfold trimI at h
    cases e : trimI r with
    | nil =>
      rw [e] at h
      simp only [] at h
      split at h
      · cases h
      · simp at h; simp [h]
    | cons z t =>
      rw [e] at h ih
      rcases List.mem_cons.mp h with q | q
      · simp [q]
      · exact List.mem_cons_of_mem _ (ih q)
end PL
namespace PL
open PySem PySem.Spec PyProof.Rows L2
theorem ixN_nat {n j : Nat} (h : j < n) : ixN n (j : Int) = some j := by
  unfold ixN
  rw [if_pos (by omega), if_pos (by omega)]
  simp
theorem atI_nat {α : Type} {l : List α} {j : Nat} (h : j < l.length) : atI l (j : Int) = some l[j] := by
  unfold atI
  rw [ixN_nat h]
  simp [h]
end PL
namespace PL
open PySem PySem.Spec PyProof.Rows L2
mutual
/-- plain data through and through (no script, no type) -/
def plD : D → Bool
  | .tup l => plL l
  | .lst l => plL l
  | .ro _ => false
  | .fn _ => false
  | .opq _ => false
  | .lam _ _ => false
  | .dcT _ => false
  | .dcL _ => false
  | _ => true
def plL : List D → Bool
  | [] => true
  | d :: r => plD d && plL r
end
end PL
namespace PL
open PySem PySem.Spec PyProof.Rows L2
theorem evPs_n (env : Slots) : evPs [] env = some [] := rfl
theorem evPs_c (p : P) (ps : List P) (env : Slots) : evPs (p :: ps) env = match p env, evPs ps env with
  | some d, some r => some (d :: r)
  | _, _ => none := by
  cases h1 : p env <;> cases h2 : evPs ps env <;> simp [evPs, h1, h2]
theorem evMs_n (env : Slots) : evMs [] env = .ok [] env := rfl
theorem evMs_c (f : M C) (fs : List (M C)) (env : Slots) : evMs (f :: fs) env = (f env).bind fun c e1 => (evMs fs e1).bind fun cs e2 => .ok (c :: cs) e2 := rfl
section
variable {f g b : SS} {env e e' : Slots} {c : C} {h : M C} {q : M Bool} {t : Tg} {src : M (List D)} {l : List D} {i N a : Nat} {pn : List Nat} {cs : List C} {R : SOut}
theorem seq_nx (h1 : f env = .nx e) : sSeq f g env = g e := by unfold sSeq; rw [h1]
theorem ret_ok (h1 : h env = .ok c e) : sRet h env = .rt c e := by unfold sRet sOf; rw [h1]
theorem body_rt (h1 : f (startE N cs) = .rt c e) : bodyM N pn a f cs = .ok c (outsE pn 0 a e) := by unfold bodyM; rw [h1]
theorem eP_of {p : P} {d : D} (h1 : p env = some d) : eP p env = .ok (.frz d) env := by unfold eP; rw [h1]
end
end PL
namespace PL
open PySem PySem.Spec PyProof.Rows L2
end PL
namespace PL
open PySem PySem.Spec PyProof.Rows L2
section
variable {X : Cx} {w : WX} {H : Hp} {σ : L2.St} {a b e : Expr} {es : List Expr} {p q r : P} {ps : List P} {fs : List (M C)} {pos pp : Pos} {K : PySem.W.Frag} {mg : Str → Option Value} {B : Addr → Prop} {O : List Addr} {env : Slots} {st : Stmt} {rest : List Stmt} {pn : List Nat} {k : Nat}
def keyD : D → Option Key
  | .int i => some (.inl i)
  | .str x => some (.inr x)
  | _ => none
theorem keyD_is {W : Addr → Prop} {d : D} {k : Key} {x : V} (h : keyD d = some k) (i : Is K W H d x) : x = L2.kV k := by
  cases d <;> simp [keyD] at h
  · subst h; exact i
  · subst h; exact i
def putD {κ : Type} [DecidableEq κ] (l : List (κ × D)) (k : κ) (d : D) : List (κ × D) :=
  if (l.any fun kv => decide (kv.1 = k)) = true then l.map (fun kv => if kv.1 = k then (kv.1, d) else kv) else l ++ [(k, d)]
theorem IsP.any {W : Addr → Prop} {k : Key} : ∀ {l : List (Key × D)} {xs : List (Key × V)}, IsP K W H l xs → (xs.any fun kv => decide (kv.1 = k)) = (l.any fun kv => decide (kv.1 = k))
  | [], xs, h => by rw [show xs = [] from h]; rfl
  | (k', d) :: r, xs, h => by
    obtain ⟨x, ys, rfl, h1, h2⟩ := h
    simp only [List.any_cons, IsP.any h2]
theorem IsP.mapP {W : Addr → Prop} {k : Key} {d : D} {v : V} (hv : Is K W H d v) : ∀ {l : List (Key × D)} {xs : List (Key × V)}, IsP K W H l xs → IsP K W H (l.map (fun kv => if kv.1 = k then (kv.1, d) else kv)) (xs.map (fun kv => if kv.1 = k then (kv.1, v) else kv))
  | [], xs, h => by rw [show xs = [] from h]; exact rfl
  | (k', d') :: r, xs, h => by
    obtain ⟨x, ys, rfl, h1, h2⟩ := h
    by_cases hk : k' = k
    · subst hk
      have := IsP.mapP (k := k') hv h2
      simp only [List.map_cons, if_true]
      exact ⟨v, _, rfl, hv, this⟩
    · have := IsP.mapP (k := k) hv h2
      simp only [List.map_cons, hk, if_false]
      exact ⟨x, _, rfl, h1, this⟩
theorem IsP.snoc {W : Addr → Prop} {k : Key} {d : D} {v : V} (hv : Is K W H d v) : ∀ {l : List (Key × D)} {xs : List (Key × V)}, IsP K W H l xs → IsP K W H (l ++ [(k, d)]) (xs ++ [(k, v)])
  | [], xs, h => by rw [show xs = [] from h]; exact ⟨v, [], rfl, hv, rfl⟩
  | (k', d') :: r, xs, h => by
    obtain ⟨x, ys, rfl, h1, h2⟩ := h
    exact ⟨x, ys ++ [(k, v)], rfl, h1, IsP.snoc hv h2⟩
theorem IsP.put {W : Addr → Prop} {k : Key} {d : D} {v : V} {l : List (Key × D)} {xs : List (Key × V)} (h : IsP K W H l xs) (hv : Is K W H d v) : IsP K W H (putD l k d) (putK xs k v) := by
  unfold putD putK
  rw [IsP.any h]
  split
  · exact IsP.mapP hv h
  · exact IsP.snoc hv h
def evDs : List (P × P) → Slots → Option (List (Key × D))
  | [], _ => some []
  | (pk, pv) :: r, env => match pk env, pv env, evDs r env with
    | some dk, some dv, some l => (keyD dk).map fun k => (k, dv) :: l
    | _, _, _ => none
def mergeD (l : List (Key × D)) : List (Key × D) := l.foldl (fun acc kv => putD acc kv.1 kv.2) []
theorem IsP.merge {W : Addr → Prop} : ∀ {l : List (Key × D)} {xs : List (Key × V)} {acc : List (Key × D)} {ac : List (Key × V)}, IsP K W H l xs → IsP K W H acc ac → IsP K W H (l.foldl (fun acc kv => putD acc kv.1 kv.2) acc) (mergeK ac xs)
  | [], xs, acc, ac, h, h' => by rw [show xs = [] from h]; exact h'
  | (k, d) :: r, xs, acc, ac, h, h' => by
    obtain ⟨x, ys, rfl, h1, h2⟩ := h
    exact IsP.merge (acc := putD acc k d) (ac := putK ac k x) h2 (h'.put h1)
def pDisp (l : List (P × P)) : P := fun env => (evDs l env).bind fun kvs => if kvs.length ≤ 15 then some (.dct (mergeD kvs)) else none
inductive DDk (X : Cx) : List (Option Expr) → List Expr → List (P × P) → Prop where
  | nil : DDk X [] [] []
  | cons {k v : Expr} {ks : List (Option Expr)} {vs : List Expr} {pk pv : P} {l : List (P × P)} : POk X k pk → POk X v pv → DDk X ks vs l → DDk X (some k :: ks) (v :: vs) ((pk, pv) :: l)
theorem dd_nil : DDk X [] [] [] := .nil
theorem dd_cons {k v : Expr} {ks : List (Option Expr)} {vs : List Expr} {pk pv : P} {l : List (P × P)} (h1 : POk X k pk) (h2 : POk X v pv) (h3 : DDk X ks vs l) : DDk X (some k :: ks) (v :: vs) ((pk, pv) :: l) := .cons h1 h2 h3
theorem DDk.pps {ks : List (Option Expr)} {vs : List Expr} {l : List (P × P)} (h : DDk X ks vs l) : PPs X pos ks vs (l.map fun z => (rdP X z.1, rdP X z.2)) := by
  induction h with
  | nil => exact pps_nil
  | cons h1 h2 _ ih => exact pps_cons h1 h2 ih
theorem evDs_read {l : List (P × P)} : ∀ {H : Hp} {B : Addr → Prop} {O : List Addr} {kvs : List (Key × D)} {Q : List (V × V) → Hp → Prop}, Stt X.K B H σ env O → evDs l env = some kvs → (∀ (xs : List (Key × V)) H', Grw H H' → IsP X.K (fun a => B a ∨ a ∈ O) H' kvs xs → Q (xs.map fun kv => (L2.kV kv.1, kv.2)) H') →
    tPairs (l.map fun z => (rdP X z.1, rdP X z.2)) σ H Q := by
  induction l with
  | nil =>
    intro H B O kvs Q s he h
    cases he
    exact h [] H Grw.refl rfl
  | cons z l ih =>
    intro H B O kvs Q s he h
    obtain ⟨pk, pv⟩ := z
    unfold evDs at he
    split at he
    · rename_i dk dv kr e1 e2 e3
      simp only [Option.map_eq_some_iff] at he
      obtain ⟨k, hk, rfl⟩ := he
      refine ⟨B, env, O, s, dk, e1, fun x H1 g1 hx => ⟨B, env, O, s.grw g1, dv, e2, fun y H2 g2 hy => ?_⟩⟩
      refine ih ((s.grw g1).grw g2) e3 fun xs H3 g3 hxs => ?_
      have := h ((k, y) :: xs) H3 ((g1.trans g2).trans g3) ⟨y, xs, rfl, hy.grw g3, hxs⟩
      rw [List.map_cons, ← keyD_is hk hx] at this
      exact this
    · cases he
theorem p_disp {ks : List (Option Expr)} {vs : List Expr} {l : List (P × P)} (h : DDk X ks vs l) (hall : ks.all (·.isSome) = true := by rfl) (hl : ks.length = vs.length := by rfl) (h0 : ks ≠ [] := by exact List.cons_ne_nil _ _)
    (h15 : ks.length ≤ 15 := by decide) : POk X (.Dict ks vs pos) (pDisp l) := (pe_disp h.pps hall hl h0 h15).imp fun σ H Q h => by
  obtain ⟨B, env, O, s, d, hp, h⟩ := h
  unfold pDisp at hp
  simp only [Option.bind_eq_some_iff] at hp
  obtain ⟨kvs, e1, hp⟩ := hp
  split at hp
  · rename_i hlen
    cases hp
    intro t ht
    have g : Grw H (upd H t (.dK [])) := fun b o e => by rw [upd_ne (ne_of_none e ht)]; exact e
    have s1 : Stt X.K (fun a => B a ∨ a = t) (upd H t (.dK [])) σ env O := s.grow g (fun a z => z.imp id fun z => by rw [show a = t from z]; exact ht) fun a z => by
      rcases z with z | z
      · obtain ⟨u, e⟩ := s.tr a z; exact ⟨u, g a u e⟩
      · exact ⟨⟨.dK [], True.intro⟩, by rw [show a = t from z]; exact upd_same⟩
    refine evDs_read s1 e1 fun xs H2 g2 hxs => ⟨g2 _ _ upd_same, xs, rfl, ?_, ?_⟩
    · have : ∀ {l : List (Key × D)} {xs : List (Key × V)}, IsP X.K (fun a => (B a ∨ a = t) ∨ a ∈ O) H2 l xs → xs.length = l.length := IsP.length
      rw [this hxs]; exact hlen
    · have nt : ¬ (B t ∨ t ∈ O) := fun z => by
        obtain ⟨u, e⟩ := s.trk t z
        rw [ht] at e; cases e
      refine h (.ref t) _ (fun b o e => ?_) ⟨t, _, rfl, upd_same, nt, IsP.merge (IsP.kp (fun b o hw hb => ⟨?_, fun z => hw (z.imp .inl id)⟩) _ _ hxs) rfl⟩
      · rw [upd_ne (ne_of_none e ht)]
        exact g2 _ _ (g _ _ e)
      · exact (upd_ne fun z : b = t => hw (.inl (.inr z))).trans hb
  · cases hp
end
def keyPy : Key → PyData
  | .inl i => .int i
  | .inr x => .str x
mutual
def toPyR : D → Option PyData
  | .non => some .none
  | .bl b => some (.bool b)
  | .int i => some (.int i)
  | .str s => some (.str s)
  | .tup l => (toPysR l).map .tuple
  | .lst l => (toPysR l).map .list
  | .dct l => (toPyP l).map .dict
  | _ => none
def toPysR : List D → Option (List PyData)
  | [] => some []
  | d :: r => match toPyR d, toPysR r with
    | some x, some xs => some (x :: xs)
    | _, _ => none
def toPyP : List (Key × D) → Option (List (PyData × PyData))
  | [] => some []
  | (k, d) :: r => match toPyR d, toPyP r with
    | some x, some xs => some ((keyPy k, x) :: xs)
    | _, _ => none
end
section
variable {X : Cx} {pins : List (Addr × Obj)} {σ : L2.St} {H : Hp} {s : Shared} {W : Addr → Prop}
theorem not_sys {a : Addr} {o : Obj} (hs : SysD s.heap) (e : s.heap.get? a = some o) (nd : ∀ es ep, o.data ≠ .dict es ep) : a ≠ sysModules := fun z => by
  obtain ⟨o', es, ep, e', d⟩ := hs
  rw [z, e'] at e
  cases e
  exact nd _ _ d
mutual
theorem Is.rd (I : Inv X pins σ H s) (hs : SysD s.heap) : ∀ (d : D) (v : V) (u : Value) (y : PyData), Is X.K W H d v → toPyR d = some y → RelV v u → ∃ as, Reads s.heap u y as ∧ sysModules ∉ as
  | .non, v, u, y, h, e, r => by cases e; cases (show v = _ from h); cases r; exact ⟨_, Reads.none, by simp⟩
  | .bl b, v, u, y, h, e, r => by cases e; cases (show v = _ from h); cases r; exact ⟨_, Reads.bool b, by simp⟩
  | .int i, v, u, y, h, e, r => by cases e; cases (show v = _ from h); obtain ⟨t, rfl⟩ := r; exact ⟨_, Reads.int i t, by simp⟩
  | .str x, v, u, y, h, e, r => by cases e; cases (show v = _ from h); obtain ⟨t, rfl⟩ := r; exact ⟨_, Reads.str x t, by simp⟩
  | .tup l, v, u, y, h, e, r => by
    simp only [toPyR, Option.map_eq_some_iff] at e
    obtain ⟨ys, e, rfl⟩ := e
    obtain ⟨a, xs, rfl, ha, _, il⟩ := h
    cases r
    obtain ⟨its, rv, ⟨o, ho, hc, n, hd⟩, _⟩ := I.tuple (SqT.of ha)
    obtain ⟨as, hr, ns⟩ := IsL.rd I hs l xs its ys il e rv
    exact ⟨_, Reads.tuple ho hc hd hr, ns⟩
  | .lst l, v, u, y, h, e, r => by
    simp only [toPyR, Option.map_eq_some_iff] at e
    obtain ⟨ys, e, rfl⟩ := e
    obtain ⟨a, xs, rfl, ha, _, il⟩ := h
    cases r
    obtain ⟨its, rv, ⟨o, n, ho, hc, _, hd⟩, _⟩ := I.list (SqL.of ha)
    obtain ⟨as, hr, ns⟩ := IsL.rd I hs l xs its ys il e rv
    refine ⟨_, Reads.list ho hc hd hr, fun z => ?_⟩
    rcases List.mem_cons.mp z with z | z
    · exact not_sys hs ho (fun es ep q => by rw [hd] at q; cases q) z.symm
    · exact ns z
  | .dct l, v, u, y, h, e, r => by
    simp only [toPyR, Option.map_eq_some_iff] at e
    obtain ⟨ys, e, rfl⟩ := e
    obtain ⟨a, xs, rfl, ha, _, il⟩ := h
    cases r
    obtain ⟨_, na, vs, kv, o, es, ep, ho, hx, hd, _, hp, _⟩ := I.hok a _ ha
    obtain ⟨as, bs, h1, h2, n1, n2⟩ := IsP.rd I hs l xs es.toList vs ys il e kv hp
    refine ⟨_, Reads.dict ho hx.1 hd h1 h2, fun z => ?_⟩
    rcases List.mem_append.mp z with z | z
    · rcases List.mem_cons.mp z with z | z
      · rw [← z] at na
        simp at na
      · exact n1 z
    · exact n2 z
  | .dcT l, v, u, y, h, e, r => by cases e
  | .dcL l, v, u, y, h, e, r => by cases e
  | .ro l, v, u, y, h, e, r => by cases e
  | .fn l, v, u, y, h, e, r => by cases e
  | .opq l, v, u, y, h, e, r => by cases e
  | .lam _ _, v, u, y, h, e, r => by cases e
theorem IsL.rd (I : Inv X pins σ H s) (hs : SysD s.heap) : ∀ (l : List D) (xs : List V) (us : List Value) (ys : List PyData), IsL X.K W H l xs → toPysR l = some ys → Vals xs us → ∃ as, ReadsAll s.heap us ys as ∧ sysModules ∉ as
  | [], xs, us, ys, h, e, r => by
    cases e
    rw [show xs = [] from h] at r
    cases r
    exact ⟨_, ReadsAll.nil, by simp⟩
  | d :: l, xs, us, ys, h, e, r => by
    obtain ⟨x, zs, rfl, h1, h2⟩ := h
    simp only [toPysR] at e
    cases e1 : toPyR d with
    | none => rw [e1] at e; cases e
    | some y1 =>
      cases e2 : toPysR l with
      | none => rw [e1, e2] at e; cases e
      | some y2 =>
        rw [e1, e2] at e
        cases e
        cases r with
        | cons r1 r2 =>
          obtain ⟨as, q1, n1⟩ := Is.rd I hs d x _ y1 h1 e1 r1
          obtain ⟨bs, q2, n2⟩ := IsL.rd I hs l zs _ y2 h2 e2 r2
          exact ⟨_, ReadsAll.cons q1 q2, fun z => (List.mem_append.mp z).elim n1 n2⟩
theorem IsP.rd (I : Inv X pins σ H s) (hs : SysD s.heap) : ∀ (l : List (Key × D)) (xs : List (Key × V)) (es : List DictEntry) (vs : List (Key × Value)) (ys : List (PyData × PyData)), IsP X.K W H l xs → toPyP l = some ys → KV xs vs → Pairs (mixKind X.prog X.w) es vs →
    ∃ as bs, ReadsAll s.heap (es.map (·.key)) (ys.map (·.1)) as ∧ ReadsAll s.heap (es.map (·.val)) (ys.map (·.2)) bs ∧ sysModules ∉ as ∧ sysModules ∉ bs
  | [], xs, es, vs, ys, h, e, r, p => by
    cases e
    rw [show xs = [] from h] at r
    cases r
    cases p
    exact ⟨_, _, ReadsAll.nil, ReadsAll.nil, by simp, by simp⟩
  | (k, d) :: l, xs, es, vs, ys, h, e, r, p => by
    obtain ⟨x, zs, rfl, h1, h2⟩ := h
    simp only [toPyP] at e
    cases e1 : toPyR d with
    | none => rw [e1] at e; cases e
    | some y1 =>
      cases e2 : toPyP l with
      | none => rw [e1, e2] at e; cases e
      | some y2 =>
        rw [e1, e2] at e
        cases e
        cases r with
        | cons r1 r2 =>
          cases p with
          | @cons en _ _ _ p1 p2 p3 =>
            obtain ⟨as, bs, q1, q2, n1, n2⟩ := IsP.rd I hs l zs _ _ y2 h2 e2 r2 p3
            obtain ⟨cs, q3, n3⟩ := Is.rd I hs d x _ y1 h1 e1 r1.2
            have hk : ∃ cs, Reads s.heap en.key (keyPy k) cs ∧ sysModules ∉ cs := by
              rw [← r1.1] at p1
              rcases keyIs_shape p1 with ⟨i, t, rfl, ek⟩ | ⟨z, t, rfl, ek⟩
              · exact ⟨[], ek ▸ Reads.int i t, by simp⟩
              · exact ⟨[], ek ▸ Reads.str z t, by simp⟩
            obtain ⟨ds, q4, n4⟩ := hk
            refine ⟨_, _, ReadsAll.cons q4 q1, ReadsAll.cons (by show Reads s.heap en.val y1 cs; rw [p2]; exact q3) q2, fun z => (List.mem_append.mp z).elim n4 n1, fun z => (List.mem_append.mp z).elim n3 n2⟩
end
variable {p : P} {ps : List P} {e : Expr} {pos pp : Pos} {k : Nat}
def rRepr2 (K : PySem.W.Frag) : List V → Hp → VK → Prop := fun xs H Q => ∃ x d y, xs = [x] ∧ Is K NoW H d x ∧ toPyR d = some y ∧ y.showable = true ∧ y.depth ≤ 60 ∧ y.shown.length ≤ sizeLine ∧ Q (.str y.shown) H
theorem call_repr2 (hr : Room k X.A) (hg : X.A.guards = some []) (hsys : SysD X.base) : CallR X (.builtin "repr") (rRepr2 X.K) := by
  intro pins s σ H xs us Q I r h
  obtain ⟨x, d, y, rfl, hd, h0, h1, h3, h4, q⟩ := h
  obtain ⟨u, rfl, ru⟩ := r.one
  have fin : ∀ t tk, EP X pins σ Q (.str y.shown t) { s with toks := tk } := fun t tk => ⟨.str y.shown, H, I.tok tk, ⟨t, rfl⟩, q⟩
  have hs : SysD s.heap := hsys.keeps I.bk
  have big : ∀ a, u = .ref a → wpAny (model X.prog X.w) X.A (call (.builtin "repr") [u]) (EP X pins σ Q) X.xe s := fun a e => by
    subst e
    obtain ⟨as, rr, ns⟩ := Is.rd I hs d x _ y hd h0 ru
    exact repr_of_reads' rr h1 (fun _ => ns) hg (by have := hr.units; omega) (fun _ _ e => e) (fun h' u tk hk => ⟨.str _, H, I.kept (t' := tk) hk, ⟨u, rfl⟩, q⟩) h4
  cases d with
  | non => cases h0; cases (show x = _ from hd); cases ru; exact PySem.P.repr_of_none (fin _ _)
  | bl b => cases h0; cases (show x = _ from hd); cases ru; exact PySem.P.repr_of_bool (fin _ _)
  | int i =>
    cases h0
    cases (show x = _ from hd)
    obtain ⟨t, rfl⟩ := ru
    exact PySem.P.repr_of_int (by simpa [PyData.showable] using h1) (fin _ _)
  | str z =>
    cases h0
    cases (show x = _ from hd)
    obtain ⟨t, rfl⟩ := ru
    exact PySem.P.repr_of_str (fin _ _) h4
  | lst l => obtain ⟨a, _, rfl, _⟩ := id hd; cases ru; exact big a rfl
  | tup l => obtain ⟨a, _, rfl, _⟩ := id hd; cases ru; exact big a rfl
  | dct l => obtain ⟨a, _, rfl, _⟩ := id hd; cases ru; exact big a rfl
  | dcT l => cases h0
  | dcL l => cases h0
  | ro l => cases h0
  | fn l => cases h0
  | opq l => cases h0
  | lam _ _ => cases h0
def reprF2 : List D → Option V
  | [d] => match toPyR d with
    | some y => if y.showable && decide (y.depth ≤ 60) && decide (y.shown.length ≤ 16777216) then some (.str y.shown) else none
    | none => none
  | _ => none
theorem cal_repr2 : CalS X.K (rRepr2 X.K) reprF2 := fun H xs ds v Q h e q => by
  unfold reprF2 at e
  split at e
  · rename_i d
    split at e
    · rename_i y ey
      split at e
      · rename_i hz
        cases e
        simp only [Bool.and_eq_true, decide_eq_true_eq] at hz
        obtain ⟨x, rfl, hx⟩ := h.one
        exact ⟨x, d, y, rfl, hx, ey, hz.1.1, hz.1.2, by rw [sizeLine_eq]; exact hz.2, q⟩
      · cases e
    · cases e
  · cases e
theorem p_repr2 (hm : X.mg "repr" = none) (hr : Room k X.A) (hgd : X.A.guards = some []) (hsys : SysD X.base) (ha : ABk X [e] ps) (hg : Gl X "repr" := by rfl) (he : starEach [e] X.env = (false, eval e X.env) :: starEach [] X.env := by rfl) (hpl : (backTo pos (starEach [] X.env)).any (·.1) = false := by rfl) : POk X (.Call (.Name "repr" pp) [e] [] pos) (pCall reprF2 ps) :=
  p_callB (call_repr2 hr hgd hsys) cal_repr2 hg hm (by decide +kernel) ha (by decide) (by decide) he hpl
def vD : D → Option V
  | .non => some .non
  | .bl b => some (.bl b)
  | .int i => some (.int i)
  | .str x => some (.str x)
  | _ => none
def vDs : List D → Option (List V)
  | [] => some []
  | d :: r => match vD d, vDs r with
    | some v, some vs => some (v :: vs)
    | _, _ => none
def sqV (d : D) : Option (List V) := match d with
  | .lst l => vDs l
  | .tup l => vDs l
  | _ => none
def inF (neg : Bool) (a b : D) : Option V := match vD a, sqV b with
  | some v, some vs => some (.bl (if neg then !L2.inV v vs else L2.inV v vs))
  | _, _ => none
variable {a b : Expr} {q : P}
end
end PL
namespace PL
open PySem PySem.Spec PyProof.Rows L2
/-- t: a tuple -/
def SqK (t : Bool) (K : PySem.W.Frag) (H : Hp) (a : Addr) (xs : List V) : Prop := match t with
  | true => SqT K H a xs
  | false => SqL K H a xs
def ItAt (t : Bool) (it a : Addr) (i : Nat) (h : Heap) : Prop := match t with
  | true => h.IsTupleIter it a i
  | false => h.IsListIter it a i
theorem ItAt.at {t : Bool} {it a : Addr} {i : Nat} {h h' : Heap} (x : ItAt t it a i h) (k : ∀ o, h.get? it = some o → h'.get? it = some o) : ItAt t it a i h' := by
  cases t
  · exact Heap.IsListIter.at x k
  · exact Heap.IsTupleIter.at x k
end PL
namespace PL
open PySem PySem.Spec PyProof.Rows L2
section
variable {X : Cx} {w : WX} {H : Hp} {σ : L2.St} {p q : P} {K : PySem.W.Frag} {B : Addr → Prop} {O : List Addr} {env : Slots} {tg : Expr} {kk : Nat} {tpos : Pos} {elts : List Expr}
/-- a frozen sequence's value, as a walk sees it -/
theorem Is.seq {W : Addr → Prop} {d : D} {v : V} {l : List D} (h : Is K W H d v) (e : sqD d = some l) : ∃ (t : Bool) (a : Addr) (xs : List V), v = .ref a ∧ (∃ o, H a = some o) ∧ ¬ W a ∧ IsL K W H l xs ∧ ∀ H2 : Hp, H2 a = H a → SqK t K H2 a xs := by
  cases d with
  | lst l' =>
    cases e
    obtain ⟨a, xs, rfl, ha, nw, il⟩ := h
    exact ⟨false, a, xs, rfl, ⟨_, ha⟩, nw, il, fun H2 e => SqL.of (e.trans ha)⟩
  | tup l' =>
    cases e
    obtain ⟨a, xs, rfl, ha, nw, il⟩ := h
    exact ⟨true, a, xs, rfl, ⟨_, ha⟩, nw, il, fun H2 e => SqT.of (e.trans ha)⟩
  | _ => cases e
end
end PL
namespace PL
open PySem PySem.Spec PyProof.Rows L2
mutual
def rok : D → Bool
  | .non => true
  | .bl _ => true
  | .int i => decide (i.natAbs < 10 ^ 26)
  | .str x => x.cps.toList.all fun c => decide (c < 4294967296)
  | .tup l => rokL l
  | .lst l => rokL l
  | .dct l => rokP l
  | _ => false
def rokL : List D → Bool
  | [] => true
  | d :: r => rok d && rokL r
def rokP : List (Key × D) → Bool
  | [] => true
  | (k, d) :: r => rok d && rokP r && (match k with | .inl i => decide (i.natAbs < 10 ^ 26) | .inr x => x.cps.toList.all fun c => decide (c < 4294967296))
end
end PL
namespace PL
open PySem PySem.Spec PyProof.Rows L2
end PL
namespace PL
open PySem PySem.Spec PyProof.Rows L2
section
variable {X : Cx} {w : WX} {H : Hp} {σ : L2.St} {e : Expr} {es : List Expr} {p q r : P} {ps : List P} {pos pp : Pos} {K : PySem.W.Frag} {mg : Str → Option Value} {B : Addr → Prop} {O : List Addr} {env : Slots} {k : Nat}
theorem frz_of {f : M C} {σ : L2.St} {H : Hp} {Q : VK} (h : rdE X w (eFrz f) σ H Q) : rdE X w f σ H Q := by
  obtain ⟨B, env, O, s, h⟩ := h
  refine ⟨B, env, O, s, ?_⟩
  unfold eFrz at h
  cases ef : f env with
  | no => rw [ef] at h; exact h
  | err x e => rw [ef] at h; exact h
  | ok c e => rw [ef] at h; exact fun v H' A O' r => h v H' [] O' r.frz
theorem s_setCf {i : Nat} {y : Str} {py spos : Pos} {elt tg iter : Expr} {ifs : List Expr} {scope : Scope} {own : List (Str × Nat)} {js : List Nat} {t : Tg} {q : PB} {p : P} {src : PLs} {pn : List Nat} (hc : X.calm = true) (hN : X.N.Nodup) (hy : X.N[i]? = some y) (hyl : X.env.scope.names.lookup y = some .local)
    (hsw : swapsWith (.ListComp elt [⟨tg, iter, ifs, 0⟩] scope pos) (some (.Name y py)) spos.line X.env = pure true) (hi : IGk X tg iter src) (ok : BlkOk X.N X.env.scope scope own)
    (hg : ∀ (s : Shared) (H : Hp) (C : Addr) (cl : List (Str × Addr)) (fp : List Addr), GOk (X.blk s H scope (compEnvC scope cl C X.env) fp) true tg js t) (ht : ∀ (s : Shared) (H : Hp) (C : Addr) (cl : List (Str × Addr)) (fp : List Addr), TsOk (X.blk s H scope (compEnvC scope cl C X.env) fp) ifs q)
    (he : ∀ (s : Shared) (H : Hp) (C : Addr) (cl : List (Str × Addr)) (fp : List Addr), POk (X.blk s H scope (compEnvC scope cl C X.env) fp) elt p) (hj : ∀ j ∈ js, j ∈ own.map (·.2)) (hp : i ∉ pn := by decide) (hs : ∀ x, foldedSetIterable iter X.env x = pure x := by intro _; rfl) :
    SOk X w pn (.Assign [.Name y py] (.ListComp elt [⟨tg, iter, ifs, 0⟩] scope pos) spos) (sSet i (eFrz (eF (fComp (own.map (·.2)) t q p src)))) := ⟨fun pins s σ H D I h => (s_setLc (w := w) (pn := pn) hc hN hy hyl hsw hi ok hg ht he hj hs).run pins s σ H D I (by
  obtain ⟨B, env, O, st, h⟩ := h
  have q : rdE X w (eFrz (eF (fComp (own.map (·.2)) t q p src))) σ H (fun v H' => D.nx (σ.set i (some v)) H') := rdE_s st h fun c e v H' A O' r h => by
    obtain ⟨O2, s2, f2⟩ := r.put (i := i) (by rw [r.len, I.len]; exact lt_of_N hy)
    exact h _ H' O2 s2 f2 (Pin.set hp)
  exact eF_of σ H _ (frz_of q))⟩
end
end PL
namespace PL
open PySem PySem.Spec PyProof.Rows L2
end PL
namespace PL
open PySem PySem.Spec PyProof.Rows L2
def tputD (l : List (List Key × D)) (k : List Key) (d : D) : List (List Key × D) :=
  if (l.any fun kv => decide (kv.1 = k)) = true then l.map (fun kv => if kv.1 = k then (kv.1, d) else kv) else l ++ [(k, d)]
section
variable {X : Cx} {w : WX} {H : Hp} {σ : L2.St} {e : Expr} {es : List Expr} {p q r : P} {ps : List P} {pos pp : Pos} {K : PySem.W.Frag} {mg : Str → Option Value} {B : Addr → Prop} {O : List Addr} {env : Slots} {k : Nat} {W : Addr → Prop}
theorem IsQ.any {k : List Key} : ∀ {l : List (List Key × D)} {kvs : List (List Key × V)}, IsQ K W H l kvs → (l.any fun kv => decide (kv.1 = k)) = kvs.any fun kv => decide (kv.1 = k)
  | [], kvs, h => by rw [show kvs = [] from h]; rfl
  | (k0, d0) :: r, kvs, h => by
    obtain ⟨x, ys, rfl, h1, h2⟩ := h
    simp only [List.any_cons, IsQ.any h2]
theorem IsQ.repl {k : List Key} {d : D} {v : V} (hv : Is K W H d v) : ∀ {l : List (List Key × D)} {kvs : List (List Key × V)}, IsQ K W H l kvs → IsQ K W H (l.map fun kv => if kv.1 = k then (kv.1, d) else kv) (kvs.map fun kv => if kv.1 = k then (kv.1, v) else kv)
  | [], kvs, h => by rw [show kvs = [] from h]; exact rfl
  | (k0, d0) :: r, kvs, h => by
    obtain ⟨x, ys, rfl, h1, h2⟩ := h
    have ih := IsQ.repl (k := k) hv h2
    rw [List.map_cons, List.map_cons]
    by_cases e : k0 = k
    · rw [if_pos e, if_pos e]; exact ⟨v, _, rfl, hv, ih⟩
    · rw [if_neg e, if_neg e]; exact ⟨x, _, rfl, h1, ih⟩
theorem IsQ.snoc {k : List Key} {d : D} {v : V} (hv : Is K W H d v) : ∀ {l : List (List Key × D)} {kvs : List (List Key × V)}, IsQ K W H l kvs → IsQ K W H (l ++ [(k, d)]) (kvs ++ [(k, v)])
  | [], kvs, h => by rw [show kvs = [] from h]; exact ⟨v, [], rfl, hv, rfl⟩
  | (k0, d0) :: r, kvs, h => by
    obtain ⟨x, ys, rfl, h1, h2⟩ := h
    exact ⟨x, _, rfl, h1, IsQ.snoc hv h2⟩
theorem IsQ.put {k : List Key} {d : D} {v : V} {l : List (List Key × D)} {kvs : List (List Key × V)} (h : IsQ K W H l kvs) (hv : Is K W H d v) : IsQ K W H (tputD l k d) (putK kvs k v) := by
  unfold tputD putK
  rw [h.any]
  split
  · exact h.repl hv
  · exact h.snoc hv
theorem Rd.grw {H H' : Hp} {a : Addr} {u : HO} (h : Rd H a u) (g : Grw H H') : Rd H' a u := h.imp (g a _) fun ⟨o, z⟩ => ⟨o, g a _ z⟩
end
end PL
namespace PL
open PySem PySem.Spec PyProof.Rows L2
end PL
namespace PL
open PySem PySem.Spec PyProof.Rows L2
end PL
namespace PL
open PySem PySem.Spec PyProof.Rows L2
def kp1 : Key → PyData
  | .inl i => .int i
  | .inr x => .str x
def kpy (k : List Key) : PyData := .tuple (k.map kp1)
def maxKs (k0 : List Key) (ks : List (List Key)) : List Key := ks.foldl (fun a y => if PySem.W.dataLt (kpy a) (kpy y) then y else a) k0
end PL
namespace PL
open PySem PySem.Spec PyProof.Rows L2
end PL
namespace PL
open PySem PySem.Spec PyProof.Rows L2
def Tr (l : List Int) : Prop := ∀ x, l.getLast? = some x → x ≠ 0
theorem tr_nil : Tr [] := nofun
theorem tr_trim (l : List Int) : Tr (trimI l) := fun x h => trimI_last h
theorem tr_cons {a b : Int} {l : List Int} (h : Tr (a :: b :: l)) : Tr (b :: l) := fun x e => h x (by rw [List.getLast?_cons_cons]; exact e)
def gcdF (g : Nat) (l : List Int) : Nat := l.foldl (fun g x => Int.gcd g x) g
theorem gcdF_cons (g : Nat) (x : Int) (l : List Int) : gcdF g (x :: l) = gcdF (Int.gcd g x) l := rfl
def divL (l : List Int) (c : Int) : List Int := l.map fun y => y.fdiv c
theorem fdiv_dvd {y c : Int} (h : c ∣ y) : c * y.fdiv c = y := Int.mul_fdiv_cancel' h
theorem lend_E {m : List C → Out C} {fs : List (M C)} {env : Slots} {c c' : C} {ds : List D} {v : D} {o : List (Option C)} (h0 : env[0]? = some (some c)) (h1 : evMs fs env = .ok (fz ds) env) (h2 : m (c :: fz ds) = .ok (.frz v) (some c' :: o)) : eFnL m 0 fs env = .ok (.frz v) (env.set 0 (some c')) := by
  unfold eFnL
  rw [h0]
  simp only [h1, Out.bind, lentTo, h0, h2, C.toD]
theorem evM_1 {p : P} {env : Slots} {d : D} (h : p env = some d) : evMs [eP p] env = .ok (fz [d]) env := by
  simp only [evMs_c, eP_of h, evMs_n, Out.bind]
  rfl
/-- a draw of the laws, by its numbers -/
theorem draw_gen {A B M1 M2 Dv : Int} (hA : -(2 ^ 64) < A) (hA2 : A < 2 ^ 64) (h1 : 0 < M1) (h1b : M1 ≤ 4294967296) (h2 : 0 < M2) (h3 : 0 < Dv) (h3b : Dv < 1073741824) :
    DrawOk (bodyM 3 [0] 2 (sSeq (sIf (tP (qOf (pOp (cmpI iGt) (bKf (kIx (kV 0) (pK (.int 0)))) (pK (.int 0))))) (sSeq (sAsg (eP (pDm (bKf (kIx (kV 0) (pK (.int 0)))) (pV 1))) (gTupD 2 (gsCons (gIx 0 (paV 0) (pK (.int 0))) (gsCons (gV false 2) gsNil)))) (sRet (eP (pV 2)))) (sNx)) (sSeq (sAsg (eP (pOp modI (pCall intF [pOp addI (pOp mulI (bKf (kIx (kV 0) (pK (.int 1)))) (pK (.int A))) (pK (.int B))]) (pK (.int M1)))) (gIx 0 (paV 0) (pK (.int 1)))) (sRet (eP (pOp modI (pCall intF [pOp fdivI (pOp modI (pCall intF [pOp mulI (bKf (kIx (kV 0) (pK (.int 1)))) (bKf (kIx (kV 0) (pK (.int 1))))]) (pK (.int M2))) (pK (.int Dv))]) (pV 1))))))) := by
  rintro c s ⟨a, b, rfl, hb, hb2⟩ hs hs2
  by_cases ha : 0 < a
  · refine ⟨a % s, pot (a / s) b, ?_, Int.emod_nonneg _ (by omega), Int.emod_lt_of_pos _ hs, _, _, rfl, hb, hb2⟩
    have hp : Builtin.divisionGoesByPylong a s = false := PyProof.noPylong_small (by omega)
    simp [pot, PL.bodyM, PL.startE, PL.outsE, PL.sSeq, PL.sNx, PL.sBk, PL.sCt, PL.sNo, PL.sOf, PL.sSet, PL.sRet, PL.sRetN, PL.sDrop, PL.sIf, PL.sAsg, PL.sAug, PL.sAugIx, PL.sPar, PL.sFor, PL.eP, PL.eF, PL.eFrz, PL.eV, PL.eMv, PL.eFn, PL.eFnO, PL.eFnL, PL.lentTo, PL.eLst, PL.eTup, PL.eCall, PL.eOp, PL.eBin, PL.eIx, PL.eIf, PL.eAnd, PL.eOr, PL.eApp, PL.eAppP, PL.ePop, PL.eExt, PL.eExtM, PL.eCat, PL.eRep, PL.catD, PL.repD, PL.eComp, PL.tP, PL.tOfE, PL.tAnd, PL.tOr, PL.tNot, PL.pV, PL.bV, PL.pK, PL.pOp, PL.pChain, PL.qOf, PL.qAnd, PL.qOr, PL.qNot, PL.pAnd, PL.pOr, PL.pNot, PL.pIf, PL.pNeg, PL.pCall, PL.pFn, PL.pFnB, PL.pFnK, PL.pick, PL.pDm, PL.dmD, PL.pIx, PL.ixD, L2.atI, L2.ixN, PL.pSl, PL.pTup, PL.pF, PL.lP, PL.lKf, PL.frzs, PL.kV, PL.kIx, PL.ixC, PL.pKf, PL.bKf, PL.evPs_n, PL.evPs_c, PL.evMs_n, PL.evMs_c, PL.fCat, PL.fRep, PL.fSl, PL.evO, PL.fRev, PL.fSq, PL.sqD, PL.fList, PL.pTupL, PL.fComp, PL.enumS, PL.enumP, PL.zipP, PL.rngP, PL.rngM, PL.rngL, PL.mSq, PL.mP, PL.gV, PL.gTupD, PL.gsCons, PL.gsNil, PL.gIx, PL.paV, PL.paIx, PL.ownAt, PL.setAt, PL.getP, PL.setP, PL.intOf, PL.isFree, PL.wipeE, PL.freeE, PL.C.toD, PL.C.toDs, PL.ofV, PL.addI, PL.subI, PL.mulI, PL.fdivI, PL.modI, PL.powI, PL.cmpI, PL.iLt, PL.iLe, PL.iGt, PL.iGe, PL.eqV', PL.neV', PL.isN, PL.notN, PL.isNonD, PL.lenF, PL.absF, PL.intF, PL.strF, PL.maxF, PL.minF, PL.sumF, PL.allF, PL.anyF, PL.isiF, PL.clsD, PL.tyN, PL.isSubN, PL.intsOf, PL.blsOf, PL.flatD, PL.Out.bind, ha, hs, hp]
  · have n0 : (0 : Int) ≤ (b * A + B) % M1 := Int.emod_nonneg _ (by omega)
    have n1 : (b * A + B) % M1 < M1 := Int.emod_lt_of_pos _ h1
    generalize hn : (b * A + B) % M1 = n at n0 n1
    refine ⟨(n * n).fmod M2 |>.fdiv Dv |>.fmod s, pot a n, ?_, ?_, ?_, _, _, rfl, n0, by omega⟩
    · have m1 : mulOk b A = true := mulOk_r hA hA2
      have m2 : mulOk n n = true := mulOk_r (by omega) (by omega)
      have d1 : divOk ((n * n).fmod M2) Dv = true := divOk_small (by omega) (by omega)
      have f1 : (b * A + B).fmod M1 = n := by rw [Int.fmod_eq_emod_of_nonneg _ (by omega), hn]
      have s0 : s ≠ 0 := by omega
      have k1 : M1 ≠ 0 := by omega
      have k2 : M2 ≠ 0 := by omega
      simp [pot, PL.bodyM, PL.startE, PL.outsE, PL.sSeq, PL.sNx, PL.sBk, PL.sCt, PL.sNo, PL.sOf, PL.sSet, PL.sRet, PL.sRetN, PL.sDrop, PL.sIf, PL.sAsg, PL.sAug, PL.sAugIx, PL.sPar, PL.sFor, PL.eP, PL.eF, PL.eFrz, PL.eV, PL.eMv, PL.eFn, PL.eFnO, PL.eFnL, PL.lentTo, PL.eLst, PL.eTup, PL.eCall, PL.eOp, PL.eBin, PL.eIx, PL.eIf, PL.eAnd, PL.eOr, PL.eApp, PL.eAppP, PL.ePop, PL.eExt, PL.eExtM, PL.eCat, PL.eRep, PL.catD, PL.repD, PL.eComp, PL.tP, PL.tOfE, PL.tAnd, PL.tOr, PL.tNot, PL.pV, PL.bV, PL.pK, PL.pOp, PL.pChain, PL.qOf, PL.qAnd, PL.qOr, PL.qNot, PL.pAnd, PL.pOr, PL.pNot, PL.pIf, PL.pNeg, PL.pCall, PL.pFn, PL.pFnB, PL.pFnK, PL.pick, PL.pDm, PL.dmD, PL.pIx, PL.ixD, L2.atI, L2.ixN, PL.pSl, PL.pTup, PL.pF, PL.lP, PL.lKf, PL.frzs, PL.kV, PL.kIx, PL.ixC, PL.pKf, PL.bKf, PL.evPs_n, PL.evPs_c, PL.evMs_n, PL.evMs_c, PL.fCat, PL.fRep, PL.fSl, PL.evO, PL.fRev, PL.fSq, PL.sqD, PL.fList, PL.pTupL, PL.fComp, PL.enumS, PL.enumP, PL.zipP, PL.rngP, PL.rngM, PL.rngL, PL.mSq, PL.mP, PL.gV, PL.gTupD, PL.gsCons, PL.gsNil, PL.gIx, PL.paV, PL.paIx, PL.ownAt, PL.setAt, PL.getP, PL.setP, PL.intOf, PL.isFree, PL.wipeE, PL.freeE, PL.C.toD, PL.C.toDs, PL.ofV, PL.addI, PL.subI, PL.mulI, PL.fdivI, PL.modI, PL.powI, PL.cmpI, PL.iLt, PL.iLe, PL.iGt, PL.iGe, PL.eqV', PL.neV', PL.isN, PL.notN, PL.isNonD, PL.lenF, PL.absF, PL.intF, PL.strF, PL.maxF, PL.minF, PL.sumF, PL.allF, PL.anyF, PL.isiF, PL.clsD, PL.tyN, PL.isSubN, PL.intsOf, PL.blsOf, PL.flatD, PL.Out.bind, ha, hs, f1, m1, m2, d1, s0, k1, k2]
    · rw [Int.fmod_eq_emod_of_nonneg _ (by omega)]; exact Int.emod_nonneg _ (by omega)
    · rw [Int.fmod_eq_emod_of_nonneg _ (by omega)]; exact Int.emod_lt_of_pos _ hs
theorem draw_p {m : List C → Out C} (hm : DrawOk m) {env : Slots} {c : C} {p : P} {s : Int} (h0 : env[0]? = some (some c)) (hp : p env = some (.int s)) (hc : PotOk c) (hs : 0 < s) (hs2 : s < 1073741824) :
    ∃ r c', eFnL m 0 [eP p] env = .ok (.frz (.int r)) (env.set 0 (some c')) ∧ 0 ≤ r ∧ r < s ∧ PotOk c' := by
  obtain ⟨r, c', h1, h2, h3, h4⟩ := hm c s hc hs hs2
  exact ⟨r, c', lend_E (ds := [.int s]) h0 (evM_1 hp) h1, h2, h3, h4⟩
/-- the pot of the laws, by its numbers -/
theorem pot_gen {X Y A B Z M1 M2 : Int} (hM1 : 0 < M1) (hM2 : 0 < M2) (hM2b : M2 < 4294967296) (hA : -(2 ^ 64) < A) (hA2 : A < 2 ^ 64) (hB : -(2 ^ 64) < B) (hB2 : B < 2 ^ 64) (hX : -(2 ^ 64) < X) (hX2 : X < 2 ^ 64) (ns : List Int) :
    ∃ c o, (bodyM 3 [] 2 (sSeq (sSet 2 (eP (pIf (qOf (pOp (cmpI iLt) (pV 1) (pCall lenF [pV 0]))) (pCall absF [pIx (pV 0) (pV 1)]) (pOp addI (pOp mulI (pK (.int X)) (pV 1)) (pK (.int Y)))))) (sRet (eF (evPs [pCall maxF [pK (.int 0), pOp subI (pV 2) (pOp powI (pK (.int 10)) (pK (.int 18)))], pOp addI (pOp modI (pCall intF [pOp addI (pOp addI (pOp mulI (pOp modI (pCall intF [pV 2]) (pK (.int M1))) (pK (.int A))) (pOp mulI (pK (.int B)) (pV 1))) (pK (.int Z))]) (pK (.int M2))) (pK (.int 1))]))))) [.frz (.ro ns), .frz (.int 0)] = .ok c o ∧ PotOk c := by
  have fin : ∀ cell : Int, ∃ c, eF (evPs [pCall maxF [pK (.int 0), pOp subI (pV 2) (pOp powI (pK (.int 10)) (pK (.int 18)))], pOp addI (pOp modI (pCall intF [pOp addI (pOp addI (pOp mulI (pOp modI (pCall intF [pV 2]) (pK (.int M1))) (pK (.int A))) (pOp mulI (pK (.int B)) (pV 1))) (pK (.int Z))]) (pK (.int M2))) (pK (.int 1))]) [some (.frz (.ro ns)), some (.frz (.int 0)), some (.frz (.int cell))] = .ok c [some (.frz (.ro ns)), some (.frz (.int 0)), some (.frz (.int cell))] ∧ PotOk c := fun cell => by
    have q0 : (0 : Int) ≤ (cell.fmod M1 * A + B * 0 + Z).fmod M2 := by rw [Int.fmod_eq_emod_of_nonneg _ (by omega)]; exact Int.emod_nonneg _ (by omega)
    have q1 : (cell.fmod M1 * A + B * 0 + Z).fmod M2 < M2 := by rw [Int.fmod_eq_emod_of_nonneg _ (by omega)]; exact Int.emod_lt_of_pos _ hM2
    have m1 : mulOk (cell.fmod M1) A = true := mulOk_r hA hA2
    have m2 : mulOk B 0 = true := mulOk_l hB hB2
    have k1 : M1 ≠ 0 := by omega
    have k2 : M2 ≠ 0 := by omega
    refine ⟨pot (if cell - 10 ^ 18 > 0 then cell - 10 ^ 18 else 0) ((cell.fmod M1 * A + B * 0 + Z).fmod M2 + 1), ?_, _, _, rfl, by omega, by omega⟩
    simp [PL.bodyM, PL.startE, PL.outsE, PL.sSeq, PL.sNx, PL.sBk, PL.sCt, PL.sNo, PL.sOf, PL.sSet, PL.sRet, PL.sRetN, PL.sDrop, PL.sIf, PL.sAsg, PL.sAug, PL.sAugIx, PL.sPar, PL.sFor, PL.eP, PL.eF, PL.eFrz, PL.eV, PL.eMv, PL.eFn, PL.eFnO, PL.eFnL, PL.lentTo, PL.eLst, PL.eTup, PL.eCall, PL.eOp, PL.eBin, PL.eIx, PL.eIf, PL.eAnd, PL.eOr, PL.eApp, PL.eAppP, PL.ePop, PL.eExt, PL.eExtM, PL.eCat, PL.eRep, PL.catD, PL.repD, PL.eComp, PL.tP, PL.tOfE, PL.tAnd, PL.tOr, PL.tNot, PL.pV, PL.bV, PL.pK, PL.pOp, PL.pChain, PL.qOf, PL.qAnd, PL.qOr, PL.qNot, PL.pAnd, PL.pOr, PL.pNot, PL.pIf, PL.pNeg, PL.pCall, PL.pFn, PL.pFnB, PL.pFnK, PL.pick, PL.pDm, PL.dmD, PL.pIx, PL.ixD, L2.atI, L2.ixN, PL.pSl, PL.pTup, PL.pF, PL.lP, PL.lKf, PL.frzs, PL.kV, PL.kIx, PL.ixC, PL.pKf, PL.bKf, PL.evPs_n, PL.evPs_c, PL.evMs_n, PL.evMs_c, PL.fCat, PL.fRep, PL.fSl, PL.evO, PL.fRev, PL.fSq, PL.sqD, PL.fList, PL.pTupL, PL.fComp, PL.enumS, PL.enumP, PL.zipP, PL.rngP, PL.rngM, PL.rngL, PL.mSq, PL.mP, PL.gV, PL.gTupD, PL.gsCons, PL.gsNil, PL.gIx, PL.paV, PL.paIx, PL.ownAt, PL.setAt, PL.getP, PL.setP, PL.intOf, PL.isFree, PL.wipeE, PL.freeE, PL.C.toD, PL.C.toDs, PL.ofV, PL.addI, PL.subI, PL.mulI, PL.fdivI, PL.modI, PL.powI, PL.cmpI, PL.iLt, PL.iLe, PL.iGt, PL.iGe, PL.eqV', PL.neV', PL.isN, PL.notN, PL.isNonD, PL.lenF, PL.absF, PL.intF, PL.strF, PL.maxF, PL.minF, PL.sumF, PL.allF, PL.anyF, PL.isiF, PL.clsD, PL.tyN, PL.isSubN, PL.intsOf, PL.blsOf, PL.flatD, PL.Out.bind, m1, m2, pot, fz_cons, k1, k2]
  by_cases h : 0 < ns.length
  · obtain ⟨c, h1, h2⟩ := fin (if ns[0] < 0 then -ns[0] else ns[0])
    refine ⟨c, _, body_rt (e := [some (.frz (.ro ns)), some (.frz (.int 0)), some (.frz (.int (if ns[0] < 0 then -ns[0] else ns[0])))]) ?_, h2⟩
    rw [show startE 3 [.frz (.ro ns), .frz (.int 0)] = [some (.frz (.ro ns)), some (.frz (.int 0)), none] from rfl]
    have e0 : atI ns 0 = some ns[0] := atI_nat (j := 0) h
    have e1 : ixD (.ro ns) (.int 0) = some (.int ns[0]) := by simp [ixD, e0]
    rw [seq_nx (e := [some (.frz (.ro ns)), some (.frz (.int 0)), some (.frz (.int (if ns[0] < 0 then -ns[0] else ns[0])))]) (by simp [sSet, sOf, eP, pIf, qOf, pOp, pV, pCall, evPs_n, evPs_c, lenF, ofV, cmpI, iLt, h, pIx, e1, absF, C.toD])]
    exact ret_ok h1
  · obtain ⟨c, h1, h2⟩ := fin (X * 0 + Y)
    refine ⟨c, _, body_rt (e := [some (.frz (.ro ns)), some (.frz (.int 0)), some (.frz (.int (X * 0 + Y)))]) ?_, h2⟩
    rw [show startE 3 [.frz (.ro ns), .frz (.int 0)] = [some (.frz (.ro ns)), some (.frz (.int 0)), none] from rfl]
    rw [seq_nx (e := [some (.frz (.ro ns)), some (.frz (.int 0)), some (.frz (.int (X * 0 + Y)))]) (by simp [sSet, sOf, eP, pIf, qOf, pOp, pK, pV, pCall, evPs_n, evPs_c, lenF, ofV, cmpI, iLt, h, C.toD, mulI, addI, mulOk_l hX hX2])]
    exact ret_ok h1
def Rok (w k : Nat) (d : D) : Prop := plD d = true ∧ rok d = true ∧ ∃ y, toPyR d = some y ∧ y.weight ≤ w ∧ y.depth ≤ k
theorem Rok.mono {w k w' k' : Nat} {d : D} (h : Rok w k d) (hw : w ≤ w') (hk : k ≤ k') : Rok w' k' d := by
  obtain ⟨a, b, y, c, e, f⟩ := h
  exact ⟨a, b, y, c, by omega, by omega⟩
theorem maxF_of {l : List Int} {k : Int} (h1 : k ∈ l) (h2 : ∀ y ∈ l, y ≤ k) : maxF [.lst (inD l)] = some (.int k) := by
  unfold maxF
  simp only [intsOf_inD, Option.bind_some]
  cases e : maxL l with
  | none => cases l with
    | nil => cases h1
    | cons x r => simp [maxL] at e
  | some m => rw [maxL_eq e h1 h2]; rfl
end PL
namespace PL
open PySem PySem.Spec PyProof.Rows L2
abbrev K2 := Int × Int
abbrev TD := List (K2 × Int)
def kk (k : K2) : List Key := [.inl k.1, .inl k.2]
def tdD (t : TD) : List (List Key × D) := t.map fun e => (kk e.1, .int e.2)
@[simp] theorem tdD_len (t : TD) : (tdD t).length = t.length := List.length_map ..
def gtT (t : TD) (k : K2) : Option Int := (t.find? fun e => decide (e.1 = k)).map (·.2)
def cf (t : TD) (k : K2) : Int := (gtT t k).getD 0
def putT (t : TD) (k : K2) (v : Int) : TD := if (t.any fun e => decide (e.1 = k)) = true then t.map (fun e => if e.1 = k then (e.1, v) else e) else t ++ [(k, v)]
theorem gt_cons (e : K2 × Int) (t : TD) (k : K2) : gtT (e :: t) k = if e.1 = k then some e.2 else gtT t k := by
  unfold gtT
  rw [List.find?_cons]
  by_cases h : e.1 = k
  · simp [h]
  · simp [h]
theorem cf_cons (e : K2 × Int) (t : TD) (k : K2) : cf (e :: t) k = if e.1 = k then e.2 else cf t k := by
  unfold cf
  rw [gt_cons]
  split <;> rfl
theorem cf_nil (k : K2) : cf [] k = 0 := rfl
def Dk (t : TD) : Prop := (t.map (·.1)).Nodup
theorem dk_cons {e : K2 × Int} {t : TD} : Dk (e :: t) ↔ (∀ x ∈ t, x.1 ≠ e.1) ∧ Dk t := by
  unfold Dk
  rw [List.map_cons, List.nodup_cons]
  simp only [List.mem_map, not_exists, not_and]
theorem any_iff {t : TD} {k : K2} : (t.any fun e => decide (e.1 = k)) = true ↔ ∃ e ∈ t, e.1 = k := by simp [List.any_eq_true]
theorem put_cons (e : K2 × Int) (t : TD) (k : K2) (v : Int) (d : Dk (e :: t)) : putT (e :: t) k v = if e.1 = k then (k, v) :: t else e :: putT t k v := by
  rw [dk_cons] at d
  by_cases h : e.1 = k
  · rw [if_pos h]
    unfold putT
    rw [if_pos (by simp [h])]
    rw [List.map_cons, if_pos h, ← h]
    congr 1
    rw [List.map_congr_left (g := id) fun x hx => by rw [if_neg (d.1 x hx)]; rfl, List.map_id]
  · rw [if_neg h]
    unfold putT
    rw [List.any_cons, decide_eq_false h, Bool.false_or]
    split
    · rw [List.map_cons, if_neg h]
    · rfl
theorem put_mem {t : TD} {k : K2} {v : Int} {e : K2 × Int} (h : e ∈ putT t k v) : e = (k, v) ∨ (e ∈ t ∧ e.1 ≠ k) := by
  unfold putT at h
  split at h
  · obtain ⟨x, hx, rfl⟩ := List.mem_map.mp h
    by_cases hk : x.1 = k
    · rw [if_pos hk]; left; rw [hk]
    · rw [if_neg hk]; exact .inr ⟨hx, hk⟩
  · rename_i hn
    rcases List.mem_append.mp h with h | h
    · exact .inr ⟨h, fun z => hn (any_iff.mpr ⟨e, h, z⟩)⟩
    · exact .inl (List.mem_singleton.mp h)
theorem dk_put : ∀ {t : TD} (k : K2) (v : Int), Dk t → Dk (putT t k v)
  | [], k, v, _ => by simp [putT, Dk]
  | e :: t, k, v, d => by
    rw [put_cons _ _ _ _ d]
    have d' := dk_cons.mp d
    split
    · rename_i h
      rw [dk_cons]
      exact ⟨fun x hx => by rw [← h]; exact d'.1 x hx, d'.2⟩
    · rename_i h
      rw [dk_cons]
      refine ⟨fun x hx => ?_, dk_put k v d'.2⟩
      rcases put_mem hx with rfl | ⟨hx, _⟩
      · exact fun z => h z.symm
      · exact d'.1 x hx
theorem len_put (t : TD) (k : K2) (v : Int) : (putT t k v).length ≤ t.length + 1 := by
  unfold putT
  split
  · simp
  · simp
theorem cf_put : ∀ {t : TD} (k k' : K2) (v : Int), Dk t → cf (putT t k v) k' = if k' = k then v else cf t k'
  | [], k, k', v, _ => by
    simp only [putT, List.any_nil, Bool.false_eq_true, if_false, List.nil_append, cf_cons, cf_nil]
    by_cases h : k = k'
    · simp [h]
    · rw [if_neg h, if_neg (fun z => h z.symm)]
  | e :: t, k, k', v, d => by
    have d' := dk_cons.mp d
    have ih := cf_put (t := t) k k' v d'.2
    rw [put_cons _ _ _ _ d]
    by_cases h : e.1 = k
    · rw [if_pos h, cf_cons, cf_cons]
      by_cases h2 : k = k'
      · simp [h2]
      · rw [if_neg h2, if_neg (fun z => h2 z.symm), if_neg (by rw [h]; exact h2)]
    · rw [if_neg h, cf_cons, cf_cons, ih]
      by_cases h2 : e.1 = k'
      · rw [if_pos h2, if_neg (fun z => h (h2.trans z)), if_pos h2]
      · rw [if_neg h2, if_neg h2]
theorem cf_mem : ∀ {t : TD} {e : K2 × Int}, Dk t → e ∈ t → gtT t e.1 = some e.2
  | x :: t, e, d, h => by
    have d' := dk_cons.mp d
    rw [gt_cons]
    rcases List.mem_cons.mp h with rfl | h
    · simp
    · rw [if_neg (fun z => d'.1 e h z.symm)]
      exact cf_mem d'.2 h
theorem cf_ne : ∀ {t : TD} {k : K2}, cf t k ≠ 0 → (k, cf t k) ∈ t
  | [], k, h => absurd (cf_nil k) h
  | x :: t, k, h => by
    rw [cf_cons] at h ⊢
    by_cases hk : x.1 = k
    · rw [if_pos hk, ← hk]; simp
    · rw [if_neg hk] at h ⊢
      exact List.mem_cons_of_mem _ (cf_ne h)
def evT (φ : K2 → Int) (t : TD) : Int := (t.map fun e => e.2 * φ e.1).sum
theorem ev_nil (φ : K2 → Int) : evT φ [] = 0 := rfl
theorem ev_cons (φ : K2 → Int) (e : K2 × Int) (t : TD) : evT φ (e :: t) = e.2 * φ e.1 + evT φ t := by simp [evT]
theorem ev_put (φ : K2 → Int) (k : K2) (v : Int) : ∀ {t : TD}, Dk t → evT φ (putT t k (cf t k + v)) = evT φ t + v * φ k
  | [], _ => by simp [putT, cf_nil, evT]
  | e :: t, d => by
    have d' := dk_cons.mp d
    have ih := ev_put φ k v d'.2
    rw [put_cons _ _ _ _ d, cf_cons]
    by_cases h : e.1 = k
    · rw [if_pos h, if_pos h, ev_cons, ev_cons, h]
      simp only [Int.add_mul]
      omega
    · rw [if_neg h, if_neg h, ev_cons, ev_cons, ih]
      omega
theorem ev_smul (c : Int) (φ : K2 → Int) : ∀ t : TD, evT (fun k => c * φ k) t = c * evT φ t
  | [] => by simp [evT]
  | e :: t => by
    rw [ev_cons, ev_cons, ev_smul c φ t, Int.mul_add]
    congr 1
    rw [← Int.mul_assoc, ← Int.mul_assoc, Int.mul_comm e.2 c]
theorem ev_congr {φ ψ : K2 → Int} {t : TD} (h : ∀ e ∈ t, φ e.1 = ψ e.1) : evT φ t = evT ψ t := by
  unfold evT
  congr 1
  exact List.map_congr_left fun e he => by rw [h e he]
theorem cf_ev {k : K2} : ∀ {t : TD}, Dk t → cf t k = evT (fun k' => if k' = k then 1 else 0) t
  | [], _ => rfl
  | e :: t, d => by
    have d' := dk_cons.mp d
    rw [cf_cons, ev_cons, ← cf_ev d'.2]
    by_cases h : e.1 = k
    · rw [if_pos h, if_pos h]
      have : cf t k = 0 := by
        by_cases hz : cf t k = 0
        · exact hz
        · exact absurd h.symm (d'.1 _ (cf_ne hz))
      rw [this]; simp
    · rw [if_neg h, if_neg h]; simp
def nrT (t : TD) : Nat := (t.map fun e => e.2.natAbs).sum
theorem nr_cons (e : K2 × Int) (t : TD) : nrT (e :: t) = e.2.natAbs + nrT t := by simp [nrT]
theorem nr_mem : ∀ {t : TD} {e : K2 × Int}, e ∈ t → e.2.natAbs ≤ nrT t
  | x :: t, e, h => by
    rw [nr_cons]
    rcases List.mem_cons.mp h with rfl | h
    · omega
    · have := nr_mem h
      omega
theorem nr_cf (t : TD) (k : K2) : (cf t k).natAbs ≤ nrT t := by
  by_cases h : cf t k = 0
  · rw [h]; simp
  · exact nr_mem (cf_ne h)
theorem nr_put (k : K2) (v : Int) : ∀ {t : TD}, Dk t → nrT (putT t k (cf t k + v)) ≤ nrT t + v.natAbs
  | [], _ => by simp [putT, cf_nil, nrT]
  | e :: t, d => by
    have d' := dk_cons.mp d
    have ih := nr_put k v d'.2
    rw [put_cons _ _ _ _ d, cf_cons]
    by_cases h : e.1 = k
    · rw [if_pos h, if_pos h, nr_cons, nr_cons]
      show (e.2 + v).natAbs + nrT t ≤ _
      omega
    · rw [if_neg h, if_neg h, nr_cons, nr_cons]
      omega
def bareT (t : TD) : TD := t.filter fun e => decide (e.2 ≠ 0)
theorem ev_bare (φ : K2 → Int) : ∀ t : TD, evT φ (bareT t) = evT φ t
  | [] => rfl
  | e :: t => by
    have ih := ev_bare φ t
    unfold bareT at ih ⊢
    rw [List.filter_cons]
    by_cases h : e.2 = 0
    · rw [decide_eq_false (by simp [h]), ev_cons, h]
      simpa using ih
    · rw [decide_eq_true h]
      simp only [if_true, ev_cons, ih]
theorem nr_bare (t : TD) : nrT (bareT t) = nrT t := by
  induction t with
  | nil => rfl
  | cons e t ih =>
    unfold bareT at ih ⊢
    rw [List.filter_cons]
    by_cases h : e.2 = 0
    · rw [decide_eq_false (by simp [h]), nr_cons, h]
      simpa using ih
    · rw [decide_eq_true h]
      simp only [if_true, nr_cons, ih]
theorem dk_bare {t : TD} (d : Dk t) : Dk (bareT t) := (List.filter_sublist.map _).nodup d
theorem len_bare (t : TD) : (bareT t).length ≤ t.length := List.length_filter_le ..
theorem mem_bare {t : TD} {e : K2 × Int} : e ∈ bareT t ↔ e ∈ t ∧ e.2 ≠ 0 := by simp [bareT]
theorem cf_bare {t : TD} (k : K2) (d : Dk t) : cf (bareT t) k = cf t k := by
  rw [cf_ev (dk_bare d), cf_ev d, ev_bare]
def kadd (a b : K2) : K2 := (a.1 + b.1, a.2 + b.2)
def rowT (k : K2) (v : Int) (b : TD) (acc : TD) : TD := b.foldl (fun acc e => putT acc (kadd k e.1) (cf acc (kadd k e.1) + v * e.2)) acc
def timesT (a b : TD) : TD := a.foldl (fun acc e => rowT e.1 e.2 b acc) []
theorem row_spec (φ : K2 → Int) (k : K2) (v : Int) : ∀ (b acc : TD), Dk acc → Dk (rowT k v b acc) ∧ evT φ (rowT k v b acc) = evT φ acc + v * evT (fun k2 => φ (kadd k k2)) b ∧
    nrT (rowT k v b acc) ≤ nrT acc + v.natAbs * nrT b ∧ (rowT k v b acc).length ≤ acc.length + b.length
  | [], acc, d => by simp [rowT, d, ev_nil, nrT]
  | e :: b, acc, d => by
    obtain ⟨h1, h2, h3, h4⟩ := row_spec φ k v b (putT acc (kadd k e.1) (cf acc (kadd k e.1) + v * e.2)) (dk_put _ _ d)
    refine ⟨h1, ?_, ?_, ?_⟩
    · refine h2.trans ?_
      rw [ev_put _ _ _ d, ev_cons, Int.mul_add, Int.mul_assoc]
      omega
    · have := nr_put (kadd k e.1) (v * e.2) d
      rw [Int.natAbs_mul] at this
      rw [nr_cons, Nat.mul_add]
      refine Nat.le_trans h3 ?_
      omega
    · have := len_put acc (kadd k e.1) (cf acc (kadd k e.1) + v * e.2)
      refine Nat.le_trans h4 ?_
      simp only [List.length_cons]
      omega
theorem row_mem (P : K2 → Prop) (k : K2) (v : Int) : ∀ (b acc : TD), (∀ e ∈ acc, P e.1) → (∀ e ∈ b, P (kadd k e.1)) → ∀ e ∈ rowT k v b acc, P e.1
  | [], acc, h1, h2 => h1
  | e :: b, acc, h1, h2 => row_mem P k v b _ (fun x hx => by
      rcases put_mem hx with rfl | ⟨hx, _⟩
      · exact h2 e (by simp)
      · exact h1 x hx) fun x hx => h2 x (List.mem_cons_of_mem _ hx)
theorem times_spec' (φ : K2 → Int) (b : TD) : ∀ (a acc : TD), Dk acc → let r := a.foldl (fun acc e => rowT e.1 e.2 b acc) acc; Dk r ∧ evT φ r = evT φ acc + evT (fun k1 => evT (fun k2 => φ (kadd k1 k2)) b) a ∧
    nrT r ≤ nrT acc + nrT a * nrT b ∧ r.length ≤ acc.length + a.length * b.length
  | [], acc, d => by simp [d, ev_nil, nrT]
  | e :: a, acc, d => by
    obtain ⟨g1, g2, g3, g4⟩ := row_spec φ e.1 e.2 b acc d
    obtain ⟨h1, h2, h3, h4⟩ := times_spec' φ b a (rowT e.1 e.2 b acc) g1
    refine ⟨h1, ?_, ?_, ?_⟩
    · refine h2.trans ?_
      rw [g2, ev_cons]
      omega
    · refine Nat.le_trans h3 ?_
      rw [nr_cons, Nat.add_mul]
      omega
    · refine Nat.le_trans h4 ?_
      simp only [List.length_cons, Nat.add_mul, Nat.one_mul]
      omega
theorem times_spec (φ : K2 → Int) (a b : TD) : Dk (timesT a b) ∧ evT φ (timesT a b) = evT (fun k1 => evT (fun k2 => φ (kadd k1 k2)) b) a ∧ nrT (timesT a b) ≤ nrT a * nrT b ∧ (timesT a b).length ≤ a.length * b.length := by
  obtain ⟨h1, h2, h3, h4⟩ := times_spec' φ b a [] (by simp [Dk])
  refine ⟨h1, ?_, ?_, ?_⟩
  · have := h2
    rw [ev_nil, Int.zero_add] at this
    exact this
  · have z : nrT ([] : TD) = 0 := rfl
    rw [z, Nat.zero_add] at h3
    exact h3
  · rw [List.length_nil, Nat.zero_add] at h4
    exact h4
theorem times_mem (P Q : K2 → Prop) {b : TD} (hb : ∀ e ∈ b, Q e.1) {a : TD} (ha : ∀ e ∈ a, ∀ f ∈ b, P (kadd e.1 f.1)) : ∀ e ∈ timesT a b, P e.1 := by
  have : ∀ (a acc : TD), (∀ e ∈ acc, P e.1) → (∀ e ∈ a, ∀ f ∈ b, P (kadd e.1 f.1)) → ∀ e ∈ a.foldl (fun acc e => rowT e.1 e.2 b acc) acc, P e.1 := by
    intro a
    induction a with
    | nil => intro acc h _; exact h
    | cons e a ih =>
      intro acc h h2
      exact ih _ (row_mem P e.1 e.2 b acc h fun f hf => h2 e (by simp) f hf) fun x hx => h2 x (List.mem_cons_of_mem _ hx)
  exact this a [] nofun ha
end PL
namespace PL
open PySem PySem.Spec PyProof.Rows L2
def co (ps : List (List Int)) (i j : Nat) : Int := (ps.getD i []).getD j 0
structure Pl (ps : List (List Int)) : Prop where
  tr : ∀ r ∈ ps, Tr r
  top : ∀ r, ps.getLast? = some r → r ≠ []
theorem getD_last {α : Type} {l : List α} (h : l ≠ []) (d : α) : l.getLast? = some (l.getD (l.length - 1) d) := by
  rw [List.getLast?_eq_getElem?, List.getD_eq_getElem?_getD]
  have : l.length - 1 < l.length := by have := List.length_pos_iff.mpr h; omega
  rw [List.getElem?_eq_getElem this]
  rfl
theorem getD_ge {α : Type} {l : List α} {i : Nat} (h : l.length ≤ i) (d : α) : l.getD i d = d := by
  rw [List.getD_eq_getElem?_getD, List.getElem?_eq_none h]; rfl
theorem row_len_le {a b : List Int} (tb : Tr b) (h : ∀ j, a.getD j 0 = b.getD j 0) : b.length ≤ a.length := by
  by_cases hb : b = []
  · rw [hb]; simp
  · have h1 := getD_last hb 0
    have h2 := tb _ h1
    rw [← h] at h2
    by_cases hl : b.length ≤ a.length
    · exact hl
    · exact absurd (getD_ge (by have := List.length_pos_iff.mpr hb; omega) 0) h2
theorem row_ext {a b : List Int} (ta : Tr a) (tb : Tr b) (h : ∀ j, a.getD j 0 = b.getD j 0) : a = b := by
  have l1 := row_len_le tb h
  have l2 := row_len_le ta fun j => (h j).symm
  refine List.ext_getElem (by omega) fun i h1 h2 => ?_
  have := h i
  rw [List.getD_eq_getElem?_getD, List.getD_eq_getElem?_getD, List.getElem?_eq_getElem h1, List.getElem?_eq_getElem h2] at this
  exact this
theorem Pl.row {ps : List (List Int)} (h : Pl ps) (i : Nat) : Tr (ps.getD i []) := by
  by_cases hi : i < ps.length
  · rw [List.getD_eq_getElem?_getD, List.getElem?_eq_getElem hi]
    exact h.tr _ (List.getElem_mem _)
  · rw [getD_ge (by omega)]; exact tr_nil
theorem pl_ext {ps qs : List (List Int)} (hp : Pl ps) (hq : Pl qs) (h : ∀ i j, co ps i j = co qs i j) : ps = qs := by
  have r : ∀ i, ps.getD i [] = qs.getD i [] := fun i => row_ext (hp.row i) (hq.row i) (h i)
  have le : ∀ {a b : List (List Int)}, Pl b → (∀ i, a.getD i [] = b.getD i []) → b.length ≤ a.length := fun {a b} hb h => by
    by_cases hn : b = []
    · rw [hn]; simp
    · have h1 := getD_last hn []
      have h2 := hb.top _ h1
      rw [← h] at h2
      by_cases hl : b.length ≤ a.length
      · exact hl
      · exact absurd (getD_ge (by have := List.length_pos_iff.mpr hn; omega) []) h2
  have l1 := le hq r
  have l2 := le hp fun i => (r i).symm
  refine List.ext_getElem (by omega) fun i h1 h2 => ?_
  have := r i
  rw [List.getD_eq_getElem?_getD, List.getD_eq_getElem?_getD, List.getElem?_eq_getElem h1, List.getElem?_eq_getElem h2] at this
  exact this
theorem co_out {ps : List (List Int)} {i j : Nat} (h : co ps i j ≠ 0) : ∃ hi : i < ps.length, ∃ hj : j < ps[i].length, co ps i j = ps[i][j] := by
  unfold co at h ⊢
  by_cases hi : i < ps.length
  · have e : ps.getD i [] = ps[i] := by rw [List.getD_eq_getElem?_getD, List.getElem?_eq_getElem hi]; rfl
    rw [e] at h ⊢
    by_cases hj : j < ps[i].length
    · exact ⟨hi, hj, by rw [List.getD_eq_getElem?_getD, List.getElem?_eq_getElem hj]; rfl⟩
    · exact absurd (getD_ge (by omega) 0) h
  · rw [getD_ge (l := ps) (by omega)] at h
    exact absurd rfl h
structure Dof (t : TD) (ps : List (List Int)) : Prop where
  dk : Dk t
  nz : ∀ e ∈ t, e.2 ≠ 0
  eq : ∀ k : K2, cf t k = if 0 ≤ k.1 ∧ 0 ≤ k.2 then co ps k.1.toNat k.2.toNat else 0
theorem Dof.nat {t : TD} {ps : List (List Int)} (h : Dof t ps) (i j : Nat) : cf t ((i : Int), (j : Int)) = co ps i j := by
  rw [h.eq, if_pos ⟨by simp, by simp⟩]
  simp
theorem Dof.mem {t : TD} {ps : List (List Int)} (h : Dof t ps) {e : K2 × Int} (he : e ∈ t) : ∃ i j : Nat, e.1 = ((i : Int), (j : Int)) ∧ e.2 = co ps i j ∧ ∃ hi : i < ps.length, j < ps[i].length := by
  have e1 := cf_mem h.dk he
  have e2 : cf t e.1 = e.2 := by unfold cf; rw [e1]; rfl
  have e3 := h.nz e he
  rw [h.eq] at e2
  split at e2
  · rename_i hk
    rw [← e2] at e3
    obtain ⟨hi, hj, _⟩ := co_out e3
    refine ⟨e.1.1.toNat, e.1.2.toNat, Prod.ext ?_ ?_, e2.symm, hi, hj⟩
    · show e.1.1 = (e.1.1.toNat : Int); omega
    · show e.1.2 = (e.1.2.toNat : Int); omega
  · exact absurd e2.symm e3
theorem Dof.key {t : TD} {ps : List (List Int)} (h : Dof t ps) {i j : Nat} (hz : co ps i j ≠ 0) : (((i : Int), (j : Int)), co ps i j) ∈ t := by
  have := cf_ne (t := t) (k := ((i : Int), (j : Int))) (by rw [h.nat]; exact hz)
  rwa [h.nat] at this
def mx0 (l : List Int) : Int := l.foldl max 0
def hiT (t : TD) : Int := mx0 (t.map fun e => e.1.1 + 1)
def wdT (t : TD) (i : Int) : Int := mx0 ((t.filter fun e => decide (e.1.1 = i)).map fun e => e.1.2 + 1)
def rowAt (t : TD) (i : Int) : List Int := (List.range (wdT t i).toNat).map fun (j : Nat) => cf t (i, (j : Int))
def listT (t : TD) : List (List Int) := (List.range (hiT t).toNat).map fun (i : Nat) => rowAt t (i : Int)
theorem mx0_spec (l : List Int) : (mx0 l = 0 ∨ mx0 l ∈ l) ∧ (∀ y ∈ l, y ≤ mx0 l) ∧ 0 ≤ mx0 l := by
  obtain ⟨h1, h2⟩ := foldl_max_mem l 0
  refine ⟨?_, fun y hy => h2 y (List.mem_cons_of_mem _ hy), h2 0 (by simp)⟩
  rcases List.mem_cons.mp h1 with h | h
  · exact .inl h
  · exact .inr h
/-- keys that are no negative numbers -/
def Kn (t : TD) : Prop := ∀ e ∈ t, 0 ≤ e.1.1 ∧ 0 ≤ e.1.2
theorem rowAt_get {t : TD} (d : Dk t) (kn : Kn t) (i j : Nat) : (rowAt t i).getD j 0 = cf t ((i : Int), (j : Int)) := by
  unfold rowAt
  by_cases h : j < (wdT t i).toNat
  · rw [List.getD_eq_getElem?_getD, List.getElem?_map, List.getElem?_range h]; rfl
  · rw [getD_ge (by simp; omega)]
    by_cases hz : cf t ((i : Int), (j : Int)) = 0
    · exact hz.symm
    · have := cf_ne hz
      obtain ⟨_, m2, m3⟩ := mx0_spec ((t.filter fun e => decide (e.1.1 = (i : Int))).map fun e => e.1.2 + 1)
      have := m2 ((j : Int) + 1) (List.mem_map.mpr ⟨_, List.mem_filter.mpr ⟨this, by simp⟩, rfl⟩)
      have e : wdT t i = mx0 ((t.filter fun e => decide (e.1.1 = (i : Int))).map fun e => e.1.2 + 1) := rfl
      omega
theorem listT_co {t : TD} (d : Dk t) (kn : Kn t) (i j : Nat) : co (listT t) i j = cf t ((i : Int), (j : Int)) := by
  unfold co listT
  by_cases h : i < (hiT t).toNat
  · have : ((List.range (hiT t).toNat).map fun (i : Nat) => rowAt t (i : Int)).getD i [] = rowAt t (i : Int) := by
      rw [List.getD_eq_getElem?_getD, List.getElem?_map, List.getElem?_range h]; rfl
    rw [this, rowAt_get d kn]
  · rw [getD_ge (l := (List.range (hiT t).toNat).map fun (i : Nat) => rowAt t (i : Int)) (by simp; omega)]
    by_cases hz : cf t ((i : Int), (j : Int)) = 0
    · rw [hz]; rfl
    · have := cf_ne hz
      obtain ⟨_, m2, m3⟩ := mx0_spec (t.map fun e => e.1.1 + 1)
      have := m2 ((i : Int) + 1) (List.mem_map.mpr ⟨_, this, rfl⟩)
      have e : hiT t = mx0 (t.map fun e => e.1.1 + 1) := rfl
      omega
theorem listT_pl {t : TD} (d : Dk t) (kn : Kn t) (nz : ∀ e ∈ t, e.2 ≠ 0) : Pl (listT t) := by
  have rw0 : ∀ i : Int, Tr (rowAt t i) := fun i x hx => by
    by_cases h0 : rowAt t i = []
    · rw [h0] at hx; cases hx
    · rw [getD_last h0 0] at hx
      cases hx
      have hl : (rowAt t i).length = (wdT t i).toNat := by simp [rowAt]
      have hp := List.length_pos_iff.mpr h0
      have hj : (rowAt t i).length - 1 < (wdT t i).toNat := by omega
      have g : ∀ m : Nat, m < (wdT t i).toNat → (rowAt t i).getD m 0 = cf t (i, (m : Int)) := fun m hm => by
        unfold rowAt
        rw [List.getD_eq_getElem?_getD, List.getElem?_map, List.getElem?_range hm]; rfl
      have g := g _ hj
      rw [g]
      obtain ⟨m1, m2, m3⟩ := mx0_spec ((t.filter fun e => decide (e.1.1 = i)).map fun e => e.1.2 + 1)
      have ew : wdT t i = mx0 ((t.filter fun e => decide (e.1.1 = i)).map fun e => e.1.2 + 1) := rfl
      rcases m1 with m1 | m1
      · omega
      · obtain ⟨e, he, h1⟩ := List.mem_map.mp m1
        obtain ⟨he, h2⟩ := List.mem_filter.mp he
        have h2 := of_decide_eq_true h2
        have : (i, (((rowAt t i).length - 1 : Nat) : Int)) = e.1 := Prod.ext h2.symm (by show _ = e.1.2; omega)
        rw [this]
        unfold cf
        rw [cf_mem d he]
        exact nz e he
  refine ⟨fun r hr => ?_, fun r hr => ?_⟩
  · obtain ⟨i, _, rfl⟩ := List.mem_map.mp hr
    exact rw0 _
  · by_cases h0 : listT t = []
    · rw [h0] at hr; cases hr
    · rw [getD_last h0 []] at hr
      cases hr
      have hl : (listT t).length = (hiT t).toNat := by simp [listT]
      have hp := List.length_pos_iff.mpr h0
      obtain ⟨m1, m2, m3⟩ := mx0_spec (t.map fun e => e.1.1 + 1)
      have eh : hiT t = mx0 (t.map fun e => e.1.1 + 1) := rfl
      rcases m1 with m1 | m1
      · omega
      · obtain ⟨e, he, h1⟩ := List.mem_map.mp m1
        intro hz
        have c := listT_co d kn ((listT t).length - 1) e.1.2.toNat
        unfold co at c
        rw [hz] at c
        have ke := kn e he
        have : ((((listT t).length - 1 : Nat) : Int), (e.1.2.toNat : Int)) = e.1 := Prod.ext (by show _ = e.1.1; omega) (by show _ = e.1.2; omega)
        rw [this] at c
        unfold cf at c
        rw [cf_mem d he] at c
        exact nz e he c.symm
theorem listT_dof {t : TD} (d : Dk t) (kn : Kn t) (nz : ∀ e ∈ t, e.2 ≠ 0) : Dof t (listT t) := ⟨d, nz, fun k => by
  split
  · rename_i h
    rw [listT_co d kn]
    congr 1
    exact Prod.ext (by show k.1 = (k.1.toNat : Int); omega) (by show k.2 = (k.2.toNat : Int); omega)
  · rename_i h
    by_cases hz : cf t k = 0
    · exact hz
    · exact absurd (kn _ (cf_ne hz)) h⟩
theorem Dof.kn {t : TD} {ps : List (List Int)} (h : Dof t ps) : Kn t := fun e he => by
  obtain ⟨i, j, e1, _⟩ := h.mem he
  rw [e1]
  exact ⟨Int.natCast_nonneg _, Int.natCast_nonneg _⟩
theorem Dof.list {t : TD} {ps : List (List Int)} (h : Dof t ps) (p : Pl ps) : listT t = ps :=
  pl_ext (listT_pl h.dk h.kn h.nz) p fun i j => by rw [listT_co h.dk h.kn, h.nat]
def colT (i : Int) : Nat → List Int → TD → TD
  | _, [], acc => acc
  | j, x :: l, acc => colT i (j + 1) l (if x ≠ 0 then putT acc (i, (j : Int)) x else acc)
def dicT : Nat → List (List Int) → TD → TD
  | _, [], acc => acc
  | i, r :: ps, acc => dicT (i + 1) ps (colT i 0 r acc)
theorem col_spec (i : Int) : ∀ (l : List Int) (j : Nat) (acc : TD), Dk acc → (∀ e ∈ acc, e.2 ≠ 0) → (∀ m : Nat, j ≤ m → cf acc (i, (m : Int)) = 0) →
    Dk (colT i j l acc) ∧ (∀ e ∈ colT i j l acc, e.2 ≠ 0) ∧ (∀ k : K2, cf (colT i j l acc) k = if k.1 = i ∧ (j : Int) ≤ k.2 then l.getD (k.2 - j).toNat 0 else cf acc k) ∧ (colT i j l acc).length ≤ acc.length + l.length
  | [], j, acc, d, z, f => ⟨d, z, fun k => by
      split
      · rename_i h
        have : k = (i, ((k.2.toNat : Nat) : Int)) := Prod.ext h.1 (by show k.2 = _; omega)
        rw [colT, this, f _ (by omega)]
        simp
      · rfl, by simp [colT]⟩
  | x :: l, j, acc, d, z, f => by
    have e : colT i j (x :: l) acc = colT i (j + 1) l (if x ≠ 0 then putT acc (i, (j : Int)) x else acc) := rfl
    rw [e]
    have d' : Dk (if x ≠ 0 then putT acc (i, (j : Int)) x else acc) := by split; exact dk_put _ _ d; exact d
    have z' : ∀ e ∈ (if x ≠ 0 then putT acc (i, (j : Int)) x else acc), e.2 ≠ 0 := fun e he => by
      split at he
      · rename_i hx
        rcases put_mem he with rfl | ⟨he, _⟩
        · exact hx
        · exact z e he
      · exact z e he
    have c' : ∀ k : K2, cf (if x ≠ 0 then putT acc (i, (j : Int)) x else acc) k = if k = (i, (j : Int)) then x else cf acc k := fun k => by
      by_cases hx : x = 0
      · rw [if_neg (by simp [hx])]
        split
        · rename_i hk; rw [hk, f j (Nat.le_refl _), hx]
        · rfl
      · rw [if_pos hx, cf_put _ _ _ d]
    have lg : (if x ≠ 0 then putT acc (i, (j : Int)) x else acc).length ≤ acc.length + 1 := by
      split
      · exact len_put ..
      · omega
    generalize (if x ≠ 0 then putT acc (i, (j : Int)) x else acc) = acc' at d' z' c' lg
    obtain ⟨h1, h2, h3, h4⟩ := col_spec i l (j + 1) acc' d' z' fun m hm => by
      rw [c', if_neg (fun z => by have := congrArg Prod.snd z; simp at this; omega), f m (by omega)]
    refine ⟨h1, h2, fun k => ?_, by simp only [List.length_cons]; omega⟩
    rw [h3]
    by_cases hk : k.1 = i ∧ (j : Int) ≤ k.2
    · rw [if_pos hk]
      by_cases hj : k.2 = j
      · rw [if_neg (by omega), c', if_pos (Prod.ext hk.1 hj), hj]
        simp
      · rw [if_pos ⟨hk.1, by omega⟩]
        have : (k.2 - (j : Int)).toNat = (k.2 - ((j + 1 : Nat) : Int)).toNat + 1 := by omega
        rw [this]
        rfl
    · rw [if_neg hk, if_neg (fun z => hk ⟨z.1, by omega⟩), c', if_neg (fun z => hk (by rw [z]; exact ⟨rfl, Int.le_refl _⟩))]
theorem dic_spec : ∀ (ps : List (List Int)) (i : Nat) (acc : TD), Dk acc → (∀ e ∈ acc, e.2 ≠ 0) → (∀ k : K2, (i : Int) ≤ k.1 → cf acc k = 0) →
    Dk (dicT i ps acc) ∧ (∀ e ∈ dicT i ps acc, e.2 ≠ 0) ∧ (∀ k : K2, cf (dicT i ps acc) k = if (i : Int) ≤ k.1 ∧ 0 ≤ k.2 then co ps (k.1 - i).toNat k.2.toNat else cf acc k) ∧ (dicT i ps acc).length ≤ acc.length + (ps.map List.length).sum
  | [], i, acc, d, z, f => ⟨d, z, fun k => by
      split
      · rename_i h
        rw [dicT, f k h.1]
        simp [co]
      · rfl, by simp [dicT]⟩
  | r :: ps, i, acc, d, z, f => by
    obtain ⟨g1, g2, g3, g4⟩ := col_spec (i : Int) r 0 acc d z fun m _ => f _ (Int.le_refl _)
    have e : dicT i (r :: ps) acc = dicT (i + 1) ps (colT i 0 r acc) := rfl
    rw [e]
    obtain ⟨h1, h2, h3, h4⟩ := dic_spec ps (i + 1) _ g1 g2 fun k hk => by
      rw [g3, if_neg (fun z => by omega), f k (by omega)]
    refine ⟨h1, h2, fun k => ?_, by simp only [List.map_cons, List.sum_cons]; omega⟩
    rw [h3]
    by_cases hk : (i : Int) ≤ k.1 ∧ 0 ≤ k.2
    · rw [if_pos hk]
      by_cases hi : k.1 = i
      · rw [if_neg (by omega), g3, if_pos ⟨hi, by simpa using hk.2⟩, hi]
        simp [co]
      · rw [if_pos ⟨by omega, hk.2⟩]
        have : (k.1 - (i : Int)).toNat = (k.1 - ((i + 1 : Nat) : Int)).toNat + 1 := by omega
        rw [this]
        rfl
    · rw [if_neg hk, if_neg (fun z => hk ⟨by omega, z.2⟩), g3, if_neg (fun z => hk ⟨by omega, by simpa using z.2⟩)]
def dictT (ps : List (List Int)) : TD := dicT 0 ps []
theorem dictT_dof (ps : List (List Int)) : Dof (dictT ps) ps ∧ (dictT ps).length ≤ (ps.map List.length).sum := by
  obtain ⟨h1, h2, h3, h4⟩ := dic_spec ps 0 [] (by simp [Dk]) nofun fun k _ => cf_nil k
  refine ⟨⟨h1, h2, fun k => ?_⟩, by simpa [dictT] using h4⟩
  rw [dictT, h3]
  simp [cf_nil]
theorem lt_kpy (a b : K2) : PySem.W.dataLt (kpy (kk a)) (kpy (kk b)) = decide (a.1 < b.1 ∨ (a.1 = b.1 ∧ a.2 < b.2)) := by
  exact PySem.W.dataLt_ii a.1 a.2 b.1 b.2
theorem maxKs_spec : ∀ (ks : List K2) (k0 : K2), ∃ k ∈ k0 :: ks, maxKs (kk k0) (ks.map kk) = kk k ∧ ∀ y ∈ k0 :: ks, ¬ (k.1 < y.1 ∨ (k.1 = y.1 ∧ k.2 < y.2))
  | [], k0 => ⟨k0, by simp, rfl, by simp⟩
  | y :: ks, k0 => by
    have e : maxKs (kk k0) ((y :: ks).map kk) = maxKs (if PySem.W.dataLt (kpy (kk k0)) (kpy (kk y)) then kk y else kk k0) (ks.map kk) := rfl
    rw [e, lt_kpy]
    by_cases h : k0.1 < y.1 ∨ (k0.1 = y.1 ∧ k0.2 < y.2)
    · rw [decide_eq_true h, if_pos rfl]
      obtain ⟨k, h1, h2, h3⟩ := maxKs_spec ks y
      refine ⟨k, List.mem_cons_of_mem _ h1, h2, fun z hz => ?_⟩
      rcases List.mem_cons.mp hz with rfl | hz
      · have := h3 y (by simp); omega
      · exact h3 z hz
    · rw [decide_eq_false h, if_neg (by simp)]
      obtain ⟨k, h1, h2, h3⟩ := maxKs_spec ks k0
      refine ⟨k, ?_, h2, fun z hz => ?_⟩
      · rcases List.mem_cons.mp h1 with rfl | h1
        · simp
        · simp [h1]
      · rcases List.mem_cons.mp hz with rfl | hz
        · exact h3 z (by simp)
        · rcases List.mem_cons.mp hz with rfl | hz
          · have := h3 k0 (by simp); omega
          · exact h3 z (by simp [hz])
theorem Dof.max {t : TD} {ps : List (List Int)} (h : Dof t ps) (p : Pl ps) (hp : ps ≠ []) : ∃ e r, t = e :: r ∧ maxKs (kk e.1) (r.map fun e => kk e.1) = kk (((ps.length - 1 : Nat) : Int), (((ps.getLastD []).length - 1 : Nat) : Int)) ∧ gtT t (((ps.length - 1 : Nat) : Int), (((ps.getLastD []).length - 1 : Nat) : Int)) = some ((ps.getLastD []).getLastD 0) := by
  have lp := List.length_pos_iff.mpr hp
  have el : ps.getLastD [] = ps.getD (ps.length - 1) [] := by
    have := getD_last hp []
    rw [List.getLastD_eq_getLast?, this]; rfl
  have hl : ps.getLastD [] ≠ [] := by rw [el]; exact p.top _ (getD_last hp [])
  have ll := List.length_pos_iff.mpr hl
  have ex : (ps.getLastD []).getLastD 0 = (ps.getLastD []).getD ((ps.getLastD []).length - 1) 0 := by
    have := getD_last hl 0
    rw [List.getLastD_eq_getLast?, this]; rfl
  have hx : (ps.getLastD []).getLastD 0 ≠ 0 := by
    rw [ex]
    refine p.tr (ps.getLastD []) ?_ _ (getD_last hl 0)
    rw [el, List.getD_eq_getElem?_getD, List.getElem?_eq_getElem (by omega)]
    exact List.getElem_mem _
  have ec : co ps (ps.length - 1) ((ps.getLastD []).length - 1) = (ps.getLastD []).getLastD 0 := by
    unfold co
    rw [← el, ex]
  have hk := h.key (i := ps.length - 1) (j := (ps.getLastD []).length - 1) (by rw [ec]; exact hx)
  have hg := cf_mem h.dk hk
  cases t with
  | nil => cases hk
  | cons e r =>
    refine ⟨e, r, rfl, ?_, by rw [← ec]; exact hg⟩
    obtain ⟨k, h1, h2, h3⟩ := maxKs_spec (r.map (·.1)) e.1
    rw [List.map_map] at h2
    rw [show (r.map fun e => kk e.1) = r.map (kk ∘ fun x => x.1) from rfl, h2]
    congr 1
    have hm : k ∈ (e :: r).map (·.1) := by rw [List.map_cons]; exact h1
    obtain ⟨x, hx1, rfl⟩ := List.mem_map.mp hm
    obtain ⟨i, j, e1, e2, hi, hj⟩ := h.mem hx1
    have h4 := h3 (((ps.length - 1 : Nat) : Int), (((ps.getLastD []).length - 1 : Nat) : Int)) (by
      have := List.mem_map_of_mem (f := (·.1)) hk
      simpa using this)
    rw [e1] at h4 ⊢
    simp only [Int.ofNat_lt, Int.ofNat_inj] at h4
    have hi2 : i = ps.length - 1 := by omega
    subst hi2
    have hr : ps[ps.length - 1] = ps.getLastD [] := by
      rw [el, List.getD_eq_getElem?_getD, List.getElem?_eq_getElem hi]; rfl
    rw [hr] at hj
    have hj2 : j = (ps.getLastD []).length - 1 := by omega
    rw [hj2]
end PL
namespace PL
open PySem PySem.Spec PyProof.Rows L2
end PL
namespace PL
open PySem PySem.Spec PyProof.Rows L2
end PL
namespace PL
open PySem PySem.Spec PyProof.Rows L2
theorem Dof.top {t : TD} {ps : List (List Int)} (h : Dof t ps) (p : Pl ps) : maxF [.lst (inD (-1 :: t.map fun e => e.1.1))] = some (.int ((ps.length : Int) - 1)) := by
  refine maxF_of ?_ fun y hy => ?_
  · by_cases hp : ps = []
    · subst hp; simp
    · obtain ⟨e, r, rfl, m1, m2⟩ := h.max p hp
      have := List.length_pos_iff.mpr hp
      have g : (((ps.length - 1 : Nat) : Int), (((ps.getLastD []).length - 1 : Nat) : Int)) ∈ (e :: r).map (·.1) := by
        unfold gtT at m2
        simp only [Option.map_eq_some_iff] at m2
        obtain ⟨x, hx, _⟩ := m2
        have := List.find?_some hx
        exact List.mem_map.mpr ⟨x, List.mem_of_find?_eq_some hx, of_decide_eq_true this⟩
      obtain ⟨x, hx, e1⟩ := List.mem_map.mp g
      refine List.mem_cons_of_mem _ (List.mem_map.mpr ⟨x, hx, ?_⟩)
      rw [e1]
      show ((ps.length - 1 : Nat) : Int) = _
      omega
  · rcases List.mem_cons.mp hy with rfl | hy
    · omega
    · obtain ⟨e, he, rfl⟩ := List.mem_map.mp hy
      obtain ⟨i, j, e1, _, hi, _⟩ := h.mem he
      rw [e1]
      show (i : Int) ≤ _
      omega
end PL
namespace PL
open PySem PySem.Spec PyProof.Rows L2
/-- the value at x = 10000, y = 10 -/
def phi (k : K2) : Int := 10000 ^ k.1.toNat * 10 ^ k.2.toNat
theorem phi_add {a b : K2} (h1 : 0 ≤ a.1) (h2 : 0 ≤ a.2) (h3 : 0 ≤ b.1) (h4 : 0 ≤ b.2) : phi (kadd a b) = phi a * phi b := by
  unfold phi kadd
  simp only [Int.toNat_add h1 h3, Int.toNat_add h2 h4, Int.pow_add]
  rw [Int.mul_assoc, Int.mul_assoc]
  congr 1
  rw [← Int.mul_assoc, ← Int.mul_assoc, Int.mul_comm (10000 ^ b.1.toNat)]
theorem ev_times' {φ : K2 → Int} {a b : TD} (hφ : ∀ e ∈ a, ∀ f ∈ b, φ (kadd e.1 f.1) = φ e.1 * φ f.1) : evT φ (timesT a b) = evT φ a * evT φ b := by
  rw [(times_spec φ a b).2.1]
  have : ∀ e ∈ a, evT (fun k2 => φ (kadd e.1 k2)) b = evT φ b * φ e.1 := fun e he => by
    rw [Int.mul_comm, ← ev_smul]
    exact ev_congr fun f hf => hφ e he f hf
  rw [ev_congr (ψ := fun k1 => evT φ b * φ k1) this, ev_smul, Int.mul_comm]
/-- a product of n drawn pieces -/
structure Tm (n : Nat) (t : TD) : Prop where
  dk : Dk t
  nz : ∀ e ∈ t, e.2 ≠ 0
  len : t.length ≤ 3 ^ n
  nr : nrT t ≤ 11 ^ n
  kn : Kn t
  le : ∀ e ∈ t, e.1.1 ≤ 2 * n ∧ e.1.2 ≤ 2 * n
  pos : 0 < evT phi t
  tot : ∀ e ∈ t, e.1.1 + e.1.2 ≤ 2 * n
theorem Tm.times {m : Nat} {a b : TD} (ha : Tm m a) (hb : Tm 1 b) : Tm (m + 1) (bareT (timesT a b)) := by
  obtain ⟨h1, h2, h3, h4⟩ := times_spec phi a b
  have hm := times_mem (fun k => 0 ≤ k.1 ∧ 0 ≤ k.2 ∧ k.1 ≤ 2 * (m + 1 : Nat) ∧ k.2 ≤ 2 * (m + 1 : Nat) ∧ k.1 + k.2 ≤ 2 * (m + 1 : Nat)) (fun _ => True) (a := a) (b := b) (fun _ _ => trivial) fun e he f hf => by
    have := ha.kn e he
    have := ha.le e he
    have := hb.kn f hf
    have := hb.le f hf
    have := ha.tot e he
    have := hb.tot f hf
    simp only [kadd]
    omega
  refine ⟨dk_bare h1, fun e he => (mem_bare.mp he).2, ?_, ?_, fun e he => ?_, fun e he => ?_, ?_, fun e he => (hm e (mem_bare.mp he).1).2.2.2.2⟩
  · refine Nat.le_trans (len_bare _) (Nat.le_trans h4 ?_)
    rw [Nat.pow_succ]
    exact Nat.mul_le_mul ha.len (by simpa using hb.len)
  · rw [nr_bare]
    refine Nat.le_trans h3 ?_
    rw [Nat.pow_succ]
    exact Nat.mul_le_mul ha.nr (by simpa using hb.nr)
  · have := hm e (mem_bare.mp he).1; exact ⟨this.1, this.2.1⟩
  · have := hm e (mem_bare.mp he).1; exact ⟨this.2.2.1, this.2.2.2.1⟩
  · rw [ev_bare, ev_times' fun e he f hf => phi_add (ha.kn e he).1 (ha.kn e he).2 (hb.kn f hf).1 (hb.kn f hf).2]
    exact Int.mul_pos ha.pos hb.pos
end PL
namespace PL
open PySem PySem.Spec PyProof.Rows L2
end PL
namespace PL
open PySem PySem.Spec PyProof.Rows L2
theorem dvd_gcdF (d : Nat) : ∀ (l : List Int) (g : Nat), d ∣ gcdF g l ↔ d ∣ g ∧ ∀ x ∈ l, (d : Int) ∣ x
  | [], g => by simp [gcdF]
  | x :: l, g => by
    rw [gcdF_cons, dvd_gcdF d l, ← Int.natCast_dvd_natCast, Int.dvd_coe_gcd_iff, Int.natCast_dvd_natCast]
    simp only [List.mem_cons, forall_eq_or_imp, and_assoc]
theorem dvd_ext {a b : Nat} (h : ∀ d, d ∣ a ↔ d ∣ b) : a = b := Nat.dvd_antisymm ((h a).mp (Nat.dvd_refl a)) ((h b).mpr (Nat.dvd_refl b))
/-- the greatest common divisor of a plane -/
def gcdP (ps : List (List Int)) : Nat := gcdF 0 (ps.map fun l => (gcdF 0 l : Int))
theorem dvd_gcdP {d : Nat} {ps : List (List Int)} : d ∣ gcdP ps ↔ ∀ l ∈ ps, ∀ x ∈ l, (d : Int) ∣ x := by
  unfold gcdP
  rw [dvd_gcdF]
  constructor
  · intro h l hl x hx
    have := h.2 _ (List.mem_map_of_mem hl)
    have := (dvd_gcdF d l 0).mp (Int.natCast_dvd_natCast.mp this)
    exact this.2 x hx
  · intro h
    refine ⟨Nat.dvd_zero _, fun y hy => ?_⟩
    obtain ⟨l, hl, rfl⟩ := List.mem_map.mp hy
    exact Int.natCast_dvd_natCast.mpr ((dvd_gcdF d l 0).mpr ⟨Nat.dvd_zero _, h l hl⟩)
theorem co_mem {ps : List (List Int)} {l : List Int} {x : Int} (hl : l ∈ ps) (hx : x ∈ l) : ∃ i j, co ps i j = x := by
  obtain ⟨i, hi, rfl⟩ := List.getElem_of_mem hl
  obtain ⟨j, hj, rfl⟩ := List.getElem_of_mem hx
  refine ⟨i, j, ?_⟩
  unfold co
  rw [List.getD_eq_getElem?_getD (l := ps), List.getElem?_eq_getElem hi]
  show ps[i].getD j 0 = _
  rw [List.getD_eq_getElem?_getD, List.getElem?_eq_getElem hj]
  rfl
theorem Dof.gcd {t : TD} {ps : List (List Int)} (h : Dof t ps) : gcdF 0 (t.map (·.2)) = gcdP ps := by
  refine dvd_ext fun d => ?_
  rw [dvd_gcdF, dvd_gcdP]
  constructor
  · intro g l hl x hx
    obtain ⟨i, j, e⟩ := co_mem hl hx
    by_cases hz : x = 0
    · rw [hz]; exact Int.dvd_zero _
    · have := h.key (i := i) (j := j) (by rw [e]; exact hz)
      rw [← e]
      exact g.2 _ (List.mem_map.mpr ⟨_, this, rfl⟩)
  · intro g
    refine ⟨Nat.dvd_zero _, fun x hx => ?_⟩
    obtain ⟨e, he, rfl⟩ := List.mem_map.mp hx
    obtain ⟨i, j, _, e2, hi, hj⟩ := h.mem he
    rw [e2]
    unfold co
    rw [List.getD_eq_getElem?_getD (l := ps), List.getElem?_eq_getElem hi]
    show (d : Int) ∣ ps[i].getD j 0
    rw [List.getD_eq_getElem?_getD, List.getElem?_eq_getElem hj]
    exact g _ (List.getElem_mem hi) _ (List.getElem_mem hj)
def divP (ps : List (List Int)) (c : Int) : List (List Int) := ps.map fun l => divL l c
theorem fdiv_nz {y c : Int} (h : c ∣ y) (hy : y ≠ 0) : y.fdiv c ≠ 0 := fun z => by
  have := fdiv_dvd h
  rw [z, Int.mul_zero] at this
  exact hy this.symm
theorem divP_pl {ps : List (List Int)} {c : Int} (p : Pl ps) (h : ∀ l ∈ ps, ∀ x ∈ l, c ∣ x) : Pl (divP ps c) := by
  refine ⟨fun r hr => ?_, fun r hr => ?_⟩
  · obtain ⟨l, hl, rfl⟩ := List.mem_map.mp hr
    intro x hx
    unfold divL at hx
    rw [List.getLast?_map] at hx
    obtain ⟨y, hy, rfl⟩ := Option.map_eq_some_iff.mp hx
    exact fdiv_nz (h l hl y (List.mem_of_getLast? hy)) (p.tr l hl y hy)
  · unfold divP at hr
    rw [List.getLast?_map] at hr
    obtain ⟨l, hl, rfl⟩ := Option.map_eq_some_iff.mp hr
    have := p.top l hl
    unfold divL
    intro z
    exact this (List.map_eq_nil_iff.mp z)
/-- the number that a plane is divided by -/
def plainC (ps : List (List Int)) : Int := if (ps.getLastD []).getLastD 0 < 0 then 0 - (gcdP ps : Int) else gcdP ps
def plainPl (ps : List (List Int)) : List (List Int) := if ps = [] then [] else divP ps (plainC ps)
theorem plainC_dvd {ps : List (List Int)} : ∀ l ∈ ps, ∀ x ∈ l, plainC ps ∣ x := fun l hl x hx => by
  have h := dvd_gcdP.mp (Nat.dvd_refl (gcdP ps)) l hl x hx
  unfold plainC
  split
  · rw [Int.zero_sub]; exact Int.neg_dvd.mpr h
  · exact h
theorem head_nz {ps : List (List Int)} (p : Pl ps) (hp : ps ≠ []) : (ps.getLastD []).getLastD 0 ≠ 0 ∧ ps.getLastD [] ∈ ps ∧ (ps.getLastD []).getLastD 0 ∈ ps.getLastD [] := by
  have h1 := getD_last hp []
  have h2 : ps.getLastD [] ∈ ps := by
    rw [List.getLastD_eq_getLast?, h1]
    exact List.mem_of_getLast? h1
  have h3 : ps.getLastD [] ≠ [] := by
    rw [List.getLastD_eq_getLast?, h1]
    exact p.top _ h1
  have h4 := getD_last h3 0
  refine ⟨?_, h2, ?_⟩
  · rw [List.getLastD_eq_getLast? (l := ps.getLastD []), h4]
    exact p.tr _ h2 _ h4
  · rw [List.getLastD_eq_getLast? (l := ps.getLastD []), h4]
    exact List.mem_of_getLast? h4
theorem gcdP_nz {ps : List (List Int)} (p : Pl ps) (hp : ps ≠ []) : gcdP ps ≠ 0 := fun z => by
  obtain ⟨h1, h2, h3⟩ := head_nz p hp
  have := dvd_gcdP.mp (Nat.dvd_refl (gcdP ps)) _ h2 _ h3
  rw [z] at this
  exact h1 (by simpa using this)
theorem plainPl_pl {ps : List (List Int)} (p : Pl ps) : Pl (plainPl ps) := by
  unfold plainPl
  split
  · exact ⟨nofun, nofun⟩
  · exact divP_pl p plainC_dvd
end PL
namespace PL
open PySem PySem.Spec PyProof.Rows L2
def headP (ps : List (List Int)) : Int := (ps.getLastD []).getLastD 0
theorem plainC_eq (ps : List (List Int)) : plainC ps = if headP ps < 0 then 0 - (gcdP ps : Int) else gcdP ps := rfl
end PL
namespace PL
open PySem PySem.Spec PyProof.Rows L2
end PL
namespace PL
open PySem PySem.Spec PyProof.Rows L2
def val : List Int → Int → Int
  | [], _ => 0
  | a :: l, x => val l x * x + a
theorem trim_cons (x : Int) (r : List Int) : trimI (x :: r) = if trimI r = [] ∧ x = 0 then [] else x :: trimI r := by
  rw [trimI]
  cases trimI r with
  | nil => by_cases h : x = 0 <;> simp [h]
  | cons y t => simp
theorem val_trim (x : Int) : ∀ l : List Int, val (trimI l) x = val l x
  | [] => rfl
  | a :: l => by
    have ih := val_trim x l
    rw [trim_cons]
    split
    · rename_i h
      rw [h.1] at ih
      simp only [val] at ih ⊢
      rw [← ih, h.2]; simp
    · simp only [val, ih]
theorem trim_getD (i : Nat) : ∀ l : List Int, (trimI l).getD i 0 = l.getD i 0 := by
  intro l
  induction l generalizing i with
  | nil => rfl
  | cons a l ih =>
    rw [trim_cons]
    split
    · rename_i h
      have := ih (i - 1)
      rw [h.1] at this
      cases i with
      | zero => simp [h.2]
      | succ i => simpa using this
    · cases i with
      | zero => rfl
      | succ i => simpa using ih i
theorem val_zeros (x : Int) : ∀ n : Nat, val (List.replicate n 0) x = 0
  | 0 => rfl
  | n + 1 => by simp [List.replicate_succ, val, val_zeros x n]
theorem grow : ∀ {l : List Int}, Tr l → 2 ≤ l.length → ∀ B : Nat, ∃ X : Int, ∀ x, X ≤ x → B < (val l x).natAbs
  | [], _, h, _ => by simp at h
  | [a], _, h, _ => by simp at h
  | [a, c], t, _, B => by
    have hc : c ≠ 0 := t c rfl
    refine ⟨(B + a.natAbs + 1 : Nat), fun x hx => ?_⟩
    have e : val [a, c] x = c * x + a := by simp [val]
    rw [e]
    have : (c * x).natAbs = c.natAbs * x.natAbs := Int.natAbs_mul ..
    have h2 : 1 * x.natAbs ≤ c.natAbs * x.natAbs := Nat.mul_le_mul_right _ (by omega)
    omega
  | a :: b :: c :: l, t, _, B => by
    obtain ⟨X, h⟩ := grow (tr_cons t) (by simp) (B + a.natAbs)
    refine ⟨max X 1, fun x hx => ?_⟩
    have h1 := h x (by omega)
    have e : val (a :: b :: c :: l) x = val (b :: c :: l) x * x + a := rfl
    rw [e]
    generalize val (b :: c :: l) x = v at *
    have : (v * x).natAbs = v.natAbs * x.natAbs := Int.natAbs_mul ..
    have h2 : v.natAbs * 1 ≤ v.natAbs * x.natAbs := Nat.mul_le_mul_left _ (by omega)
    omega
theorem val0 {l : List Int} (t : Tr l) (N : Int) (h : ∀ x, N ≤ x → val l x = 0) : l = [] := by
  match l, t, h with
  | [], _, _ => rfl
  | [a], t, h =>
    have := h N (by omega)
    simp [val] at this
    exact absurd this (t a rfl)
  | a :: b :: l, t, h =>
    obtain ⟨X, g⟩ := grow t (by simp) 0
    have := g (max X N) (by omega)
    rw [h _ (by omega)] at this
    simp at this
theorem val_ext' : ∀ {l m : List Int}, Tr l → Tr m → ∀ N : Int, (∀ x, N ≤ x → val l x = val m x) → l = m
  | [], m, _, t, N, h => (val0 t N fun x hx => (h x hx).symm).symm
  | a :: l, [], t, _, N, h => val0 t N h
  | a :: l, b :: m, t, u, N, h => by
    have t' : Tr l := by
      cases l with
      | nil => exact tr_nil
      | cons c l => exact tr_cons t
    have u' : Tr m := by
      cases m with
      | nil => exact tr_nil
      | cons c l => exact tr_cons u
    have hab : a = b := by
      have e := h (max N ((a - b).natAbs + 1 : Nat)) (by omega)
      have hx : ((a - b).natAbs + 1 : Nat) ≤ max N ((a - b).natAbs + 1 : Nat) := by omega
      generalize max N ((a - b).natAbs + 1 : Nat) = x at e hx
      simp only [val] at e
      have e2 : (val m x - val l x) * x = a - b := by rw [Int.sub_mul]; omega
      by_cases hd : val m x - val l x = 0
      · rw [hd] at e2; omega
      · have h3 : ((val m x - val l x) * x).natAbs = (val m x - val l x).natAbs * x.natAbs := Int.natAbs_mul ..
        have h4 : 1 * x.natAbs ≤ (val m x - val l x).natAbs * x.natAbs := Nat.mul_le_mul_right _ (by omega)
        omega
    subst hab
    have ih := val_ext' t' u' (max N 1) fun x hx => by
      have e := h x (by omega)
      simp only [val] at e
      have e2 : val l x * x = val m x * x := by omega
      exact Int.eq_of_mul_eq_mul_right (by omega) e2
    rw [ih]
theorem val_ext {l m : List Int} (t : Tr l) (u : Tr m) (h : ∀ x, val l x = val m x) : l = m := val_ext' t u 0 fun x _ => h x
/-- lists with the same values have the same numbers -/
theorem val_co {l m : List Int} (h : ∀ x, val l x = val m x) (i : Nat) : l.getD i 0 = m.getD i 0 := by
  have : trimI l = trimI m := val_ext (tr_trim l) (tr_trim m) fun x => by rw [val_trim, val_trim, h]
  rw [← trim_getD, this, trim_getD]
def vP (ps : List (List Int)) (x y : Int) : Int := val (ps.map fun l => val l y) x
theorem vP_nil (x y : Int) : vP [] x y = 0 := rfl
theorem vP_cons (l : List Int) (ps : List (List Int)) (x y : Int) : vP (l :: ps) x y = vP ps x y * x + val l y := rfl
theorem map_getD_val (ps : List (List Int)) (y : Int) (i : Nat) : (ps.map fun l => val l y).getD i 0 = val (ps.getD i []) y := by
  rw [List.getD_eq_getElem?_getD, List.getD_eq_getElem?_getD, List.getElem?_map]
  cases ps[i]? <;> rfl
/-- planes with the same values are one -/
theorem vP_ext {ps qs : List (List Int)} (hp : Pl ps) (hq : Pl qs) (h : ∀ x y, vP ps x y = vP qs x y) : ps = qs := by
  refine pl_ext hp hq fun i j => ?_
  have : ps.getD i [] = qs.getD i [] := val_ext (hp.row i) (hq.row i) fun y => by
    have := val_co (l := ps.map fun l => val l y) (m := qs.map fun l => val l y) (fun x => h x y) i
    rwa [map_getD_val, map_getD_val] at this
  unfold co
  rw [this]
def mono (x y : Int) (k : K2) : Int := x ^ k.1.toNat * y ^ k.2.toNat
theorem mono_nat (x y : Int) (i j : Nat) : mono x y ((i : Int), (j : Int)) = x ^ i * y ^ j := rfl
theorem ev_col (x y : Int) (i : Nat) : ∀ (l : List Int) (j : Nat) (acc : TD), Dk acc → (∀ m : Nat, j ≤ m → cf acc ((i : Int), (m : Int)) = 0) → evT (mono x y) (colT i j l acc) = evT (mono x y) acc + x ^ i * y ^ j * val l y
  | [], j, acc, d, f => by simp [colT, val]
  | a :: l, j, acc, d, f => by
    have e : colT i j (a :: l) acc = colT i (j + 1) l (if a ≠ 0 then putT acc (i, (j : Int)) a else acc) := rfl
    have pv : evT (mono x y) (if a ≠ 0 then putT acc ((i : Int), (j : Int)) a else acc) = evT (mono x y) acc + a * (x ^ i * y ^ j) := by
      split
      · have := ev_put (mono x y) ((i : Int), (j : Int)) a d
        rw [f j (Nat.le_refl _), Int.zero_add] at this
        rw [this, mono_nat]
      · rename_i h
        have : a = 0 := by omega
        rw [this]; simp
    rw [e, ev_col x y i l (j + 1) _ (by split; exact dk_put _ _ d; exact d) fun m hm => by
      split
      · rw [cf_put _ _ _ d, if_neg (fun z => by have := congrArg Prod.snd z; simp at this; omega), f m (by omega)]
      · exact f m (by omega), pv]
    simp only [val, Int.pow_succ]
    grind
theorem ev_dic (x y : Int) : ∀ (ps : List (List Int)) (i : Nat) (acc : TD), Dk acc → (∀ e ∈ acc, e.2 ≠ 0) → (∀ k : K2, (i : Int) ≤ k.1 → cf acc k = 0) → evT (mono x y) (dicT i ps acc) = evT (mono x y) acc + x ^ i * vP ps x y
  | [], i, acc, d, z, f => by simp [dicT, vP_nil]
  | r :: ps, i, acc, d, z, f => by
    obtain ⟨g1, g2, g3, g4⟩ := col_spec (i : Int) r 0 acc d z fun m _ => f _ (Int.le_refl _)
    have e : dicT i (r :: ps) acc = dicT (i + 1) ps (colT i 0 r acc) := rfl
    rw [e, ev_dic x y ps (i + 1) _ g1 g2 fun k hk => by
      rw [g3, if_neg (fun z => by omega), f k (by omega)], ev_col x y i r 0 acc d fun m _ => f _ (Int.le_refl _), vP_cons]
    simp only [Int.pow_succ]
    grind
theorem ev_dict (ps : List (List Int)) (x y : Int) : evT (mono x y) (dictT ps) = vP ps x y := by
  have := ev_dic x y ps 0 [] (by simp [Dk]) nofun fun k _ => cf_nil k
  rw [dictT, this, ev_nil]
  simp
def delT (t : TD) (k : K2) : TD := t.filter fun e => decide (e.1 ≠ k)
theorem del_ne {t : TD} {k : K2} (h : ∀ x ∈ t, x.1 ≠ k) : delT t k = t := List.filter_eq_self.mpr fun x hx => by simp [h x hx]
theorem ev_del (φ : K2 → Int) (k : K2) : ∀ {t : TD}, Dk t → evT φ t = cf t k * φ k + evT φ (delT t k)
  | [], _ => by simp [delT, ev_nil, cf_nil]
  | e :: t, d => by
    have d' := dk_cons.mp d
    rw [ev_cons, cf_cons]
    by_cases h : e.1 = k
    · have : delT (e :: t) k = t := by
        unfold delT
        rw [List.filter_cons, decide_eq_false (by simp [h])]
        exact del_ne fun x hx => by rw [← h]; exact d'.1 x hx
      rw [this, if_pos h, h]
    · have : delT (e :: t) k = e :: delT t k := by
        unfold delT
        rw [List.filter_cons, decide_eq_true h]; rfl
      rw [this, if_neg h, ev_cons, ev_del φ k d'.2]
      omega
theorem dk_del {t : TD} (k : K2) (d : Dk t) : Dk (delT t k) := (List.filter_sublist.map _).nodup d
theorem cf_del (k k' : K2) : ∀ (t : TD), cf (delT t k) k' = if k' = k then 0 else cf t k'
  | [] => by simp [delT, cf_nil]
  | e :: t => by
    have ih := cf_del k k' t
    by_cases h : e.1 = k
    · have : delT (e :: t) k = delT t k := by
        unfold delT
        rw [List.filter_cons, decide_eq_false (by simp [h])]; rfl
      rw [this, ih, cf_cons]
      by_cases h2 : k' = k
      · simp [h2]
      · rw [if_neg h2, if_neg h2, if_neg (fun z => h2 (z.symm.trans h))]
    · have : delT (e :: t) k = e :: delT t k := by
        unfold delT
        rw [List.filter_cons, decide_eq_true h]; rfl
      rw [this, cf_cons, cf_cons, ih]
      by_cases h2 : k' = k
      · rw [h2, if_neg h, if_pos rfl]; simp
      · simp [h2]
theorem ev_same (φ : K2 → Int) : ∀ {t s : TD}, Dk t → Dk s → (∀ k, cf t k = cf s k) → evT φ t = evT φ s
  | [], s, _, ds, h => by
    have hz : ∀ e ∈ s, e.2 = 0 := fun e he => by
      have := cf_mem ds he
      have h2 := h e.1
      unfold cf at h2
      rw [this] at h2
      exact h2.symm
    clear h ds
    rw [ev_nil]
    induction s with
    | nil => rfl
    | cons e s ih => rw [ev_cons, ← ih fun x hx => hz x (List.mem_cons_of_mem _ hx), hz e (by simp)]; simp
  | e :: t, s, dt, ds, h => by
    have d' := dk_cons.mp dt
    rw [ev_del φ e.1 ds, ev_cons]
    have hc := h e.1
    rw [cf_cons, if_pos rfl] at hc
    rw [hc, ev_same φ d'.2 (dk_del e.1 ds) fun k => by
      rw [cf_del]
      by_cases hk : k = e.1
      · rw [if_pos hk]
        by_cases hz : cf t k = 0
        · exact hz
        · exact absurd hk (d'.1 _ (cf_ne hz))
      · rw [if_neg hk, ← h k, cf_cons, if_neg (fun z => hk z.symm)]]
theorem Dof.ev {t : TD} {ps : List (List Int)} (h : Dof t ps) (x y : Int) : evT (mono x y) t = vP ps x y := by
  obtain ⟨h2, _⟩ := dictT_dof ps
  rw [← ev_dict, ev_same _ h.dk h2.dk fun k => by rw [h.eq, h2.eq]]
theorem mono_add {x y : Int} {a b : K2} (h1 : 0 ≤ a.1) (h2 : 0 ≤ a.2) (h3 : 0 ≤ b.1) (h4 : 0 ≤ b.2) : mono x y (kadd a b) = mono x y a * mono x y b := by
  unfold mono kadd
  simp only [Int.toNat_add h1 h3, Int.toNat_add h2 h4, Int.pow_add]
  grind
/-- a plane by its dict: rows of a dict without noughts -/
theorem list_val {t : TD} (d : Dk t) (kn : Kn t) (nz : ∀ e ∈ t, e.2 ≠ 0) (x y : Int) : vP (listT t) x y = evT (mono x y) t := ((listT_dof d kn nz).ev x y).symm
theorem ev_times'' {φ : K2 → Int} {a b : TD} (hφ : ∀ e ∈ a, ∀ f ∈ b, φ (kadd e.1 f.1) = φ e.1 * φ f.1) : evT φ (timesT a b) = evT φ a * evT φ b := by
  rw [(times_spec φ a b).2.1]
  have : ∀ e ∈ a, evT (fun k2 => φ (kadd e.1 k2)) b = evT φ b * φ e.1 := fun e he => by
    rw [Int.mul_comm, ← ev_smul]
    exact ev_congr fun f hf => hφ e he f hf
  rw [ev_congr (ψ := fun k1 => evT φ b * φ k1) this, ev_smul, Int.mul_comm]
/-- a dict of numbers that are not 0 at powers that are no negative numbers -/
structure Gd (t : TD) : Prop where
  dk : Dk t
  kn : Kn t
  nz : ∀ e ∈ t, e.2 ≠ 0
theorem Dof.gd {t : TD} {ps : List (List Int)} (h : Dof t ps) : Gd t := ⟨h.dk, h.kn, h.nz⟩
theorem Gd.dof {t : TD} (h : Gd t) : Dof t (listT t) := listT_dof h.dk h.kn h.nz
theorem Gd.pl {t : TD} (h : Gd t) : Pl (listT t) := listT_pl h.dk h.kn h.nz
theorem Gd.val {t : TD} (h : Gd t) (x y : Int) : vP (listT t) x y = evT (mono x y) t := list_val h.dk h.kn h.nz x y
theorem Gd.times {a b : TD} (ha : Gd a) (hb : Gd b) : Gd (bareT (timesT a b)) ∧ ∀ x y, evT (mono x y) (bareT (timesT a b)) = evT (mono x y) a * evT (mono x y) b := by
  obtain ⟨h1, _⟩ := times_spec (fun _ => 0) a b
  refine ⟨⟨dk_bare h1, fun e he => ?_, fun e he => (mem_bare.mp he).2⟩, fun x y => ?_⟩
  · exact times_mem (fun k => 0 ≤ k.1 ∧ 0 ≤ k.2) (fun _ => True) (a := a) (b := b) (fun _ _ => trivial) (fun e he f hf => by
      have := ha.kn e he
      have := hb.kn f hf
      simp only [kadd]
      omega) e (mem_bare.mp he).1
  · rw [ev_bare, ev_times'' fun e he f hf => mono_add (ha.kn e he).1 (ha.kn e he).2 (hb.kn f hf).1 (hb.kn f hf).2]
def plusT (a b : TD) (n : Int) : TD := b.foldl (fun acc e => putT acc e.1 (cf acc e.1 + n * e.2)) a
theorem plus_spec (φ : K2 → Int) (n : Int) : ∀ (b a : TD), Dk a → Dk (plusT a b n) ∧ evT φ (plusT a b n) = evT φ a + n * evT φ b ∧ nrT (plusT a b n) ≤ nrT a + n.natAbs * nrT b ∧ (plusT a b n).length ≤ a.length + b.length
  | [], a, d => by simp [plusT, d, ev_nil, nrT]
  | e :: b, a, d => by
    obtain ⟨h1, h2, h3, h4⟩ := plus_spec φ n b (putT a e.1 (cf a e.1 + n * e.2)) (dk_put _ _ d)
    refine ⟨h1, ?_, ?_, ?_⟩
    · refine h2.trans ?_
      rw [ev_put _ _ _ d, ev_cons, Int.mul_add, Int.mul_assoc]
      omega
    · have := nr_put e.1 (n * e.2) d
      rw [Int.natAbs_mul] at this
      rw [nr_cons, Nat.mul_add]
      refine Nat.le_trans h3 ?_
      omega
    · have := len_put a e.1 (cf a e.1 + n * e.2)
      refine Nat.le_trans h4 ?_
      simp only [List.length_cons]
      omega
theorem plus_mem (P : K2 → Prop) (n : Int) : ∀ (b a : TD), (∀ e ∈ a, P e.1) → (∀ e ∈ b, P e.1) → ∀ e ∈ plusT a b n, P e.1
  | [], a, h1, h2 => h1
  | e :: b, a, h1, h2 => plus_mem P n b _ (fun x hx => by
      rcases put_mem hx with rfl | ⟨hx, _⟩
      · exact h2 e (by simp)
      · exact h1 x hx) fun x hx => h2 x (List.mem_cons_of_mem _ hx)
theorem Gd.plus {a b : TD} (ha : Gd a) (hb : Gd b) (n : Int) : Gd (bareT (plusT a b n)) ∧ ∀ x y, evT (mono x y) (bareT (plusT a b n)) = evT (mono x y) a + n * evT (mono x y) b := by
  obtain ⟨h1, _⟩ := plus_spec (fun _ => 0) n b a ha.dk
  refine ⟨⟨dk_bare h1, fun e he => plus_mem (fun k => 0 ≤ k.1 ∧ 0 ≤ k.2) n b a ha.kn hb.kn e (mem_bare.mp he).1, fun e he => (mem_bare.mp he).2⟩, fun x y => ?_⟩
  rw [ev_bare, (plus_spec _ n b a ha.dk).2.1]
def dropE : List (List Int) → List (List Int)
  | [] => []
  | l :: r => match dropE r with
    | [] => if l = [] then [] else [l]
    | y :: t => l :: y :: t
theorem dropE_cons (l : List Int) (r : List (List Int)) : dropE (l :: r) = if dropE r = [] ∧ l = [] then [] else l :: dropE r := by
  rw [dropE]
  cases dropE r with
  | nil => by_cases h : l = [] <;> simp [h]
  | cons y t => simp
theorem dropE_snoc0 (l : List (List Int)) : dropE (l ++ [[]]) = dropE l := by
  induction l with
  | nil => rfl
  | cons x r ih => simp only [List.cons_append, dropE, ih]
theorem dropE_mem {l : List (List Int)} {x : List Int} (h : x ∈ dropE l) : x ∈ l := by
  induction l with
  | nil => exact h
  | cons y r ih =>
    rw [dropE_cons] at h
    split at h
    · cases h
    · rcases List.mem_cons.mp h with q | q
      · simp [q]
      · exact List.mem_cons_of_mem _ (ih q)
theorem dropE_last {l : List (List Int)} {x : List Int} (h : (dropE l).getLast? = some x) : x ≠ [] := by
  induction l with
  | nil => cases h
  | cons y r ih =>
    rw [dropE_cons] at h
    split at h
    · cases h
    · rename_i hn
      cases e : dropE r with
      | nil =>
        rw [e] at h hn
        simp at h hn
        rw [← h]; exact hn
      | cons z t =>
        rw [e] at h ih
        rw [List.getLast?_cons_cons] at h
        exact ih h
theorem dropE_len (l : List (List Int)) : (dropE l).length ≤ l.length := by
  induction l with
  | nil => simp [dropE]
  | cons y r ih =>
    rw [dropE_cons]
    split
    · simp
    · simp only [List.length_cons]; omega
theorem vP_dropE (x y : Int) : ∀ l : List (List Int), vP (dropE l) x y = vP l x y
  | [] => rfl
  | a :: l => by
    have ih := vP_dropE x y l
    rw [dropE_cons]
    split
    · rename_i h
      rw [h.1] at ih
      rw [vP_cons, ← ih, h.2]
      simp [vP_nil, val]
    · rw [vP_cons, vP_cons, ih]
def trP (rows : List (List Int)) : List (List Int) := dropE (rows.map trimI)
theorem trP_pl (rows : List (List Int)) : Pl (trP rows) := ⟨fun r hr => by
    obtain ⟨l, _, rfl⟩ := List.mem_map.mp (dropE_mem hr)
    exact tr_trim l, fun r hr => dropE_last hr⟩
theorem trP_val (rows : List (List Int)) (x y : Int) : vP (trP rows) x y = vP rows x y := by
  unfold trP
  rw [vP_dropE]
  induction rows with
  | nil => rfl
  | cons l r ih => rw [List.map_cons, vP_cons, vP_cons, ih, val_trim]
theorem trP_row {rows : List (List Int)} {B : Nat} (h : ∀ r ∈ rows, r.length ≤ B) : ∀ r ∈ trP rows, r.length ≤ B := fun r hr => by
  obtain ⟨l, hl, rfl⟩ := List.mem_map.mp (dropE_mem hr)
  exact Nat.le_trans (trimI_len l) (h l hl)
theorem gd_dict (ps : List (List Int)) : Gd (dictT ps) := (dictT_dof ps).1.gd
def IsSl (f g : Int → Int) : Prop := ∀ x h : Int, ∃ r, f (x + h) = f x + h * g x + h * h * r
theorem IsSl.mul {f f' g g' : Int → Int} (a : IsSl f f') (b : IsSl g g') : IsSl (fun x => f x * g x) fun x => f' x * g x + f x * g' x := fun x h => by
  obtain ⟨r, e1⟩ := a x h
  obtain ⟨s, e2⟩ := b x h
  refine ⟨f x * s + f' x * g' x + h * f' x * s + r * g x + h * r * g' x + h * h * r * s, ?_⟩
  simp only [e1, e2]
  grind
theorem IsSl.lin {f f' g g' : Int → Int} (n : Int) (a : IsSl f f') (b : IsSl g g') : IsSl (fun x => f x + n * g x) fun x => f' x + n * g' x := fun x h => by
  obtain ⟨r, e1⟩ := a x h
  obtain ⟨s, e2⟩ := b x h
  refine ⟨r + n * s, ?_⟩
  simp only [e1, e2]
  grind
theorem val_map (k x : Int) : ∀ l : List Int, val (l.map fun y => k * y) x = k * val l x
  | [] => by simp [val]
  | a :: l => by
    simp only [List.map_cons, val, val_map k x l]
    grind
/-- a sum of powers, their sums at most n -/
def Pd (n : Int) (F : Int → Int → Int) : Prop := ∃ t : TD, Gd t ∧ (∀ e ∈ t, e.1.1 + e.1.2 ≤ n) ∧ ∀ x y, evT (mono x y) t = F x y
theorem gd_nil : Gd [] := ⟨by simp [Dk], nofun, nofun⟩
theorem Pd.zero (n : Int) : Pd n fun _ _ => 0 := ⟨[], gd_nil, nofun, fun _ _ => rfl⟩
theorem Pd.mono {n m : Int} {F : Int → Int → Int} (h : Pd n F) (hm : n ≤ m) : Pd m F := by
  obtain ⟨t, h1, h2, h3⟩ := h
  exact ⟨t, h1, fun e he => Int.le_trans (h2 e he) hm, h3⟩
theorem Pd.congr {n : Int} {F G : Int → Int → Int} (h : Pd n F) (e : ∀ x y, F x y = G x y) : Pd n G := by
  obtain ⟨t, h1, h2, h3⟩ := h
  exact ⟨t, h1, h2, fun x y => by rw [h3, e]⟩
theorem Pd.lin {n : Int} {F G : Int → Int → Int} (c : Int) (hF : Pd n F) (hG : Pd n G) : Pd n fun x y => F x y + c * G x y := by
  obtain ⟨t, h1, h2, h3⟩ := hF
  obtain ⟨s, k1, k2, k3⟩ := hG
  obtain ⟨g1, g2⟩ := h1.plus k1 c
  exact ⟨_, g1, fun e he => plus_mem (fun k => k.1 + k.2 ≤ n) c s t h2 k2 e (mem_bare.mp he).1, fun x y => by rw [g2, h3, k3]⟩
theorem Pd.mul {n m : Int} {F G : Int → Int → Int} (hF : Pd n F) (hG : Pd m G) : Pd (n + m) fun x y => F x y * G x y := by
  obtain ⟨t, h1, h2, h3⟩ := hF
  obtain ⟨s, k1, k2, k3⟩ := hG
  obtain ⟨g1, g2⟩ := h1.times k1
  refine ⟨_, g1, fun e he => times_mem (fun k => k.1 + k.2 ≤ n + m) (fun _ => True) (a := t) (b := s) (fun _ _ => trivial) (fun e he f hf => ?_) e (mem_bare.mp he).1, fun x y => by rw [g2, h3, k3]⟩
  have := h2 e he
  have := k2 f hf
  simp only [kadd]
  omega
theorem Pd.const (c : Int) : Pd 0 fun _ _ => c := by
  by_cases h : c = 0
  · rw [h]; exact Pd.zero 0
  · refine ⟨[((0, 0), c)], ⟨by simp [Dk], fun e he => ?_, fun e he => ?_⟩, fun e he => ?_, fun x y => by simp [evT, PL.mono]⟩
    all_goals
      simp only [List.mem_singleton] at he
      subst he
      simp [h]
theorem Pd.x : Pd 1 fun x _ => x := by
  refine ⟨[((1, 0), 1)], ⟨by simp [Dk], fun e he => ?_, fun e he => ?_⟩, fun e he => ?_, fun x y => by simp [evT, PL.mono, show (1 : Int).toNat = 1 from rfl, Int.pow_succ]⟩
  all_goals
    simp only [List.mem_singleton] at he
    subst he
    simp
theorem Pd.y : Pd 1 fun _ y => y := by
  refine ⟨[((0, 1), 1)], ⟨by simp [Dk], fun e he => ?_, fun e he => ?_⟩, fun e he => ?_, fun x y => by simp [evT, PL.mono, show (1 : Int).toNat = 1 from rfl, Int.pow_succ]⟩
  all_goals
    simp only [List.mem_singleton] at he
    subst he
    simp
theorem Pd.pow {n : Int} {F : Int → Int → Int} (h : Pd n F) : ∀ k : Nat, Pd (n * k) fun x y => F x y ^ k
  | 0 => by
    refine (Pd.const 1).congr (fun x y => by simp) |>.mono (by simp)
  | k + 1 => by
    refine ((Pd.pow h k).mul h).congr (fun x y => by rw [Int.pow_succ]) |>.mono ?_
    rw [show ((k + 1 : Nat) : Int) = k + 1 by omega, Int.mul_add]
    omega
/-- another plane's letters put in -/
theorem Pd.put {n : Int} {F X Y : Int → Int → Int} (h : Pd n F) (hX : Pd 1 X) (hY : Pd 1 Y) : Pd n fun x y => F (X x y) (Y x y) := by
  obtain ⟨t, h1, h2, h3⟩ := h
  have go : ∀ t : TD, Kn t → (∀ e ∈ t, e.1.1 + e.1.2 ≤ n) → Pd n fun x y => evT (PL.mono (X x y) (Y x y)) t := by
    intro t
    induction t with
    | nil => exact fun _ _ => Pd.zero n
    | cons e t ih =>
      intro kn hl
      have ih := ih (fun f hf => kn f (List.mem_cons_of_mem _ hf)) fun f hf => hl f (List.mem_cons_of_mem _ hf)
      have k := kn e (by simp)
      have l := hl e (by simp)
      have p := ((hX.pow e.1.1.toNat).mul (hY.pow e.1.2.toNat)).mono (m := n) (by omega)
      exact (ih.lin e.2 p).congr fun x y => by rw [ev_cons]; unfold PL.mono; omega
  exact (go t h1.kn h2).congr fun x y => h3 _ _
/-- the numbers of a dict are those of its values -/
theorem gd_uniq {t s : TD} (ht : Gd t) (hs : Gd s) (h : ∀ x y, evT (mono x y) t = evT (mono x y) s) (k : K2) : cf t k = cf s k := by
  have e : listT t = listT s := vP_ext ht.pl hs.pl fun x y => by rw [ht.val, hs.val, h]
  rw [ht.dof.eq, hs.dof.eq, e]
end PL
namespace PL
open PySem PySem.Spec PyProof.Rows L2
def addRow : List Int → Nat → Int → List Int → List Int
  | row, _, _, [] => row
  | row, b, k, a :: l => addRow (row.set b (row.getD b 0 + k * a)) (b + 1) k l
theorem val_set (y : Int) : ∀ (row : List Int) (b : Nat) (c : Int), b < row.length → val (row.set b (row.getD b 0 + c)) y = val row y + c * y ^ b
  | [], b, c, h => by simp at h
  | a :: row, 0, c, h => by simp [val]; omega
  | a :: row, b + 1, c, h => by
    have ih := val_set y row b c (by simpa using h)
    simp only [List.set_cons_succ, List.getD_cons_succ, val, ih, Int.pow_succ]
    grind
theorem addRow_len : ∀ (l row : List Int) (b : Nat) (k : Int), (addRow row b k l).length = row.length
  | [], row, b, k => rfl
  | a :: l, row, b, k => by rw [addRow, addRow_len l, List.length_set]
theorem addRow_val (y k : Int) : ∀ (l row : List Int) (b : Nat), b + l.length ≤ row.length → val (addRow row b k l) y = val row y + k * y ^ b * val l y
  | [], row, b, h => by simp [addRow, val]
  | a :: l, row, b, h => by
    simp only [List.length_cons] at h
    rw [addRow, addRow_val y k l _ (b + 1) (by rw [List.length_set]; omega), val_set y row b (k * a) (by omega)]
    simp only [val, Int.pow_succ]
    grind
theorem vP_set (x y : Int) : ∀ (rows : List (List Int)) (i : Nat) (r : List Int), i < rows.length → vP (rows.set i r) x y = vP rows x y + x ^ i * (val r y - val (rows.getD i []) y)
  | [], i, r, h => by simp at h
  | l :: rows, 0, r, h => by simp only [List.set_cons_zero, vP_cons, List.getD_cons_zero, Int.pow_zero]; omega
  | l :: rows, i + 1, r, h => by
    have ih := vP_set x y rows i r (by simpa using h)
    simp only [List.set_cons_succ, vP_cons, List.getD_cons_succ, ih, Int.pow_succ]
    grind
end PL
namespace PL
open PySem PySem.Spec PyProof.Rows L2
theorem map_inj_nodup {α β γ : Type} {f : α → β} {g : α → γ} : ∀ {l : List α}, (l.map f).Nodup → (∀ a ∈ l, ∀ b ∈ l, g a = g b → f a = f b) → (l.map g).Nodup
  | [], _, _ => .nil
  | x :: l, h, i => by
    rw [List.map_cons, List.nodup_cons] at h ⊢
    refine ⟨fun z => ?_, map_inj_nodup h.2 fun a ha b hb => i a (List.mem_cons_of_mem _ ha) b (List.mem_cons_of_mem _ hb)⟩
    obtain ⟨y, hy, e⟩ := List.mem_map.mp z
    exact h.1 (List.mem_map.mpr ⟨y, hy, i y (List.mem_cons_of_mem _ hy) x (by simp) e⟩)
end PL
namespace PL
open PySem PySem.Spec PyProof.Rows L2
section
variable {X : Cx} {es : List Expr} {pos : Pos}
def gSeqD (n : Nat) (u : List D → Slots → Option Slots) : Tg := fun d env => match d with
  | .tup l => if l.length = n then u l env else none
  | .lst l => if l.length = n then u l env else none
  | _ => none
theorem g_seq {nn : Bool} {k n : Nat} {js : List Nat} {u : List D → Slots → Option Slots} (hc : X.calm = true) (h : GsOk X nn es js u) (hn : (assignEach es X.env).length = n := by rfl) (hst : (assignEach es X.env).findIdx? (·.1) = none := by rfl) : GOk X nn (.Tuple es k pos) js (gSeqD n u) :=
  ⟨fun pins s σ H v uv Q I r h0 => by
    obtain ⟨B, env, O, d, env', st, hd, ht, hq⟩ := h0
    unfold gSeqD at ht
    split at ht
    · rename_i l
      split at ht
      · rename_i hl
        exact (g_tup (nn := nn) (k := k) (n := n) (pos := pos) hc h hn hst).run pins s σ H v uv Q I r ⟨B, env, O, .tup l, env', st, hd, by unfold gTupD; simp only []; rw [if_pos hl]; exact ht, hq⟩
      · cases ht
    · rename_i l
      split at ht
      · rename_i hl
        obtain ⟨a, xs, rfl, ha, nw, il⟩ := hd
        exact (pg_unl hc h hn hst).run pins s σ H _ uv Q I r ⟨a, xs, rfl, SqL.of ha, il.length.trans hl, B, env, O, l, env', st, il, ht, hq⟩
      · cases ht
    · cases ht⟩
end
end PL
namespace PL
open PySem PySem.Spec PyProof.Rows L2
theorem Tm.gd {n : Nat} {t : TD} (h : Tm n t) : Gd t := ⟨h.dk, h.kn, h.nz⟩
/-- f has the slopes fx and fy -/
structure Sl2 (f fx fy : Int → Int → Int) : Prop where
  x : ∀ y, IsSl (fun x => f x y) fun x => fx x y
  y : ∀ x, IsSl (fun y => f x y) fun y => fy x y
/-- along a straight line -/
theorem Sl2.along {f fx fy fxx fxy : Int → Int → Int} (h : Sl2 f fx fy) (hx : Sl2 fx fxx fxy) (a c d e : Int) : IsSl (fun t => f (a * t + c) (d * t + e)) fun t => a * fx (a * t + c) (d * t + e) + d * fy (a * t + c) (d * t + e) := fun t u => by
  obtain ⟨r, e1⟩ := h.x (d * (t + u) + e) (a * t + c) (a * u)
  obtain ⟨s, e2⟩ := h.y (a * t + c) (d * t + e) (d * u)
  obtain ⟨q, e3⟩ := hx.y (a * t + c) (d * t + e) (d * u)
  refine ⟨a * a * r + d * d * s + a * d * fxy (a * t + c) (d * t + e) + a * d * d * u * q, ?_⟩
  have k1 : a * t + c + a * u = a * (t + u) + c := by grind
  have k2 : d * t + e + d * u = d * (t + u) + e := by grind
  simp only [k1] at e1
  simp only [k2] at e2 e3
  show f (a * (t + u) + c) (d * (t + u) + e) = f (a * t + c) (d * t + e) + u * (a * fx (a * t + c) (d * t + e) + d * fy (a * t + c) (d * t + e)) + u * u * (a * a * r + d * d * s + a * d * fxy (a * t + c) (d * t + e) + a * d * d * u * q)
  rw [e1, e2, e3]
  grind
/-- the slopes of what letters changed make -/
theorem Sl2.put {f fx fy fxx fxy : Int → Int → Int} (h : Sl2 f fx fy) (hx : Sl2 fx fxx fxy) (a b c d e g : Int) :
    Sl2 (fun x y => f (a * x + b * y + c) (d * x + e * y + g)) (fun x y => a * fx (a * x + b * y + c) (d * x + e * y + g) + d * fy (a * x + b * y + c) (d * x + e * y + g)) fun x y => b * fx (a * x + b * y + c) (d * x + e * y + g) + e * fy (a * x + b * y + c) (d * x + e * y + g) := by
  refine ⟨fun y => ?_, fun x => ?_⟩
  · have := h.along hx a (b * y + c) d (e * y + g)
    simpa only [← Int.add_assoc] using this
  · have := h.along hx b (a * x + c) e (d * x + g)
    have k : ∀ t, b * t + (a * x + c) = a * x + b * t + c := fun t => by omega
    have k2 : ∀ t, e * t + (d * x + g) = d * x + e * t + g := fun t => by omega
    simpa only [k, k2] using this
end PL
namespace PL
open PySem PySem.Spec PyProof.Rows L2
end PL
namespace PL
open PySem PySem.Spec PyProof.Rows L2
end PL
namespace PL
open PySem PySem.Spec PyProof.Rows L2
def lexlt (a b : K2) : Prop := a.1 < b.1 ∨ (a.1 = b.1 ∧ a.2 < b.2)
def ksub (a b : K2) : K2 := (a.1 - b.1, a.2 - b.2)
theorem lex_tri {a b : K2} (h : a ≠ b) : lexlt a b ∨ lexlt b a := by
  unfold lexlt
  by_cases h1 : a.1 = b.1
  · have : a.2 ≠ b.2 := fun z => h (Prod.ext h1 z)
    omega
  · omega
theorem cf_times {a b : TD} (k : K2) (db : Dk b) : cf (timesT a b) k = evT (fun k1 => cf b (ksub k k1)) a := by
  have s := times_spec (fun k' => if k' = k then 1 else 0) a b
  rw [cf_ev s.1, s.2.1]
  refine ev_congr fun e _ => ?_
  rw [cf_ev db]
  refine ev_congr fun f _ => ?_
  have : kadd e.1 f.1 = k ↔ f.1 = ksub k e.1 := by
    unfold kadd ksub
    constructor
    · intro h
      rw [← h]
      exact Prod.ext (by show f.1.1 = e.1.1 + f.1.1 - e.1.1; omega) (by show f.1.2 = e.1.2 + f.1.2 - e.1.2; omega)
    · intro h
      rw [h]
      exact Prod.ext (by show e.1.1 + (k.1 - e.1.1) = k.1; omega) (by show e.1.2 + (k.2 - e.1.2) = k.2; omega)
  by_cases h : kadd e.1 f.1 = k
  · rw [if_pos h, if_pos (this.mp h)]
  · rw [if_neg h, if_neg (fun z => h (this.mpr z))]
theorem ev_dvd {m : Int} {φ : K2 → Int} : ∀ {t : TD}, (∀ e ∈ t, m ∣ e.2 * φ e.1) → m ∣ evT φ t
  | [], _ => ⟨0, by simp [ev_nil]⟩
  | e :: t, h => by
    rw [ev_cons]
    exact Int.dvd_add (h e (by simp)) (ev_dvd fun x hx => h x (List.mem_cons_of_mem _ hx))
theorem mem_del {t : TD} {k : K2} {e : K2 × Int} (h : e ∈ delT t k) : e ∈ t ∧ e.1 ≠ k := by
  obtain ⟨h1, h2⟩ := List.mem_filter.mp h
  exact ⟨h1, of_decide_eq_true h2⟩
theorem conv {m : Int} {a b : TD} {ka kb : K2} (da : Dk a) (db : Dk b) (ha : ∀ e ∈ a, lexlt ka e.1 → m ∣ e.2) (hb : ∀ k, lexlt kb k → m ∣ cf b k) : m ∣ cf (timesT a b) (kadd ka kb) - cf a ka * cf b kb := by
  rw [cf_times _ db, ev_del _ ka da]
  have hk : ksub (kadd ka kb) ka = kb := Prod.ext (by show ka.1 + kb.1 - ka.1 = kb.1; omega) (by show ka.2 + kb.2 - ka.2 = kb.2; omega)
  rw [hk]
  have : ∀ u v : Int, u + v - u = v := fun u v => by omega
  rw [this]
  refine ev_dvd fun e he => ?_
  obtain ⟨h1, h2⟩ := mem_del he
  rcases lex_tri h2 with h | h
  · refine Int.dvd_mul_of_dvd_right (hb _ ?_)
    unfold lexlt ksub kadd at *
    simp only [] at h ⊢
    omega
  · exact Int.dvd_mul_of_dvd_left (ha e h1 h)
theorem lex_max : ∀ {t : TD}, t ≠ [] → ∃ e ∈ t, ∀ f ∈ t, ¬ lexlt e.1 f.1
  | [e], _ => ⟨e, by simp, fun f hf => by
      rw [List.mem_singleton.mp hf]
      unfold lexlt; omega⟩
  | e :: f :: t, _ => by
    obtain ⟨g, h1, h2⟩ := lex_max (t := f :: t) (by simp)
    by_cases h : lexlt g.1 e.1
    · refine ⟨e, by simp, fun x hx => ?_⟩
      rcases List.mem_cons.mp hx with rfl | hx
      · unfold lexlt; omega
      · have := h2 x hx
        unfold lexlt at *
        omega
    · refine ⟨g, List.mem_cons_of_mem _ h1, fun x hx => ?_⟩
      rcases List.mem_cons.mp hx with rfl | hx
      · exact h
      · exact h2 x hx
def Prm (p : Nat) : Prop := 2 ≤ p ∧ ∀ d, d ∣ p → d = 1 ∨ d = p
theorem ex_prm : ∀ (k n : Nat), n ≤ k → 2 ≤ n → ∃ p, Prm p ∧ p ∣ n
  | 0, n, h, h2 => by omega
  | k + 1, n, h, h2 => by
    by_cases hp : ∀ d, d ∣ n → d = 1 ∨ d = n
    · exact ⟨n, ⟨h2, hp⟩, Nat.dvd_refl n⟩
    · have ⟨d, hd⟩ := Classical.not_forall.mp hp
      obtain ⟨d1, hd⟩ := Classical.not_imp.mp hd
      have dn : d ≤ n := Nat.le_of_dvd (by omega) d1
      have d0 : d ≠ 0 := fun z => by rw [z] at d1; have := Nat.eq_zero_of_zero_dvd d1; omega
      obtain ⟨p, hp, hpd⟩ := ex_prm k d (by omega) (by omega)
      exact ⟨p, hp, Nat.dvd_trans hpd d1⟩
theorem Prm.mul {p : Nat} (h : Prm p) {a b : Int} (hd : (p : Int) ∣ a * b) : (p : Int) ∣ a ∨ (p : Int) ∣ b := by
  have h1 : p ∣ a.natAbs * b.natAbs := by
    have := Int.natAbs_dvd_natAbs.mpr hd
    rwa [Int.natAbs_mul, Int.natAbs_natCast] at this
  rcases h.2 _ (Nat.gcd_dvd_left p a.natAbs) with g | g
  · right
    exact Int.ofNat_dvd_left.mpr (Nat.Coprime.dvd_of_dvd_mul_left g h1)
  · left
    have := Nat.gcd_dvd_right p a.natAbs
    rw [g] at this
    exact Int.ofNat_dvd_left.mpr this
theorem dvd_gcdD {d : Nat} (ps : List (List Int)) : d ∣ gcdP ps ↔ ∀ e ∈ dictT ps, (d : Int) ∣ e.2 := by
  rw [← (dictT_dof ps).1.gcd, dvd_gcdF]
  constructor
  · exact fun h e he => h.2 _ (List.mem_map.mpr ⟨e, he, rfl⟩)
  · refine fun h => ⟨Nat.dvd_zero _, fun x hx => ?_⟩
    obtain ⟨e, he, rfl⟩ := List.mem_map.mp hx
    exact h e he
theorem dvd_cf {d : Nat} {ps : List (List Int)} (h : d ∣ gcdP ps) (k : K2) : (d : Int) ∣ cf (dictT ps) k := by
  by_cases hz : cf (dictT ps) k = 0
  · rw [hz]; exact Int.dvd_zero _
  · exact (dvd_gcdD ps).mp h _ (cf_ne hz)
theorem prod_cf {p q r : List (List Int)} (h : ∀ x y, vP r x y = vP p x y * vP q x y) (k : K2) : cf (dictT r) k = cf (timesT (dictT p) (dictT q)) k := by
  obtain ⟨g1, g2⟩ := (gd_dict p).times (gd_dict q)
  rw [gd_uniq (gd_dict r) g1 (fun x y => by rw [ev_dict, g2, ev_dict, ev_dict, h]) k, cf_bare _ (times_spec (fun _ => 0) _ _).1]
theorem prm_gcd {p q r : List (List Int)} (h : ∀ x y, vP r x y = vP p x y * vP q x y) {π : Nat} (hp : Prm π) (hd : π ∣ gcdP r) : π ∣ gcdP p ∨ π ∣ gcdP q := by
  have top : ∀ ps : List (List Int), ¬ π ∣ gcdP ps → ∃ e ∈ dictT ps, ¬ (π : Int) ∣ e.2 ∧ ∀ f ∈ dictT ps, lexlt e.1 f.1 → (π : Int) ∣ f.2 := fun ps hn => by
    have hne : (dictT ps).filter (fun e => decide (¬ (π : Int) ∣ e.2)) ≠ [] := fun z => hn ((dvd_gcdD ps).mpr fun e he => by
      by_cases hh : (π : Int) ∣ e.2
      · exact hh
      · have : e ∈ (dictT ps).filter (fun e => decide (¬ (π : Int) ∣ e.2)) := List.mem_filter.mpr ⟨he, decide_eq_true hh⟩
        rw [z] at this; cases this)
    obtain ⟨e, h1, h2⟩ := lex_max hne
    obtain ⟨h1, h3⟩ := List.mem_filter.mp h1
    refine ⟨e, h1, of_decide_eq_true h3, fun f hf hl => ?_⟩
    by_cases hh : (π : Int) ∣ f.2
    · exact hh
    · exact absurd hl (h2 f (List.mem_filter.mpr ⟨hf, decide_eq_true hh⟩))
  by_cases h1 : π ∣ gcdP p
  · exact .inl h1
  · by_cases h2 : π ∣ gcdP q
    · exact .inr h2
    · obtain ⟨e, e1, e2, e3⟩ := top p h1
      obtain ⟨f, f1, f2, f3⟩ := top q h2
      have ce : cf (dictT p) e.1 = e.2 := by unfold cf; rw [cf_mem (gd_dict p).dk e1]; rfl
      have cfq : cf (dictT q) f.1 = f.2 := by unfold cf; rw [cf_mem (gd_dict q).dk f1]; rfl
      have cv := conv (m := (π : Int)) (gd_dict p).dk (gd_dict q).dk e3 (fun k hk => by
        by_cases hz : cf (dictT q) k = 0
        · rw [hz]; exact Int.dvd_zero _
        · exact f3 _ (cf_ne hz) hk)
      rw [← prod_cf h, ce, cfq] at cv
      have := Int.dvd_sub (dvd_cf hd (kadd e.1 f.1)) cv
      rw [Int.sub_sub_self] at this
      rcases hp.mul this with z | z
      · exact absurd z e2
      · exact absurd z f2
theorem val_divL {c : Int} (y : Int) : ∀ {l : List Int}, (∀ x ∈ l, c ∣ x) → c * val (divL l c) y = val l y
  | [], _ => by simp [divL, val]
  | a :: l, h => by
    have ih := val_divL y (l := l) fun x hx => h x (List.mem_cons_of_mem _ hx)
    have ha := fdiv_dvd (h a (by simp))
    unfold divL at ih ⊢
    rw [List.map_cons]
    simp only [val]
    rw [← ih, Int.mul_add, ha, Int.mul_assoc]
theorem vP_divP {c : Int} (x y : Int) : ∀ {ps : List (List Int)}, (∀ l ∈ ps, ∀ x ∈ l, c ∣ x) → c * vP (divP ps c) x y = vP ps x y
  | [], _ => by simp [divP, vP_nil]
  | l :: ps, h => by
    have ih := vP_divP x y (ps := ps) fun m hm => h m (List.mem_cons_of_mem _ hm)
    unfold divP at ih ⊢
    rw [List.map_cons, vP_cons, vP_cons, ← ih, Int.mul_add, val_divL y (h l (by simp)), Int.mul_assoc]
theorem gcd_all (ps : List (List Int)) : ∀ l ∈ ps, ∀ x ∈ l, (gcdP ps : Int) ∣ x := dvd_gcdP.mp (Nat.dvd_refl _)
/-- divided by a divisor, so is the greatest one -/
theorem gcd_div {ps : List (List Int)} {c : Nat} (hc : 0 < c) (h : ∀ l ∈ ps, ∀ x ∈ l, (c : Int) ∣ x) : gcdP ps = c * gcdP (divP ps c) := by
  have key : ∀ d : Nat, d ∣ gcdP (divP ps c) ↔ c * d ∣ gcdP ps := fun d => by
    rw [dvd_gcdP, dvd_gcdP]
    constructor
    · intro g l hl x hx
      have e := fdiv_dvd (h l hl x hx)
      have := g (divL l c) (List.mem_map.mpr ⟨l, hl, rfl⟩) (x.fdiv c) (List.mem_map.mpr ⟨x, hx, rfl⟩)
      rw [← e, Int.natCast_mul]
      exact Int.mul_dvd_mul_left _ this
    · intro g m hm z hz
      obtain ⟨l, hl, rfl⟩ := List.mem_map.mp hm
      obtain ⟨x, hx, rfl⟩ := List.mem_map.mp hz
      have e := fdiv_dvd (h l hl x hx)
      have := g l hl x hx
      rw [← e, Int.natCast_mul] at this
      exact Int.dvd_of_mul_dvd_mul_left (by omega) this
  have hcg : c ∣ gcdP ps := dvd_gcdP.mpr h
  obtain ⟨k, hk⟩ := hcg
  refine Nat.dvd_antisymm ?_ ((key _).mp (Nat.dvd_refl _))
  rw [hk]
  exact Nat.mul_dvd_mul_left c ((key k).mpr (by rw [hk]; exact Nat.dvd_refl _))
theorem gcd_one {ps : List (List Int)} (h : gcdP ps ≠ 0) : gcdP (divP ps (gcdP ps)) = 1 := by
  have := gcd_div (ps := ps) (c := gcdP ps) (by omega) (gcd_all ps)
  have h2 : gcdP ps * 1 = gcdP ps * gcdP (divP ps (gcdP ps)) := by omega
  exact (Nat.eq_of_mul_eq_mul_left (by omega) h2).symm
def hkey (ps : List (List Int)) : K2 := (((ps.length - 1 : Nat) : Int), (((ps.getLastD []).length - 1 : Nat) : Int))
theorem head_top {ps : List (List Int)} (p : Pl ps) (hp : ps ≠ []) : cf (dictT ps) (hkey ps) = headP ps ∧ headP ps ≠ 0 ∧ ∀ e ∈ dictT ps, ¬ lexlt (hkey ps) e.1 := by
  obtain ⟨e, r, h1, h2, h3⟩ := (dictT_dof ps).1.max p hp
  refine ⟨by unfold cf hkey headP; rw [h3]; rfl, (head_nz p hp).1, fun f hf => ?_⟩
  obtain ⟨i, j, e1, e2, hi, hj⟩ := (dictT_dof ps).1.mem hf
  rw [e1]
  unfold lexlt hkey
  simp only []
  by_cases hl : i = ps.length - 1
  · have : ps[i] = ps.getLastD [] := by
      have el := getD_last hp []
      rw [List.getLastD_eq_getLast?, el]
      subst hl
      show _ = ps.getD (ps.length - 1) []
      rw [List.getD_eq_getElem?_getD, List.getElem?_eq_getElem hi]; rfl
    rw [this] at hj
    omega
  · omega
theorem head_mul {p q r : List (List Int)} (hp : Pl p) (hq : Pl q) (hr : Pl r) (np : p ≠ []) (nq : q ≠ []) (h : ∀ x y, vP r x y = vP p x y * vP q x y) : r ≠ [] ∧ headP r = headP p * headP q ∧ hkey r = kadd (hkey p) (hkey q) := by
  obtain ⟨a1, a2, a3⟩ := head_top hp np
  obtain ⟨b1, b2, b3⟩ := head_top hq nq
  have cv := conv (m := 0) (ka := hkey p) (kb := hkey q) (gd_dict p).dk (gd_dict q).dk (fun e he hl => absurd hl (a3 e he)) (fun k hk => by
    by_cases hz : cf (dictT q) k = 0
    · rw [hz]; exact Int.dvd_refl _
    · exact absurd hk (b3 _ (cf_ne hz)))
  rw [← prod_cf h, a1, b1] at cv
  have e0 : cf (dictT r) (kadd (hkey p) (hkey q)) = headP p * headP q := by
    have := Int.zero_dvd.mp cv
    omega
  have nz : headP p * headP q ≠ 0 := Int.mul_ne_zero a2 b2
  have km := cf_ne (t := dictT r) (k := kadd (hkey p) (hkey q)) (by rw [e0]; exact nz)
  have nr : r ≠ [] := fun z => by
    rw [z] at km
    cases km
  obtain ⟨c1, c2, c3⟩ := head_top hr nr
  have k1 := c3 _ km
  have kr := cf_ne (t := dictT r) (k := hkey r) (by rw [c1]; exact c2)
  have k2 : ¬ lexlt (kadd (hkey p) (hkey q)) (hkey r) := by
    have c4 : cf (timesT (dictT p) (dictT q)) (hkey r) ≠ 0 := by rw [← prod_cf h, c1]; exact c2
    have := times_mem (fun k => ¬ lexlt (kadd (hkey p) (hkey q)) k) (fun _ => True) (a := dictT p) (b := dictT q) (fun _ _ => trivial) (fun e he f hf => by
      have := a3 e he
      have := b3 f hf
      unfold lexlt kadd at *
      simp only []
      omega) _ (cf_ne c4)
    exact this
  have ek : hkey r = kadd (hkey p) (hkey q) := by
    by_cases hh : hkey r = kadd (hkey p) (hkey q)
    · exact hh
    · rcases lex_tri hh with z | z
      · exact absurd z k1
      · exact absurd z k2
  exact ⟨nr, by rw [← c1, ek, e0], ek⟩
/-- the greatest common divisor of a product -/
theorem gcdP_mul {p q r : List (List Int)} (hp : Pl p) (hq : Pl q) (hr : Pl r) (np : p ≠ []) (nq : q ≠ []) (h : ∀ x y, vP r x y = vP p x y * vP q x y) : gcdP r = gcdP p * gcdP q := by
  have gp := gcdP_nz hp np
  have gq := gcdP_nz hq nq
  have nr := (head_mul hp hq hr np nq h).1
  have gr := gcdP_nz hr nr
  have dv : gcdP p * gcdP q ∣ gcdP r := (dvd_gcdD r).mpr fun e he => by
    have c : cf (dictT r) e.1 = e.2 := by unfold cf; rw [cf_mem (gd_dict r).dk he]; rfl
    rw [← c, prod_cf h, cf_times _ (gd_dict q).dk, Int.natCast_mul]
    exact ev_dvd fun f hf => Int.mul_dvd_mul ((dvd_gcdD p).mp (Nat.dvd_refl _) f hf) (dvd_cf (Nat.dvd_refl _) _)
  have hpos : 0 < gcdP p * gcdP q := Nat.mul_pos (by omega) (by omega)
  have da : ∀ l ∈ r, ∀ x ∈ l, ((gcdP p * gcdP q : Nat) : Int) ∣ x := dvd_gcdP.mp dv
  have e1 := gcd_div hpos da
  have v1 : ∀ x y, vP (divP r ((gcdP p * gcdP q : Nat) : Int)) x y = vP (divP p (gcdP p)) x y * vP (divP q (gcdP q)) x y := fun x y => by
    have k1 := vP_divP x y da
    have k2 := vP_divP x y (gcd_all p)
    have k3 := vP_divP x y (gcd_all q)
    have k4 := h x y
    rw [← k1, ← k2, ← k3, Int.natCast_mul] at k4
    have k5 : (gcdP p : Int) * (gcdP q : Int) * vP (divP r ((gcdP p * gcdP q : Nat) : Int)) x y = (gcdP p : Int) * (gcdP q : Int) * (vP (divP p (gcdP p)) x y * vP (divP q (gcdP q)) x y) := by
      rw [← Int.natCast_mul] at k4 ⊢
      rw [Int.natCast_mul] at k4 ⊢
      grind
    exact Int.eq_of_mul_eq_mul_left (Int.mul_ne_zero (by omega) (by omega)) k5
  have one : gcdP (divP r ((gcdP p * gcdP q : Nat) : Int)) = 1 := by
    by_cases h1 : gcdP (divP r ((gcdP p * gcdP q : Nat) : Int)) = 1
    · exact h1
    · by_cases h0 : gcdP (divP r ((gcdP p * gcdP q : Nat) : Int)) = 0
      · rw [h0, Nat.mul_zero] at e1
        exact absurd e1 gr
      · obtain ⟨π, pr, pd⟩ := ex_prm _ _ (Nat.le_refl _) (show 2 ≤ gcdP (divP r ((gcdP p * gcdP q : Nat) : Int)) by omega)
        have := pr.1
        rcases prm_gcd v1 pr pd with z | z
        · rw [gcd_one gp] at z
          have := Nat.le_of_dvd (by decide) z
          omega
        · rw [gcd_one gq] at z
          have := Nat.le_of_dvd (by decide) z
          omega
  rw [e1, one, Nat.mul_one]
theorem plainC_mul {p q r : List (List Int)} (hp : Pl p) (hq : Pl q) (hr : Pl r) (np : p ≠ []) (nq : q ≠ []) (h : ∀ x y, vP r x y = vP p x y * vP q x y) : plainC r = plainC p * plainC q := by
  obtain ⟨_, e1, _⟩ := head_mul hp hq hr np nq h
  have e2 := gcdP_mul hp hq hr np nq h
  have n1 : headP p ≠ 0 := (head_nz hp np).1
  have n2 : headP q ≠ 0 := (head_nz hq nq).1
  rw [plainC_eq, plainC_eq, plainC_eq, e1, e2, Int.natCast_mul]
  by_cases h1 : headP p < 0
  · by_cases h2 : headP q < 0
    · have := Int.mul_pos_of_neg_of_neg h1 h2
      rw [if_neg (by omega), if_pos h1, if_pos h2]
      grind
    · have := Int.mul_neg_of_neg_of_pos h1 (show 0 < headP q by omega)
      rw [if_pos this, if_pos h1, if_neg h2]
      grind
  · by_cases h2 : headP q < 0
    · have := Int.mul_neg_of_pos_of_neg (show 0 < headP p by omega) h2
      rw [if_pos this, if_neg h1, if_pos h2]
      grind
    · have := Int.mul_pos (show 0 < headP p by omega) (show 0 < headP q by omega)
      rw [if_neg (by omega), if_neg h1, if_neg h2]
theorem plainC_nz {p : List (List Int)} (hp : Pl p) (np : p ≠ []) : plainC p ≠ 0 := by
  have := gcdP_nz hp np
  rw [plainC_eq]
  split <;> omega
theorem plain_val (p : List (List Int)) (x y : Int) : plainC p * vP (plainPl p) x y = vP p x y := by
  unfold plainPl
  split
  · rename_i h
    rw [h, vP_nil]; simp
  · exact vP_divP x y plainC_dvd
/-- the plain form of a product -/
theorem plain_mul {p q r : List (List Int)} (hp : Pl p) (hq : Pl q) (hr : Pl r) (h : ∀ x y, vP r x y = vP p x y * vP q x y) (x y : Int) : vP (plainPl r) x y = vP (plainPl p) x y * vP (plainPl q) x y := by
  by_cases np : p = []
  · have : r = [] := vP_ext hr ⟨nofun, nofun⟩ fun x y => by rw [h, np, vP_nil]; simp
    rw [this, np, show plainPl [] = [] from rfl, vP_nil]
    simp
  · by_cases nq : q = []
    · have : r = [] := vP_ext hr ⟨nofun, nofun⟩ fun x y => by rw [h, nq, vP_nil]; simp
      rw [this, nq, show plainPl [] = [] from rfl, vP_nil]
      simp
    · have e := plainC_mul hp hq hr np nq h
      have k := h x y
      rw [← plain_val r, ← plain_val p, ← plain_val q, e] at k
      have nz : plainC p * plainC q ≠ 0 := Int.mul_ne_zero (plainC_nz hp np) (plainC_nz hq nq)
      refine Int.eq_of_mul_eq_mul_left nz ?_
      rw [k]
      grind
end PL
namespace PL
open PySem PySem.Spec PyProof.Rows L2
section
variable {X : Cx} {w : WX} {H : Hp} {σ : L2.St} {e : Expr} {es : List Expr} {p q r : P} {ps : List P} {pos pp : Pos} {K : PySem.W.Frag} {mg : Str → Option Value} {B : Addr → Prop} {O : List Addr} {env : Slots} {k : Nat} {pn : List Nat} {st : Stmt}
theorem Stt.take {i : Nat} {c : C} (s : Stt K B H σ env O) (e0 : env[i]? = some (some c)) : ∃ x0 A O', σ[i]? = some (some x0) ∧ Res K B O H σ c (env.set i none) x0 H A O' := by
  obtain ⟨o, A1, A2, A3, g1, g2, ⟨x0, rfl, hc0⟩, put⟩ := RepE.at s.rep e0
  have nd := s.nd
  rw [g2] at nd
  have n1 := List.nodup_append.mp nd
  have n2 := List.nodup_append.mp n1.2.1
  have mO : ∀ b, b ∈ O ↔ b ∈ A2 ∨ b ∈ A1 ++ A3 := fun b => by rw [g2]; simp; constructor <;> intro h <;> rcases h with h | h | h <;> simp [h]
  have z := put (fun b => (B b ∨ b ∈ A2) ∨ b ∈ A1 ++ A3) H none (some x0) [] (Kp.less fun b z => by
    rcases z with (z | z) | z
    · exact .inl z
    · exact .inr ((mO b).mpr (.inl z))
    · exact .inr ((mO b).mpr (.inr z))) (fun _ _ _ e => e) rfl
  rw [set_same g1] at z
  refine ⟨x0, A2, A1 ++ A3, g1, ⟨RepC.kp (Kp.less fun b z => ?_) _ _ _ (fun _ _ _ e => e) hc0, ⟨by simpa using z, ?_, fun b hb y => ?_, fun b y => y.elim (s.tr b) fun y => RepE.trk s.rep b ((mO b).mpr (.inl y))⟩, n2.1, fun b hb => s.dj b ((mO b).mpr (.inl hb)), fun b o hw hb => ⟨hb, fun y => hw ((mO b).mpr (y.imp id id))⟩⟩⟩
  · rcases z with (z | z) | z
    · exact .inl z
    · exact .inr ((mO b).mpr (.inl z))
    · exact .inr ((mO b).mpr (.inr z))
  · exact List.nodup_append.mpr ⟨n1.1, n2.2.1, fun b hb d hd => n1.2.2 b hb d (by simp [hd])⟩
  · rcases y with y | y
    · exact s.dj b ((mO b).mpr (.inr hb)) y
    · rcases List.mem_append.mp hb with z | z
      · exact n1.2.2 b z b (by simp [y]) rfl
      · exact n2.2.2 b y b z rfl
end
end PL
namespace PL
open PySem PySem.Spec PyProof.Rows L2
def prP (p q : List (List Int)) : List (List Int) := listT (bareT (timesT (dictT p) (dictT q)))
theorem prP_pl (p q : List (List Int)) : Pl (prP p q) := ((gd_dict p).times (gd_dict q)).1.pl
theorem prP_val (p q : List (List Int)) (x y : Int) : vP (prP p q) x y = vP p x y * vP q x y := by
  have h := (gd_dict p).times (gd_dict q)
  unfold prP
  rw [h.1.val, h.2, ev_dict, ev_dict]
def miP (p q : List (List Int)) : List (List Int) := listT (bareT (plusT (dictT p) (dictT q) (-1)))
theorem miP_pl (p q : List (List Int)) : Pl (miP p q) := ((gd_dict p).plus (gd_dict q) (-1)).1.pl
theorem miP_val (p q : List (List Int)) (x y : Int) : vP (miP p q) x y = vP p x y - vP q x y := by
  have h := (gd_dict p).plus (gd_dict q) (-1)
  unfold miP
  rw [h.1.val, h.2, ev_dict, ev_dict]
  omega
theorem nP : Pl ([] : List (List Int)) := ⟨nofun, nofun⟩
theorem cP_pl {c : Int} (h : c ≠ 0) : Pl [[c]] := ⟨fun r hr => by
    rw [List.mem_singleton.mp hr]
    intro x hx
    simp at hx
    rw [← hx]; exact h, fun r hr => by
    simp at hr
    rw [← hr]; simp⟩
theorem cP_val (c x y : Int) : vP [[c]] x y = c := by simp [vP, val]
theorem vP_zero {p : List (List Int)} (hp : Pl p) (h : ∀ x y, vP p x y = 0) : p = [] := vP_ext hp nP fun x y => by rw [h, vP_nil]
theorem plainC_c {c : Int} (h : c ≠ 0) : plainC [[c]] = c := by
  have e : gcdP [[c]] = c.natAbs := by
    simp [gcdP, gcdF]
  rw [plainC_eq, e]
  show (if c < 0 then _ else _) = c
  split <;> omega
theorem plain_c {c : Int} (h : c ≠ 0) : plainPl [[c]] = [[1]] := vP_ext (plainPl_pl (cP_pl h)) (cP_pl (by decide)) fun x y => by
  have := plain_val [[c]] x y
  rw [plainC_c h, cP_val] at this
  rw [cP_val]
  exact Int.eq_of_mul_eq_mul_left h (by rw [this]; omega)
/-- planes that are alike but for a number have one plain form -/
theorem plain_same {q f : List (List Int)} {c d : Int} (hq : Pl q) (hf : Pl f) (hc : c ≠ 0) (hd : d ≠ 0) (h : ∀ x y, c * vP q x y = d * vP f x y) : plainPl q = plainPl f := by
  have e : prP [[c]] q = prP [[d]] f := vP_ext (prP_pl ..) (prP_pl ..) fun x y => by rw [prP_val, prP_val, cP_val, cP_val, h]
  refine vP_ext (plainPl_pl hq) (plainPl_pl hf) fun x y => ?_
  have h1 := plain_mul (cP_pl hc) hq (prP_pl [[c]] q) (prP_val _ _) x y
  have h2 := plain_mul (cP_pl hd) hf (prP_pl [[d]] f) (prP_val _ _) x y
  rw [plain_c hc, cP_val] at h1
  rw [plain_c hd, cP_val, ← e, h1] at h2
  omega
theorem gd_cf {t : TD} (g : Gd t) (k : K2) : cf t k = cf (dictT (listT t)) k := by rw [g.dof.eq, (dictT_dof (listT t)).1.eq]
theorem list_nz {t : TD} (g : Gd t) (n : t ≠ []) : listT t ≠ [] := fun z => by
  obtain ⟨e, r, rfl⟩ := List.exists_cons_of_ne_nil n
  have h := gd_cf g e.1
  rw [z, cf_cons, if_pos rfl, show cf (dictT []) e.1 = 0 from rfl] at h
  exact g.nz e (by simp) h
theorem hk_spec {t : TD} (g : Gd t) (n : t ≠ []) : cf t (hkey (listT t)) ≠ 0 ∧ ∀ e ∈ t, ¬ lexlt (hkey (listT t)) e.1 := by
  obtain ⟨h1, h2, h3⟩ := head_top g.pl (list_nz g n)
  refine ⟨by rw [gd_cf g, h1]; exact h2, fun e he => ?_⟩
  have : cf (dictT (listT t)) e.1 ≠ 0 := by
    rw [← gd_cf g]
    have := cf_mem g.dk he
    unfold cf
    rw [this]
    exact g.nz e he
  exact h3 (e.1, cf (dictT (listT t)) e.1) (cf_ne this)
theorem lex_uniq {a b : K2} (h1 : ¬ lexlt a b) (h2 : ¬ lexlt b a) : a = b := by
  by_cases h : a = b
  · exact h
  · rcases lex_tri h with z | z
    · exact absurd z h1
    · exact absurd z h2
theorem hk_of {t : TD} (g : Gd t) {k : K2} (h0 : cf t k ≠ 0) (h : ∀ e ∈ t, ¬ lexlt k e.1) : hkey (listT t) = k := by
  have m := cf_ne h0
  have n : t ≠ [] := List.ne_nil_of_mem m
  obtain ⟨h1, h2⟩ := hk_spec g n
  exact lex_uniq (h2 _ m) (h _ (cf_ne h1))
theorem hk_nn (ps : List (List Int)) : 0 ≤ (hkey ps).1 ∧ 0 ≤ (hkey ps).2 := by
  unfold hkey
  omega
def Wt (k : K2) : Int := 2 * k.1 + k.2
theorem wt_add (a b : K2) : Wt (kadd a b) = Wt a + Wt b := by
  unfold Wt kadd
  simp only []
  omega
/-- the head is of the greatest weight -/
structure WT (w : Int) (t : TD) : Prop where
  gd : Gd t
  ne : t ≠ []
  wt : ∀ e ∈ t, Wt e.1 ≤ Wt (hkey (listT t))
  le : Wt (hkey (listT t)) ≤ w
theorem WT.times {v w : Int} {a b : TD} (ha : WT v a) (hb : WT w b) : WT (v + w) (bareT (timesT a b)) ∧ hkey (listT (bareT (timesT a b))) = kadd (hkey (listT a)) (hkey (listT b)) := by
  obtain ⟨g, ev⟩ := ha.gd.times hb.gd
  have e : ∀ x y, vP (listT (bareT (timesT a b))) x y = vP (listT a) x y * vP (listT b) x y := fun x y => by rw [g.val, ev, ha.gd.val, hb.gd.val]
  obtain ⟨h1, h2, h3⟩ := head_mul ha.gd.pl hb.gd.pl g.pl (list_nz ha.gd ha.ne) (list_nz hb.gd hb.ne) e
  refine ⟨⟨g, fun z => h1 (by rw [z]; rfl), fun e he => ?_, ?_⟩, h3⟩
  · rw [h3, wt_add]
    exact times_mem (fun k => Wt k ≤ Wt (hkey (listT a)) + Wt (hkey (listT b))) (fun _ => True) (a := a) (b := b) (fun _ _ => trivial) (fun e he f hf => by
      have := ha.wt e he
      have := hb.wt f hf
      rw [wt_add]
      omega) e (mem_bare.mp he).1
  · rw [h3, wt_add]
    have := ha.le
    have := hb.le
    omega
theorem WT.one {c : Int} (h : c ≠ 0) : WT 0 [((0, 0), c)] := by
  have g : Gd [(((0 : Int), (0 : Int)), c)] := ⟨by simp [Dk], fun e he => by simp at he; subst he; simp, fun e he => by simp at he; subst he; exact h⟩
  have hk : hkey (listT [(((0 : Int), (0 : Int)), c)]) = (0, 0) := hk_of g (by rw [cf_cons, if_pos rfl]; exact h) fun e he => by
    simp at he
    subst he
    unfold lexlt
    simp
  refine ⟨g, by simp, fun e he => ?_, ?_⟩
  · simp at he
    subst he
    rw [hk]
    exact Int.le_refl _
  · rw [hk]
    decide
end PL
namespace PL
open PySem PySem.Spec PyProof.Rows L2
def sclD (c : Int) (t : TD) : TD := t.map fun e => (e.1, c * e.2)
def shT (k : K2) (t : TD) : TD := t.map fun e => (kadd e.1 k, e.2)
def dvT (g : Int) (t : TD) : TD := t.map fun e => (e.1, e.2.fdiv g)
theorem map_dk {t : TD} {f : K2 × Int → K2 × Int} (d : Dk t) (h : ∀ a ∈ t, ∀ b ∈ t, (f a).1 = (f b).1 → a.1 = b.1) : Dk (t.map f) := by
  unfold Dk at *
  rw [List.map_map]
  exact map_inj_nodup d fun a ha b hb e => h a ha b hb e
theorem sclD_gd {c : Int} (hc : c ≠ 0) {t : TD} (g : Gd t) : Gd (sclD c t) := ⟨map_dk g.dk fun a _ b _ h => h, fun e he => by
    obtain ⟨x, hx, rfl⟩ := List.mem_map.mp he
    exact g.kn x hx, fun e he => by
    obtain ⟨x, hx, rfl⟩ := List.mem_map.mp he
    exact Int.mul_ne_zero hc (g.nz x hx)⟩
theorem sclD_ev (φ : K2 → Int) (c : Int) : ∀ t : TD, evT φ (sclD c t) = c * evT φ t
  | [] => by simp [sclD, ev_nil]
  | e :: t => by
    have ih := sclD_ev φ c t
    unfold sclD at ih ⊢
    rw [List.map_cons, ev_cons, ev_cons, ih]
    grind
theorem sclD_nr (c : Int) : ∀ t : TD, nrT (sclD c t) = c.natAbs * nrT t
  | [] => by simp [sclD, nrT]
  | e :: t => by
    have ih := sclD_nr c t
    unfold sclD at ih ⊢
    rw [List.map_cons, nr_cons, nr_cons, ih, Int.natAbs_mul, Nat.mul_add]
theorem shT_gd {k : K2} (h1 : 0 ≤ k.1) (h2 : 0 ≤ k.2) {t : TD} (g : Gd t) : Gd (shT k t) := ⟨map_dk g.dk fun a _ b _ h => by
    unfold kadd at h
    simp only [Prod.mk.injEq] at h
    exact Prod.ext (by omega) (by omega), fun e he => by
    obtain ⟨x, hx, rfl⟩ := List.mem_map.mp he
    have := g.kn x hx
    unfold kadd
    exact ⟨by show 0 ≤ x.1.1 + k.1; omega, by show 0 ≤ x.1.2 + k.2; omega⟩, fun e he => by
    obtain ⟨x, hx, rfl⟩ := List.mem_map.mp he
    exact g.nz x hx⟩
theorem shT_ev {k : K2} (h1 : 0 ≤ k.1) (h2 : 0 ≤ k.2) (x y : Int) : ∀ {t : TD}, Kn t → evT (mono x y) (shT k t) = mono x y k * evT (mono x y) t
  | [], _ => by simp [shT, ev_nil]
  | e :: t, kn => by
    have ih := shT_ev h1 h2 x y (t := t) fun z hz => kn z (List.mem_cons_of_mem _ hz)
    have ke := kn e (by simp)
    unfold shT at ih ⊢
    rw [List.map_cons, ev_cons, ev_cons, ih]
    show e.2 * mono x y (kadd e.1 k) + _ = _
    rw [mono_add ke.1 ke.2 h1 h2]
    grind
theorem shT_nr (k : K2) : ∀ t : TD, nrT (shT k t) = nrT t
  | [] => rfl
  | e :: t => by
    have ih := shT_nr k t
    unfold shT at ih ⊢
    rw [List.map_cons, nr_cons, nr_cons, ih]
theorem dvT_gd {g : Int} (h0 : g ≠ 0) {t : TD} (d : Gd t) (h : ∀ e ∈ t, g ∣ e.2) : Gd (dvT g t) := ⟨map_dk d.dk fun a _ b _ h => h, fun e he => by
    obtain ⟨x, hx, rfl⟩ := List.mem_map.mp he
    exact d.kn x hx, fun e he => by
    obtain ⟨x, hx, rfl⟩ := List.mem_map.mp he
    intro z
    have := fdiv_dvd (h x hx)
    simp only [] at z
    rw [z] at this
    exact d.nz x hx (by rw [← this]; simp)⟩
theorem dvT_ev (φ : K2 → Int) {g : Int} : ∀ {t : TD}, (∀ e ∈ t, g ∣ e.2) → g * evT φ (dvT g t) = evT φ t
  | [], _ => by simp [dvT, ev_nil]
  | e :: t, h => by
    have ih := dvT_ev φ (t := t) fun z hz => h z (List.mem_cons_of_mem _ hz)
    have := fdiv_dvd (h e (by simp))
    unfold dvT at ih ⊢
    rw [List.map_cons, ev_cons, ev_cons, Int.mul_add, ih, ← Int.mul_assoc, this]
theorem dvT_nr {g : Int} (h0 : g ≠ 0) : ∀ {t : TD}, (∀ e ∈ t, g ∣ e.2) → nrT (dvT g t) ≤ nrT t
  | [], _ => by simp [dvT, nrT]
  | e :: t, h => by
    have ih := dvT_nr h0 (t := t) fun z hz => h z (List.mem_cons_of_mem _ hz)
    have e1 := fdiv_dvd (h e (by simp))
    have e2 : e.2.natAbs = g.natAbs * (e.2.fdiv g).natAbs := by rw [← Int.natAbs_mul, e1]
    have e3 : 1 * (e.2.fdiv g).natAbs ≤ g.natAbs * (e.2.fdiv g).natAbs := Nat.mul_le_mul_right _ (by omega)
    unfold dvT at ih ⊢
    rw [List.map_cons, nr_cons, nr_cons]
    show (e.2.fdiv g).natAbs + _ ≤ _
    omega
def rk (k : K2) : Int := 13 * k.1 + k.2
structure QS (one other : TD) (n N : Nat) (left found : TD) : Prop where
  gl : Gd left
  gf : Gd found
  eq : ∃ c d : Int, c ≠ 0 ∧ d ≠ 0 ∧ ∀ x y, c * evT (mono x y) one = d * (evT (mono x y) found * evT (mono x y) other + evT (mono x y) left)
  kl : ∀ e ∈ left, Wt e.1 ≤ 12 ∧ rk e.1 + n ≤ 90
  kf : ∀ e ∈ found, ∀ f ∈ left, lexlt f.1 (kadd e.1 (hkey (listT other)))
  bl : nrT left ≤ N
  bf : nrT found ≤ N
  lf : found.length ≤ n
  kw : ∀ e ∈ found, Wt e.1 ≤ 12
theorem lex_trans {a b c : K2} (h1 : lexlt a b) (h2 : lexlt b c) : lexlt a c := by
  unfold lexlt at *
  omega
theorem cf_lin (k : K2) (n : Int) {a b : TD} (da : Dk a) (db : Dk b) : cf (plusT a b n) k = cf a k + n * cf b k := by
  obtain ⟨h1, h2, _⟩ := plus_spec (fun k' => if k' = k then 1 else 0) n b a da
  rw [cf_ev h1, h2, ← cf_ev da, ← cf_ev db]
theorem cf_scl (c : Int) (k : K2) : ∀ t : TD, cf (sclD c t) k = c * cf t k
  | [] => by simp [sclD, cf_nil]
  | e :: t => by
    have ih := cf_scl c k t
    unfold sclD at ih ⊢
    rw [List.map_cons, cf_cons, cf_cons, ih]
    split <;> rfl
theorem cf_sh (k h : K2) : ∀ t : TD, cf (shT k t) (kadd h k) = cf t h
  | [] => by simp [shT, cf_nil]
  | e :: t => by
    have ih := cf_sh k h t
    unfold shT at ih ⊢
    rw [List.map_cons, cf_cons, cf_cons, ih]
    have : kadd e.1 k = kadd h k ↔ e.1 = h := by
      unfold kadd
      constructor
      · intro z
        simp only [Prod.mk.injEq] at z
        exact Prod.ext (by omega) (by omega)
      · intro z
        rw [z]
    by_cases hz : e.1 = h
    · rw [if_pos hz, if_pos (this.mpr hz)]
    · rw [if_neg hz, if_neg (fun z => hz (this.mp z))]
theorem QS.step {w : Int} {one other left found : TD} {n N B : Nat} (q : QS one other n N left found) (ho : WT w other) (hB : nrT other ≤ B) (nl : left ≠ []) (h1 : 0 ≤ (ksub (hkey (listT left)) (hkey (listT other))).1) (h2 : 0 ≤ (ksub (hkey (listT left)) (hkey (listT other))).2) {g : Int} (hg : g ≠ 0)
    (d1 : ∀ e ∈ sclD (cf other (hkey (listT other))) found ++ [(ksub (hkey (listT left)) (hkey (listT other)), cf left (hkey (listT left)))], g ∣ e.2)
    (d2 : ∀ e ∈ bareT (plusT (sclD (cf other (hkey (listT other))) left) (shT (ksub (hkey (listT left)) (hkey (listT other))) other) (0 - cf left (hkey (listT left)))), g ∣ e.2) :
    QS one other (n + 1) (2 * B * N) (dvT g (bareT (plusT (sclD (cf other (hkey (listT other))) left) (shT (ksub (hkey (listT left)) (hkey (listT other))) other) (0 - cf left (hkey (listT left)))))) (dvT g (sclD (cf other (hkey (listT other))) found ++ [(ksub (hkey (listT left)) (hkey (listT other)), cf left (hkey (listT left)))])) ∧
      (∀ e ∈ sclD (cf other (hkey (listT other))) found, e.1 ≠ ksub (hkey (listT left)) (hkey (listT other))) := by
  obtain ⟨o1, o2⟩ := hk_spec ho.gd ho.ne
  obtain ⟨l1, l2⟩ := hk_spec q.gl nl
  have lm := cf_ne l1
  have ow := ho.wt
  generalize hh : hkey (listT other) = h at *
  generalize hm : hkey (listT left) = m at *
  generalize hnr : cf other h = near at *
  generalize hfr : cf left m = far at *
  have bn : near.natAbs ≤ B := by rw [← hnr]; exact Nat.le_trans (nr_cf other h) hB
  have bf : far.natAbs ≤ N := by rw [← hfr]; exact Nat.le_trans (nr_cf left m) q.bl
  have hk : kadd (ksub m h) h = m := Prod.ext (by show m.1 - h.1 + h.1 = m.1; omega) (by show m.2 - h.2 + h.2 = m.2; omega)
  have hk' : kadd h (ksub m h) = m := Prod.ext (by show h.1 + (m.1 - h.1) = m.1; omega) (by show h.2 + (m.2 - h.2) = m.2; omega)
  generalize hkk : ksub m h = k at *
  have new : ∀ e ∈ sclD near found, e.1 ≠ k := fun e he z => by
    obtain ⟨x, hx, rfl⟩ := List.mem_map.mp he
    have this : lexlt m (kadd x.1 (hkey (listT other))) := q.kf x hx _ lm
    simp only [] at z
    rw [hh, z, hk] at this
    unfold lexlt at this
    omega
  have gF : Gd (sclD near found ++ [(k, far)]) := by
    have gs := sclD_gd o1 q.gf
    refine ⟨?_, fun e he => ?_, fun e he => ?_⟩
    · unfold Dk
      rw [List.map_append, List.nodup_append]
      refine ⟨gs.dk, by simp, fun a ha b hb => ?_⟩
      obtain ⟨e, he, rfl⟩ := List.mem_map.mp ha
      simp at hb
      rw [hb]
      exact new e he
    · rcases List.mem_append.mp he with z | z
      · exact gs.kn e z
      · simp at z; rw [z]; exact ⟨h1, h2⟩
    · rcases List.mem_append.mp he with z | z
      · exact gs.nz e z
      · simp at z; rw [z]; exact l1
  have gS := shT_gd h1 h2 ho.gd
  have gN := sclD_gd o1 q.gl
  obtain ⟨gP, evP⟩ := gN.plus gS (0 - far)
  have keys : ∀ e ∈ bareT (plusT (sclD near left) (shT k other) (0 - far)), Wt e.1 ≤ 12 ∧ (e.1 = m ∨ lexlt e.1 m) := fun e he => by
    refine plus_mem (fun k => Wt k ≤ 12 ∧ (k = m ∨ lexlt k m)) (0 - far) _ _ (fun e he => ?_) (fun e he => ?_) e (mem_bare.mp he).1
    · obtain ⟨x, hx, rfl⟩ := List.mem_map.mp he
      refine ⟨(q.kl x hx).1, ?_⟩
      by_cases hz : x.1 = m
      · exact .inl hz
      · exact .inr ((lex_tri hz).resolve_right (l2 x hx))
    · obtain ⟨x, hx, rfl⟩ := List.mem_map.mp he
      have wx := ow x hx
      have w1 := (q.kl _ lm).1
      have w2 : Wt m = Wt h + Wt k := by rw [← hk', wt_add]
      refine ⟨by show Wt (kadd x.1 k) ≤ 12; rw [wt_add]; simp only [] at w1; omega, ?_⟩
      by_cases hz : x.1 = h
      · left
        show kadd x.1 k = m
        rw [hz, hk']
      · right
        have := (lex_tri hz).resolve_right (o2 x hx)
        show lexlt (kadd x.1 k) m
        rw [← hk']
        unfold lexlt kadd at *
        simp only []
        omega
  have c0 : cf (bareT (plusT (sclD near left) (shT k other) (0 - far))) m = 0 := by
    have dk := (plus_spec (fun _ => 0) (0 - far) (shT k other) (sclD near left) gN.dk).1
    have e1 := cf_sh k h other
    rw [hk'] at e1
    rw [cf_bare _ dk, cf_lin m (0 - far) gN.dk gS.dk, cf_scl, e1, hfr, hnr]
    grind
  have low : ∀ e ∈ bareT (plusT (sclD near left) (shT k other) (0 - far)), lexlt e.1 m := fun e he => by
    rcases (keys e he).2 with z | z
    · have := cf_mem gP.dk he
      rw [z] at this
      unfold cf at c0
      rw [this] at c0
      exact absurd c0 (gP.nz e he)
    · exact z
  refine ⟨⟨dvT_gd hg gP d2, dvT_gd hg gF d1, ?_, fun e he => ?_, fun e he f hf => ?_, ?_, ?_, ?_, fun e he => ?_⟩, new⟩
  · obtain ⟨c, d, hc, hd, ec⟩ := q.eq
    refine ⟨c * near, d * g, Int.mul_ne_zero hc o1, Int.mul_ne_zero hd hg, ?_⟩
    intro x y
    have e1 := ec x y
    have e2 := dvT_ev (mono x y) d1
    have e3 := dvT_ev (mono x y) d2
    have e4 : evT (mono x y) (sclD near found ++ [(k, far)]) = near * evT (mono x y) found + far * mono x y k := by
      rw [show ∀ a b : TD, evT (mono x y) (a ++ b) = evT (mono x y) a + evT (mono x y) b from fun a b => by simp [evT], sclD_ev, ev_cons, ev_nil]
      simp
    rw [evP, sclD_ev, shT_ev h1 h2 x y ho.gd.kn] at e3
    rw [e4] at e2
    have e5 : d * g * (evT (mono x y) (dvT g (sclD near found ++ [(k, far)])) * evT (mono x y) other + evT (mono x y) (dvT g (bareT (plusT (sclD near left) (shT k other) (0 - far))))) = d * ((g * evT (mono x y) (dvT g (sclD near found ++ [(k, far)]))) * evT (mono x y) other + g * evT (mono x y) (dvT g (bareT (plusT (sclD near left) (shT k other) (0 - far))))) := by grind
    rw [e5, e2, e3]
    grind
  · obtain ⟨x, hx, rfl⟩ := List.mem_map.mp he
    have a1 := low x hx
    have a2 := (keys x hx).1
    have a3 := (q.kl _ lm).2
    have a4 := (q.kl _ lm).1
    have a5 := gP.kn x hx
    have a6 := q.gl.kn _ lm
    refine ⟨a2, ?_⟩
    unfold rk Wt lexlt at *
    simp only [] at *
    omega
  · obtain ⟨x, hx, rfl⟩ := List.mem_map.mp he
    obtain ⟨u, hu, rfl⟩ := List.mem_map.mp hf
    have a1 := low u hu
    show lexlt u.1 (kadd x.1 _)
    rw [hh]
    rcases List.mem_append.mp hx with z | z
    · obtain ⟨v, hv, rfl⟩ := List.mem_map.mp z
      have this : lexlt m (kadd v.1 (hkey (listT other))) := q.kf v hv _ lm
      rw [hh] at this
      exact lex_trans a1 this
    · simp at z
      rw [z, hk]
      exact a1
  · refine Nat.le_trans (dvT_nr hg d2) ?_
    rw [nr_bare]
    refine Nat.le_trans (plus_spec (fun _ => 0) (0 - far) (shT k other) (sclD near left) gN.dk).2.2.1 ?_
    rw [sclD_nr, shT_nr]
    have m1 := Nat.mul_le_mul bn q.bl
    have m2 : (0 - far).natAbs * nrT other ≤ N * B := Nat.mul_le_mul (by omega) hB
    have m3 : 2 * B * N = B * N + N * B := by rw [Nat.mul_assoc, Nat.two_mul, Nat.mul_comm N B]
    omega
  · refine Nat.le_trans (dvT_nr hg d1) ?_
    have e4 : nrT (sclD near found ++ [(k, far)]) = near.natAbs * nrT found + far.natAbs := by
      rw [show ∀ a b : TD, nrT (a ++ b) = nrT a + nrT b from fun a b => by simp [nrT], sclD_nr]
      simp [nrT]
    rw [e4]
    have m1 := Nat.mul_le_mul bn q.bf
    have nB : 1 ≤ B := by omega
    have m2 : 1 * N ≤ B * N := Nat.mul_le_mul_right _ nB
    have m3 : 2 * B * N = B * N + B * N := by rw [Nat.mul_assoc, Nat.two_mul]
    omega
  · have := q.lf
    simp [dvT, sclD]
    omega
  · obtain ⟨x, hx, rfl⟩ := List.mem_map.mp he
    rcases List.mem_append.mp hx with z | z
    · obtain ⟨v, hv, rfl⟩ := List.mem_map.mp z
      exact q.kw v hv
    · simp at z
      rw [z]
      have w1 := (q.kl _ lm).1
      have w2 : Wt m = Wt h + Wt k := by rw [← hk', wt_add]
      have w3 := hk_nn (listT other)
      rw [hh] at w3
      show Wt k ≤ 12
      simp only [] at w1
      unfold Wt at *
      omega
end PL
namespace PL
open PySem PySem.Spec PyProof.Rows L2
theorem QS.done {one other : TD} {n N : Nat} {found : TD} (g1 : Gd one) (g2 : Gd other) (q : QS one other n N [] found) : ∃ (F : List (List Int)) (c : Int), Pl F ∧ plainPl (listT found) = plainPl F ∧ c ≠ 0 ∧ ∀ x y, c * vP (listT one) x y = vP F x y * vP (listT other) x y := by
  obtain ⟨c, d, hc, hd, e⟩ := q.eq
  refine ⟨prP [[d]] (listT found), c, prP_pl .., ?_, hc, fun x y => ?_⟩
  · exact plain_same (c := d) (d := 1) q.gf.pl (prP_pl ..) hd (by decide) fun x y => by rw [prP_val, cP_val]; omega
  · have := e x y
    rw [ev_nil] at this
    rw [g1.val, prP_val, cP_val, q.gf.val, g2.val, this]
    grind
end PL
namespace PL
open PySem PySem.Spec PyProof.Rows L2
def nrm : List Int → Nat
  | [] => 0
  | a :: l => a.natAbs + nrm l
def addL : List Int → List Int → List Int
  | [], m => m
  | a :: l, [] => a :: l
  | a :: l, b :: m => (a + b) :: addL l m
def Bd (k : Nat) (l : List Int) : Prop := ∀ x ∈ l, x.natAbs < 2 ^ k
theorem val_addL (x : Int) : ∀ l m : List Int, val (addL l m) x = val l x + val m x
  | [], m => by simp [addL, val]
  | a :: l, [] => by simp [addL, val]
  | a :: l, b :: m => by
    simp only [addL, val, val_addL x l m]
    grind
theorem len_addL : ∀ l m : List Int, (addL l m).length = max l.length m.length
  | [], m => by simp [addL]
  | a :: l, [] => by simp [addL]
  | a :: l, b :: m => by
    simp only [addL, List.length_cons, len_addL l m]
    omega
theorem mem_addL : ∀ {l m : List Int} {x : Int} {A : Nat}, (∀ y ∈ l, y.natAbs ≤ A) → (∀ y ∈ m, y.natAbs ≤ A) → x ∈ addL l m → x.natAbs ≤ A + A
  | [], m, x, A, _, h2, h => by have := h2 x h; omega
  | a :: l, [], x, A, h1, _, h => by have := h1 x h; omega
  | a :: l, b :: m, x, A, h1, h2, h => by
    rcases List.mem_cons.mp h with rfl | h
    · have := h1 a (by simp)
      have := h2 b (by simp)
      omega
    · exact mem_addL (fun y hy => h1 y (List.mem_cons_of_mem _ hy)) (fun y hy => h2 y (List.mem_cons_of_mem _ hy)) h
theorem bd_le {l : List Int} {j k : Nat} (h : Bd j l) (i : j ≤ k) : Bd k l := fun x hx => Nat.lt_of_lt_of_le (h x hx) (Nat.pow_le_pow_right (by decide) i)
theorem bd_trim {l : List Int} {k : Nat} (h : Bd k l) : Bd k (trimI l) := fun x hx => h x (trimI_mem hx)
theorem mem_nrm : ∀ {l : List Int} {x : Int}, x ∈ l → x.natAbs ≤ nrm l
  | a :: l, x, h => by
    rcases List.mem_cons.mp h with rfl | h
    · simp [nrm]
    · have := mem_nrm h
      simp only [nrm]; omega
theorem nrm_bd : ∀ {l : List Int} {k : Nat}, Bd k l → nrm l ≤ l.length * 2 ^ k
  | [], k, _ => by simp [nrm]
  | a :: l, k, h => by
    have ih := nrm_bd (l := l) (k := k) fun x hx => h x (List.mem_cons_of_mem _ hx)
    have := h a (by simp)
    simp only [nrm, List.length_cons, Nat.add_mul]
    omega
theorem nrm_zeros : ∀ n : Nat, nrm (List.replicate n 0) = 0
  | 0 => rfl
  | n + 1 => by simp [List.replicate_succ, nrm, nrm_zeros n]
theorem nrm_set : ∀ (row : List Int) (b : Nat) (c : Int), nrm (row.set b (row.getD b 0 + c)) ≤ nrm row + c.natAbs
  | [], b, c => by simp [nrm]
  | a :: row, 0, c => by
    simp only [List.set_cons_zero, List.getD_cons_zero, nrm]
    omega
  | a :: row, b + 1, c => by
    have := nrm_set row b c
    simp only [List.set_cons_succ, List.getD_cons_succ, nrm]
    omega
theorem addRow_nrm (k : Int) : ∀ (l row : List Int) (b : Nat), nrm (addRow row b k l) ≤ nrm row + k.natAbs * nrm l
  | [], row, b => by simp [addRow, nrm]
  | a :: l, row, b => by
    have h1 := addRow_nrm k l (row.set b (row.getD b 0 + k * a)) (b + 1)
    have h2 := nrm_set row b (k * a)
    rw [Int.natAbs_mul] at h2
    simp only [addRow, nrm, Nat.mul_add]
    omega
def mulRows : List Int → Nat → List Int → List Int → List Int
  | row, _, [], _ => row
  | row, i, a :: l, b => mulRows (if a ≠ 0 then addRow row i a b else row) (i + 1) l b
theorem mulRows_len : ∀ (l : List Int) (row : List Int) (i : Nat) (b : List Int), (mulRows row i l b).length = row.length
  | [], row, i, b => rfl
  | a :: l, row, i, b => by
    rw [mulRows, mulRows_len l]
    split
    · exact addRow_len ..
    · rfl
theorem mulRows_val (y : Int) (b : List Int) : ∀ (l row : List Int) (i : Nat), i + l.length + b.length ≤ row.length + 1 → val (mulRows row i l b) y = val row y + y ^ i * val l y * val b y
  | [], row, i, h => by simp [mulRows, val]
  | a :: l, row, i, h => by
    simp only [List.length_cons] at h
    rw [mulRows, mulRows_val y b l _ (i + 1) (by
      split
      · rw [addRow_len]; omega
      · omega)]
    have e : val (if a ≠ 0 then addRow row i a b else row) y = val row y + a * y ^ i * val b y := by
      split
      · exact addRow_val y a b row i (by omega)
      · rename_i hz
        have : a = 0 := by omega
        rw [this]; simp
    rw [e]
    simp only [val, Int.pow_succ]
    grind
theorem mulRows_nrm (b : List Int) : ∀ (l row : List Int) (i : Nat), nrm (mulRows row i l b) ≤ nrm row + nrm l * nrm b
  | [], row, i => by simp [mulRows, nrm]
  | a :: l, row, i => by
    have ih := mulRows_nrm b l (if a ≠ 0 then addRow row i a b else row) (i + 1)
    have e : nrm (if a ≠ 0 then addRow row i a b else row) ≤ nrm row + a.natAbs * nrm b := by
      split
      · exact addRow_nrm a b row i
      · omega
    simp only [mulRows, nrm, Nat.add_mul]
    omega
def mulL (a b : List Int) : List Int := if a = [] ∨ b = [] then [] else mulRows (List.replicate (a.length + b.length - 1) 0) 0 a b
theorem mulL_val (a b : List Int) (y : Int) : val (mulL a b) y = val a y * val b y := by
  unfold mulL
  split
  · rename_i h
    rcases h with h | h <;> rw [h] <;> simp [val]
  · rename_i h
    have h1 : 0 < a.length := List.length_pos_iff.mpr fun z => h (.inl z)
    rw [mulRows_val y b a _ 0 (by simp; omega), val_zeros]
    simp
theorem mulL_len (a b : List Int) : (mulL a b).length ≤ a.length + b.length - 1 := by
  unfold mulL
  split
  · simp
  · rw [mulRows_len]; simp
theorem mulL_nrm (a b : List Int) : nrm (mulL a b) ≤ nrm a * nrm b := by
  unfold mulL
  split
  · simp [nrm]
  · have := mulRows_nrm b a (List.replicate (a.length + b.length - 1) 0) 0
    rw [nrm_zeros] at this
    omega
def lessL (a b : List Int) : List Int := trimI (addL a (b.map fun y => -1 * y))
theorem lessL_val (a b : List Int) (y : Int) : val (lessL a b) y = val a y - val b y := by
  unfold lessL
  rw [val_trim, val_addL, val_map]
  omega
theorem lessL_tr (a b : List Int) : Tr (lessL a b) := tr_trim _
theorem lessL_len (a b : List Int) : (lessL a b).length ≤ max a.length b.length := by
  unfold lessL
  refine Nat.le_trans (trimI_len _) ?_
  rw [len_addL, List.length_map]
  exact Nat.le_refl _
theorem lessL_bd {a b : List Int} {k : Nat} (ha : Bd k a) (hb : Bd k b) : Bd (k + 1) (lessL a b) := fun x hx => by
  have := mem_addL (A := 2 ^ k - 1) (fun y hy => by have := ha y hy; omega) (fun y hy => by
    obtain ⟨z, hz, rfl⟩ := List.mem_map.mp hy
    have := hb z hz
    omega) (trimI_mem hx)
  rw [Nat.pow_succ]
  have := Nat.two_pow_pos k
  omega
theorem tr_zero {l : List Int} (t : Tr l) (h : ∀ x, val l x = 0) : l = [] := val_ext t tr_nil fun x => by rw [h]; rfl
end PL
namespace PL
open PySem PySem.Spec PyProof.Rows L2
def takeR : List (List Int) → Nat → List (List Int) → List Int → List (List Int)
  | rs, _, [], _ => rs
  | rs, i, l :: o, q => takeR (rs.set i (lessL (rs.getD i []) (mulL l q))) (i + 1) o q
theorem takeR_len : ∀ (o rs : List (List Int)) (i : Nat) (q : List Int), (takeR rs i o q).length = rs.length
  | [], rs, i, q => rfl
  | l :: o, rs, i, q => by rw [takeR, takeR_len o, List.length_set]
theorem getD_set {α : Type} (l : List α) (i j : Nat) (a d : α) : (l.set i a).getD j d = if i = j ∧ j < l.length then a else l.getD j d := by
  rw [List.getD_eq_getElem?_getD, List.getD_eq_getElem?_getD, List.getElem?_set]
  by_cases h : i = j
  · subst h
    by_cases h2 : i < l.length
    · simp [h2]
    · simp [h2]
  · simp [h]
theorem takeR_get (q : List Int) : ∀ (o rs : List (List Int)) (i j : Nat), i + o.length ≤ rs.length → (takeR rs i o q).getD j [] = if i ≤ j ∧ j < i + o.length then lessL (rs.getD j []) (mulL (o.getD (j - i) []) q) else rs.getD j []
  | [], rs, i, j, h => by
    rw [takeR, if_neg (by simp only [List.length_nil]; omega)]
  | l :: o, rs, i, j, h => by
    simp only [List.length_cons] at h
    rw [takeR, takeR_get q o _ (i + 1) j (by rw [List.length_set]; omega), getD_set, List.length_cons]
    by_cases h1 : i = j
    · subst h1
      rw [if_neg (by omega), if_pos ⟨rfl, by omega⟩, if_pos ⟨Nat.le_refl _, by omega⟩, Nat.sub_self]
      rfl
    · have hne : ¬ (i = j ∧ j < rs.length) := fun z => h1 z.1
      rw [if_neg hne]
      by_cases h2 : i + 1 ≤ j ∧ j < i + 1 + o.length
      · rw [if_pos h2, if_pos ⟨by omega, by omega⟩, show j - i = (j - (i + 1)) + 1 by omega]
        rfl
      · rw [if_neg h2, if_neg (by omega)]
theorem takeR_val (q : List Int) (x y : Int) : ∀ (o rs : List (List Int)) (i : Nat), i + o.length ≤ rs.length → vP (takeR rs i o q) x y = vP rs x y - x ^ i * vP o x y * val q y
  | [], rs, i, h => by simp [takeR, vP_nil]
  | l :: o, rs, i, h => by
    simp only [List.length_cons] at h
    rw [takeR, takeR_val q x y o _ (i + 1) (by rw [List.length_set]; omega), vP_set _ _ _ _ _ (by omega), lessL_val, mulL_val, vP_cons, Int.pow_succ]
    grind
def pmul : List Int → List Int → List Int
  | [], _ => []
  | x :: a, b => addL (b.map fun y => x * y) (0 :: pmul a b)
theorem pmul_val (b : List Int) (y : Int) : ∀ a : List Int, val (pmul a b) y = val a y * val b y
  | [] => by simp [pmul, val]
  | x :: a => by
    rw [pmul, val_addL, val_map]
    simp only [val, pmul_val b y a]
    grind
theorem getD_addL : ∀ (l m : List Int) (i : Nat), (addL l m).getD i 0 = l.getD i 0 + m.getD i 0
  | [], m, i => by simp [addL]
  | a :: l, [], i => by simp [addL]
  | a :: l, b :: m, 0 => by simp [addL]
  | a :: l, b :: m, i + 1 => by simpa [addL] using getD_addL l m i
theorem getD_map (x : Int) (b : List Int) (i : Nat) : (b.map fun y => x * y).getD i 0 = x * b.getD i 0 := by
  rw [List.getD_eq_getElem?_getD, List.getD_eq_getElem?_getD, List.getElem?_map]
  cases b[i]? <;> simp
theorem pmul_top {b : List Int} (nb : b ≠ []) : ∀ a : List Int, a ≠ [] → (pmul a b).getD (a.length + b.length - 2) 0 = a.getD (a.length - 1) 0 * b.getD (b.length - 1) 0
  | [], h => absurd rfl h
  | [x], _ => by
    have := List.length_pos_iff.mpr nb
    rw [pmul, getD_addL, getD_map, show [x].length + b.length - 2 = b.length - 1 by simp; omega]
    have : ((0 : Int) :: pmul [] b).getD (b.length - 1) 0 = 0 := by
      cases b.length - 1 <;> simp [pmul]
    rw [this]
    simp
  | x :: z :: a, _ => by
    have hb := List.length_pos_iff.mpr nb
    have ih := pmul_top nb (z :: a) (by simp)
    rw [pmul, getD_addL, getD_map]
    have e1 : (x :: z :: a).length + b.length - 2 = ((z :: a).length + b.length - 2) + 1 := by simp; omega
    have e2 : b.getD ((x :: z :: a).length + b.length - 2) 0 = 0 := getD_ge (l := b) (by simp only [List.length_cons]; omega) 0
    rw [e2, e1, List.getD_cons_succ, ih]
    simp
theorem top_coef {a b r : List Int} (h : ∀ x, val r x = val a x * val b x) (na : a ≠ []) (nb : b ≠ []) : r.getD (a.length + b.length - 2) 0 = a.getD (a.length - 1) 0 * b.getD (b.length - 1) 0 := by
  rw [← pmul_top nb a na]
  exact val_co (fun x => by rw [h, pmul_val]) _
/-- the last row of a product -/
theorem top_row {p q r : List (List Int)} (hp : Pl p) (hq : Pl q) (hr : Pl r) (np : p ≠ []) (nq : q ≠ []) (h : ∀ x y, vP r x y = vP p x y * vP q x y) : r ≠ [] ∧ r.length + 1 = p.length + q.length ∧ ∀ y, val (r.getD (r.length - 1) []) y = val (p.getD (p.length - 1) []) y * val (q.getD (q.length - 1) []) y := by
  obtain ⟨nr, _, hk⟩ := head_mul hp hq hr np nq h
  have e := congrArg Prod.fst hk
  unfold hkey kadd at e
  simp only [] at e
  have h1 := List.length_pos_iff.mpr np
  have h2 := List.length_pos_iff.mpr nq
  have h3 := List.length_pos_iff.mpr nr
  refine ⟨nr, by omega, fun y => ?_⟩
  have t := top_coef (a := p.map fun l => val l y) (b := q.map fun l => val l y) (r := r.map fun l => val l y) (fun x => h x y) (by simpa using np) (by simpa using nq)
  rw [List.length_map, List.length_map, map_getD_val, map_getD_val, map_getD_val] at t
  rw [← t]
  congr 2
  omega
theorem trP_less {rs : List (List Int)} (h0 : rs ≠ []) (h : rs.getD (rs.length - 1) [] = []) : (trP rs).length < rs.length := by
  obtain ⟨u, c, rfl⟩ : ∃ u c, rs = u ++ [c] := ⟨rs.dropLast, rs.getLast h0, (List.dropLast_concat_getLast h0).symm⟩
  have : c = [] := by
    rw [List.getD_eq_getElem?_getD] at h
    simpa using h
  subst this
  unfold trP
  rw [List.map_append, show [([] : List Int)].map trimI = [[]] from rfl, dropE_snoc0]
  have := dropE_len (u.map trimI)
  simp at this ⊢
  omega
/-- a state of the division: what is found is a factor of the other one, the rest is left -/
structure DS (near other : List (List Int)) (m : Nat) (rest found : List (List Int)) : Prop where
  pl : Pl rest
  eq : ∀ x y, vP near x y = vP found x y * vP other x y + vP rest x y
  len : m + rest.length ≤ 7
  lf : found.length + other.length = near.length + 1 ∨ near.length < other.length
  lr : rest.length ≤ near.length
  fr : ∀ j, j + other.length ≤ rest.length → found.getD j [] = []
  wd : ∀ l ∈ rest, l.length ≤ 7 + 6 * m
  bd : ∀ l ∈ rest, Bd (14 + 724 * m) l
/-- nothing goes in any more -/
theorem DS.no {near other rest found : List (List Int)} {m : Nat} (s : DS near other m rest found) (hO : Pl other) (nO : other ≠ []) (nr : rest ≠ []) (h : rest.length < other.length ∨ ¬ ∃ q0, ∀ y, val (rest.getD (rest.length - 1) []) y = val q0 y * val (other.getD (other.length - 1) []) y) : ¬ ∃ Q, Pl Q ∧ ∀ x y, vP near x y = vP Q x y * vP other x y := by
  rintro ⟨Q, hQ, e⟩
  have key : ∀ x y, vP rest x y = vP other x y * vP (miP Q found) x y := fun x y => by
    have e1 := e x y
    have e2 := s.eq x y
    rw [miP_val]
    rw [e1] at e2
    grind
  have nR : miP Q found ≠ [] := fun z => nr (vP_zero s.pl fun x y => by rw [key, z, vP_nil]; simp)
  obtain ⟨_, t1, t2⟩ := top_row hO (miP_pl Q found) s.pl nO nR key
  have := List.length_pos_iff.mpr nR
  rcases h with h | h
  · omega
  · exact h ⟨_, fun y => (t2 y).trans (Int.mul_comm _ _)⟩
theorem nrm_le {l : List Int} {k n : Nat} (h : Bd k l) (hl : l.length ≤ n) : nrm l ≤ n * 2 ^ k := Nat.le_trans (nrm_bd h) (Nat.mul_le_mul_right _ hl)
/-- what a product of two rows is at most -/
theorem mul_bd {a q : List Int} {k : Nat} (ha : Bd 13 a) (hal : a.length ≤ 7) (hq : Bd k q) (hql : q.length ≤ 50) : Bd (k + 22) (mulL a q) := fun x hx => by
  have h1 := mem_nrm hx
  have h2 := mulL_nrm a q
  have h3 := nrm_le ha hal
  have h4 := nrm_le hq hql
  have h5 := Nat.mul_le_mul h3 h4
  have h6 : 7 * 2 ^ 13 * (50 * 2 ^ k) = 2867200 * 2 ^ k := by rw [show 7 * 2 ^ 13 * (50 * 2 ^ k) = (7 * 2 ^ 13 * 50) * 2 ^ k by rw [Nat.mul_assoc, Nat.mul_assoc, Nat.mul_assoc]]
  have h7 : 2 ^ (k + 22) = 2 ^ k * 4194304 := by rw [Nat.pow_add]
  have h8 := Nat.two_pow_pos k
  omega
theorem DS.step {near other rest found : List (List Int)} {m : Nat} {q : List Int} (s : DS near other m rest found) (hO : Pl other) (nO : other ≠ []) (wO : ∀ l ∈ other, l.length ≤ 7) (bO : ∀ l ∈ other, Bd 13 l) (hl : other.length ≤ rest.length)
    (eq : ∀ y, val (rest.getD (rest.length - 1) []) y = val q y * val (other.getD (other.length - 1) []) y) (lq : q.length ≤ 7 + 6 * m) (bq : Bd (14 + 724 * m + 700) q) :
    DS near other (m + 1) (trP (takeR rest (rest.length - other.length) other q)) (found.set (rest.length - other.length) q) ∧ rest.length - other.length < found.length := by
  have hp := List.length_pos_iff.mpr nO
  have hf : rest.length - other.length < found.length := by
    have := s.lf
    have := s.lr
    omega
  have hlen : (rest.length - other.length) + other.length ≤ rest.length := by omega
  have gt := takeR_get q other rest (rest.length - other.length)
  have rows : ∀ l ∈ takeR rest (rest.length - other.length) other q, l.length ≤ 7 + 6 * (m + 1) ∧ Bd (14 + 724 * (m + 1)) l := fun l hl' => by
    obtain ⟨j, hj, rfl⟩ := List.getElem_of_mem hl'
    have hj' : j < rest.length := by rw [takeR_len] at hj; exact hj
    have e : (takeR rest (rest.length - other.length) other q)[j] = (takeR rest (rest.length - other.length) other q).getD j [] := by rw [List.getD_eq_getElem?_getD, List.getElem?_eq_getElem hj]; rfl
    have er : rest.getD j [] = rest[j] := by rw [List.getD_eq_getElem?_getD, List.getElem?_eq_getElem hj']; rfl
    have w := s.wd _ (List.getElem_mem hj')
    have b := s.bd _ (List.getElem_mem hj')
    rw [e, gt j hlen, er]
    split
    · rename_i h
      have ho : j - (rest.length - other.length) < other.length := by omega
      have eo : other.getD (j - (rest.length - other.length)) [] = other[j - (rest.length - other.length)] := by rw [List.getD_eq_getElem?_getD, List.getElem?_eq_getElem ho]; rfl
      have wo := wO _ (List.getElem_mem ho)
      have bo := bO _ (List.getElem_mem ho)
      rw [eo]
      generalize other[j - (rest.length - other.length)] = o at wo bo
      have hm : m ≤ 6 := by have := s.len; omega
      have ml := mulL_len o q
      refine ⟨Nat.le_trans (lessL_len _ _) (by omega), ?_⟩
      have mb := mul_bd bo wo bq (by omega)
      exact bd_le (lessL_bd (bd_le b (by omega)) mb) (by omega)
    · exact ⟨by omega, bd_le b (by omega)⟩
  have nr : takeR rest (rest.length - other.length) other q ≠ [] := fun z => by
    have := takeR_len other rest (rest.length - other.length) q
    rw [z] at this
    simp at this
    omega
  have less := trP_less nr (by
    rw [takeR_len, gt (rest.length - 1) hlen, if_pos ⟨by omega, by omega⟩]
    refine tr_zero (lessL_tr _ _) fun y => ?_
    rw [lessL_val, mulL_val, eq, show rest.length - 1 - (rest.length - other.length) = other.length - 1 by omega, Int.mul_comm]
    omega)
  rw [takeR_len] at less
  refine ⟨⟨trP_pl _, fun x y => ?_, by have := s.len; omega, by have := s.lf; rw [List.length_set]; exact this, by have := s.lr; omega, fun j hj => ?_, fun l hl' => ?_, fun l hl' => ?_⟩, hf⟩
  · rw [trP_val, takeR_val q x y other rest _ hlen, vP_set _ _ _ _ _ hf, s.fr _ hlen, s.eq]
    simp only [val]
    grind
  · rw [getD_set, if_neg (by omega), s.fr j (by omega)]
  · exact trP_row (B := 7 + 6 * (m + 1)) (fun r hr => (rows r hr).1) l hl'
  · obtain ⟨r, hr, rfl⟩ := List.mem_map.mp (dropE_mem hl')
    exact bd_trim (rows r hr).2
end PL
namespace PL
open PySem PySem.Spec PyProof.Rows L2
instance {a b : K2} : Decidable (lexlt a b) := by unfold lexlt; infer_instance
def HeadFirst (S : List K2) : Prop := match S with
  | [] => False
  | k0 :: r => (∀ k ∈ k0 :: r, ¬ lexlt k0 k ∧ Wt k ≤ Wt k0) ∧ Wt k0 ≤ 4 ∧ k0 ≠ (0, 0)
instance {S : List K2} : Decidable (HeadFirst S) := by unfold HeadFirst; split <;> infer_instance
theorem WT.mono {v w : Int} {t : TD} (h : WT v t) (hw : v ≤ w) : WT w t := ⟨h.gd, h.ne, h.wt, Int.le_trans h.le hw⟩
end PL
namespace PL
open PySem PySem.Spec PyProof.Rows L2
section
variable {X : Cx} {w : WX} {H : Hp} {σ : L2.St} {e : Expr} {pos pp : Pos} {pn : List Nat}
def sWhF (n : Nat) (c : M Bool) (b : SS) : SS := whileN c b n
theorem s_whF {n : Nat} {c : Expr} {body : List Stmt} {q : M Bool} {b : SS} (hpa : PassesOwn (model X.prog X.w) X.A X.env X.xe) (hc : TOk X w c q) (hb : SsOk X w pn body b) : SOk X w pn (.While c body [] pos) (sWhF n q b) := (s_while hpa hc hb).imp fun D σ H h => by
  obtain ⟨B, env, O, st, h⟩ := h
  refine ⟨B, env, O, st, ?_⟩
  unfold sWhF at h
  have ne : whileN q b n env ≠ .no := fun z => by rw [z] at h; exact h
  rw [sWhile_of ne]
  exact h
def insD {α : Type} (le : α → α → Bool) (a : α) : List α → List α
  | [] => [a]
  | b :: l => if le a b then a :: b :: l else b :: insD le a l
def sortD {α : Type} (le : α → α → Bool) : List α → List α
  | [] => []
  | a :: l => insD le a (sortD le l)
theorem insD_app {α : Type} {le : α → α → Bool} {a : α} : ∀ {l₁ l₂ : List α}, (∀ b ∈ l₁, le a b = false) → (∀ b ∈ l₂, le a b = true) → insD le a (l₁ ++ l₂) = l₁ ++ a :: l₂
  | [], [], _, _ => rfl
  | [], b :: l, _, h => by
    show (if le a b then a :: b :: l else b :: insD le a l) = a :: b :: l
    rw [if_pos (h b (by simp))]
  | b :: l₁, l₂, h1, h2 => by
    show (if le a b then a :: b :: (l₁ ++ l₂) else b :: insD le a (l₁ ++ l₂)) = b :: (l₁ ++ a :: l₂)
    rw [h1 b (by simp), if_neg (by simp), insD_app (fun x hx => h1 x (by simp [hx])) h2]
theorem sortD_merge {α : Type} {le : α → α → Bool} (tr : ∀ a b c, le a b = true → le b c = true → le a c = true) (tot : ∀ a b, (le a b || le b a) = true) : ∀ l : List α, l.mergeSort le = sortD le l
  | [] => by simp [sortD]
  | a :: l => by
    obtain ⟨l₁, l₂, e1, e2, h1⟩ := List.mergeSort_cons tr tot a l
    have srt := List.pairwise_mergeSort (le := le) tr tot (a :: l)
    rw [e1] at srt
    have h2 : ∀ b ∈ l₂, le a b = true := fun b hb => List.rel_of_pairwise_cons (List.pairwise_append.mp srt).2.1 hb
    rw [e1, sortD, ← sortD_merge tr tot l, e2]
    exact (insD_app (fun b hb => by simpa using h1 b hb) h2).symm
def pyG (d : D) : PyData := (toPy d).getD .none
def leD (a b : D) : Bool := PySem.W.dataLe false pyG a b
theorem dataLe_total {β : Type} (rev : Bool) (k : β → PyData) : PySem.W.TotalLe (PySem.W.dataLe rev k) := by
  unfold PySem.W.dataLe
  exact PySem.W.sortLe_total _ _ _
def sortOk (l : List D) : Bool := l.all (fun d => (toPy d).isSome && decide ((pyG d).depth ≤ 50)) && (l.all (fun d => l.all fun e => PySem.W.alike (pyG d) (pyG e)) && ((l.all (fun d => match pyG d with | .tuple (_ :: _) => true | _ => false) || l.all fun d => match pyG d with | .none => false | .tuple _ => false | _ => true) && decide (l.length ≤ 1000)))
/-- sorted(xs) -/
def rSortL (K : PySem.W.Frag) : List V → Hp → VK → Prop := fun vs H Q => ∃ (a : Addr) (xs : List V) (bs : List (V × D)), vs = [V.ref a] ∧ SqL K H a xs ∧ xs = bs.map (·.1) ∧ (∀ b ∈ bs, Dp K H b.1 (pyG b.2)) ∧ sortOk (bs.map (·.2)) = true ∧
  ∀ p : Addr, H p = none → Q (.ref p) (upd H p (.lst ((sortD (fun a b => leD a.2 b.2) bs).map (·.1))))
theorem each_vals : ∀ {bs : List (V × D)} {its : List Value}, Vals (bs.map (·.1)) its → PySem.W.EachIs (fun v b => RelV b.1 v) its bs
  | [], _, h => by cases h; exact .nil
  | b :: bs, _, h => by
    cases h with
    | cons r t => exact .cons r (each_vals t)
theorem vals_each : ∀ {bs : List (V × D)} {its : List Value}, PySem.W.EachIs (fun v b => RelV b.1 v) its bs → Vals (bs.map (·.1)) its
  | _, _, .nil => .nil
  | _, _, .cons r t => .cons r (vals_each t)
theorem each_and {α β : Type} {R S : α → β → Prop} : ∀ {as : List α} {bs : List β}, PySem.W.EachIs R as bs → (∀ a b, b ∈ bs → R a b → S a b) → PySem.W.EachIs S as bs
  | _, _, .nil, _ => .nil
  | _, _, .cons r t, h => .cons (h _ _ (by simp) r) (each_and t fun a b hb => h a b (by simp [hb]))
theorem insD_mem {α : Type} {le : α → α → Bool} {a x : α} : ∀ {l : List α}, x ∈ insD le a l ↔ x = a ∨ x ∈ l
  | [] => by simp [insD]
  | b :: l => by
    unfold insD
    split
    · simp
    · rw [List.mem_cons, insD_mem, List.mem_cons]
      constructor
      · rintro (h | h | h) <;> simp [h]
      · rintro (h | h | h) <;> simp [h]
theorem sortD_mem {α : Type} {le : α → α → Bool} {x : α} : ∀ {l : List α}, x ∈ sortD le l ↔ x ∈ l
  | [] => Iff.rfl
  | a :: l => by rw [sortD, insD_mem, sortD_mem, List.mem_cons]
theorem insD_map {α β : Type} {le : β → β → Bool} {f : α → β} {a : α} : ∀ l : List α, (insD (fun x y => le (f x) (f y)) a l).map f = insD le (f a) (l.map f)
  | [] => rfl
  | b :: l => by
    show (if le (f a) (f b) = true then a :: b :: l else b :: insD (fun x y => le (f x) (f y)) a l).map f = if le (f a) (f b) = true then f a :: f b :: l.map f else f b :: insD le (f a) (l.map f)
    split
    · rfl
    · rw [List.map_cons, insD_map l]
theorem sortD_map {α β : Type} {le : β → β → Bool} {f : α → β} : ∀ l : List α, (sortD (fun x y => le (f x) (f y)) l).map f = sortD le (l.map f)
  | [] => rfl
  | a :: l => by rw [sortD, insD_map, sortD_map l]; rfl
theorem sortD_len {α : Type} {le : α → α → Bool} : ∀ l : List α, (sortD le l).length = l.length
  | [] => rfl
  | a :: l => by
    rw [sortD, List.length_cons, ← sortD_len (le := le) l]
    generalize sortD le l = m
    induction m with
    | nil => rfl
    | cons b m ih =>
      unfold insD
      split
      · rfl
      · rw [List.length_cons, ih, List.length_cons]
theorem cr_sortL {k : Nat} (hr : Room k X.A) : CallR X (.builtin "sorted") (rSortL X.K) := by
  intro pins s σ H vs us Q I r h
  obtain ⟨a, xs, bs, rfl, hs, rfl, hd, ok, q⟩ := h
  obtain ⟨its, rv, hl, hz⟩ := I.list hs
  rw [Vals.ref1 r]
  unfold sortOk at ok
  simp only [Bool.and_eq_true, Bool.or_eq_true, List.all_eq_true, List.mem_map, decide_eq_true_eq] at ok
  obtain ⟨ok1, ok2, ok3, ok4⟩ := ok
  have hal : PySem.W.AllAlike (bs.map fun b => pyG b.2) := by
    intro d hd' d' hd''
    obtain ⟨b, hb, rfl⟩ := List.mem_map.mp hd'
    obtain ⟨b', hb', rfl⟩ := List.mem_map.mp hd''
    exact ok2 _ ⟨b, hb, rfl⟩ _ ⟨b', hb', rfl⟩
  have hk : PySem.W.Sortable (bs.map fun b => pyG b.2) := by
    rcases ok3 with z | z
    · refine .inl fun d hd' => ?_
      obtain ⟨b, hb, rfl⟩ := List.mem_map.mp hd'
      have := z _ ⟨b, hb, rfl⟩
      split at this
      · rename_i x y e
        exact ⟨_, _, e⟩
      · cases this
    · refine .inr fun d hd' => ?_
      obtain ⟨b, hb, rfl⟩ := List.mem_map.mp hd'
      have := z _ ⟨b, hb, rfl⟩
      split at this
      · cases this
      · cases this
      · rename_i n1 n2
        exact ⟨n1, fun ys e => n2 ys e⟩
  have e0 := each_vals rv
  refine PySem.W.sorted_data (β := V × D) (enc := fun b => pyG b.2) (R := fun v b => RelV b.1 v) (bs := bs) hl.isList e0 (each_and e0 fun v b hb rb => ?_) hal hk ?_ (fun b hb => ?_) fun out h1 h2 => ?_
  · exact Dp.reads I _ _ _ (hd b hb) rb
  · rw [List.length_map] at ok4
    have : sizeLine = 16777216 := by rfl
    omega
  · have := (ok1 _ ⟨b, hb, rfl⟩).2
    have := hr.units
    omega
  · have e1 : bs.mergeSort (PySem.W.dataLe false fun b => pyG b.2) = sortD (fun a b => leD a.2 b.2) bs := by
      have t : PySem.W.TotalLe (fun a b : V × D => leD a.2 b.2) := dataLe_total false fun b : V × D => pyG b.2
      exact sortD_merge t.trans (fun a b => by rw [Bool.or_eq_true]; exact t.total a b) bs
    rw [e1] at h2
    have rv' := vals_each h2
    obtain ⟨ep, he'⟩ := PyProof.Rows.sortedAll_at s.heap its out.toArray
    have hlen : ((sortD (fun a b => leD a.2 b.2) bs).map (·.1)).length ≤ sizeLine := by
      rw [List.length_map, sortD_len]
      rw [List.length_map] at hz
      exact hz
    exact ⟨.ref _, upd H (s.heap.objs.size + 1) (.lst ((sortD (fun a b => leD a.2 b.2) bs).map (·.1))), I.laid (t' := s.toks) (fun _ _ => PyProof.Rows.sortedAll_old) (Nat.le_succ _) ⟨hlen, out, ep, rv', he'⟩, rfl, q _ (I.hok.fresh (Nat.le_succ _))⟩
def fSort (p : PLs) : PLs := fun env => (p env).bind fun l => if sortOk l then some (sortD leD l) else none
theorem isL_pairs {K : PySem.W.Frag} {W : Addr → Prop} : ∀ {l : List D} {xs : List V}, IsL K W H l xs → ∃ bs : List (V × D), xs = bs.map (·.1) ∧ l = bs.map (·.2) ∧ ∀ b ∈ bs, Is K W H b.2 b.1
  | [], xs, h => ⟨[], h, rfl, nofun⟩
  | d :: r, xs, h => by
    obtain ⟨x, ys, rfl, h1, h2⟩ := h
    obtain ⟨bs, e1, e2, h3⟩ := isL_pairs h2
    refine ⟨(x, d) :: bs, by rw [e1]; rfl, by rw [e2]; rfl, fun b hb => ?_⟩
    rcases List.mem_cons.mp hb with rfl | hb
    · exact h1
    · exact h3 b hb
theorem pairs_isL {K : PySem.W.Frag} {W : Addr → Prop} : ∀ {bs : List (V × D)}, (∀ b ∈ bs, Is K W H b.2 b.1) → IsL K W H (bs.map (·.2)) (bs.map (·.1))
  | [], _ => rfl
  | b :: bs, h => ⟨b.1, bs.map (·.1), rfl, h b (by simp), pairs_isL fun x hx => h x (by simp [hx])⟩
theorem f_sorted {k : Nat} {x : Str} {p : PLs} (hr : Room k X.A) (hg : Gl X x) (hm : X.mg x = none) (hv : bootBuiltins x = some (.builtin "sorted")) (ha : LOk X e p) (hn : x ≠ "__name__" := by decide) (hdb : (x == ("__debug__" : Str)) = false := by decide)
    (he : starEach [e] X.env = (false, eval e X.env) :: starEach [] X.env := by rfl) (hpl : (backTo pos (starEach [] X.env)).any (·.1) = false := by rfl) : FOk X (.Call (.Name x pp) [e] [] pos) (fSort p) :=
  (pe_callB (cr_sortL hr) hg hm hv (pa_cons ha pa_nil he) hn hdb he hpl).imp fun σ H Q h => by
    obtain ⟨B, env, O, s, l, hp, h⟩ := h
    unfold fSort at hp
    simp only [Option.bind_eq_some_iff] at hp
    obtain ⟨l0, hp, e1⟩ := hp
    split at e1
    · rename_i ok
      cases e1
      refine ⟨B, env, O, s, l0, hp, fun a xs H1 g1 h1 i1 => ?_⟩
      obtain ⟨bs, rfl, rfl, hb⟩ := isL_pairs i1
      refine ⟨a, _, bs, rfl, SqL.of h1, rfl, fun b hb' => ?_, ok, fun z hz => ?_⟩
      · have o1 : (toPy b.2).isSome = true := by
          unfold sortOk at ok
          simp only [Bool.and_eq_true, List.all_eq_true, List.mem_map] at ok
          exact (ok.1 _ ⟨b, hb', rfl⟩).1
        obtain ⟨y, ey⟩ := Option.isSome_iff_exists.mp o1
        have := toPy_dp _ _ _ (hb b hb') ey
        rw [show pyG b.2 = y by unfold pyG; rw [ey]; rfl]
        exact this
      · have := h z ((sortD (fun a b => leD a.2 b.2) bs).map (·.1)) H1 g1 hz ?_
        · exact this
        · have q := pairs_isL (K := X.K) (W := fun a => B a ∨ a ∈ O) (H := H1) (bs := sortD (fun a b => leD a.2 b.2) bs) fun b hb' => hb b (sortD_mem.mp hb')
          rw [sortD_map (le := leD) (f := fun b : V × D => b.2)] at q
          exact q
    · cases e1
end
end PL
namespace PL
open PySem PySem.Spec PyProof.Rows L2
end PL
namespace PL
open PySem PySem.Spec PyProof.Rows L2
section
variable {X : Cx} {w : WX} {H : Hp} {σ : L2.St} {pos pp : Pos} {pn : List Nat} {K : PySem.W.Frag} {B : Addr → Prop} {O : List Addr} {env : Slots}
/-- a new tuple that nobody holds -/
theorem Stt.tup {e1 : Slots} {O1 : List Addr} {H1 : Hp} {τ : L2.St} {p : Addr} {xs : List V} (s : Stt K B H1 τ e1 O1) (f : Frm O H [] O1 H1) (hp : H1 p = none) : Stt K B (upd H1 p (.tup xs)) τ e1 O1 ∧ Frm O H [] O1 (upd H1 p (.tup xs)) := by
  have g : ∀ a o, H1 a = some o → upd H1 p (.tup xs) a = some o := fun a o e => by rw [upd_ne (ne_of_none e hp)]; exact e
  refine ⟨s.grow g (fun a z => .inl z) fun a z => ?_, fun a o hw ha => ?_⟩
  · obtain ⟨u, e⟩ := s.tr a z
    exact ⟨u, g _ _ e⟩
  · obtain ⟨q1, q2⟩ := f a o hw ha
    exact ⟨g _ _ q1, q2⟩
theorem s_parT {i j : Nat} {x y : Str} {a b : Expr} {f g : M C} {px py pt : Pos} {kt k2 pt2} (hN : X.N.Nodup) (hi : X.N[i]? = some x) (hj : X.N[j]? = some y)
    (hx : Loc X.env.scope x) (hy : Loc X.env.scope y) (ha : AMk X w [a, b] [f, g]) (hc : X.calm = true := by rfl) (hpi : i ∉ pn := by decide) (hpj : j ∉ pn := by decide)
    (hfx : X.fn x = true ∨ X.env.scope.names.lookup x = some .local := by first | exact .inl rfl | exact .inr rfl) (hfy : X.fn y = true ∨ X.env.scope.names.lookup y = some .local := by first | exact .inl rfl | exact .inr rfl)
    (hs : swapsWithSole [.Tuple [.Name x px, .Name y py] kt pt] (.Tuple [a, b] k2 pt2) pos.line X.env = pure false := by rfl) (hw : swappedStores [.Tuple [.Name x px, .Name y py] kt pt] (.Tuple [a, b] k2 pt2) X.env = pure none := by rfl)
    (h1 : (assignEach [.Tuple [.Name x px, .Name y py] kt pt] X.env).map (·.2) = [assign (.Tuple [.Name x px, .Name y py] kt pt) X.env] := by rfl) :
    SOk X w pn (.Assign [.Tuple [.Name x px, .Name y py] kt pt] (.Tuple [a, b] k2 pt2) pos) (sPar [i, j] [f, g]) := ⟨fun pins s σ H D I h => (ps_asg (pe_tup ha) (pg_tup hc (pgs_cons (pg_name hN hi hx hfx) (pgs_cons (pg_name hN hj hy hfy) pgs_nil))) hs hw h1).run pins s σ H D I (by
  obtain ⟨B, env, O, st, h⟩ := h
  refine rdM_s st h fun cs e vs H' A O' ec r h => ?_
  have hl := evMs_len ec
  have hv := r.rep.length
  obtain ⟨c1, c2, rfl⟩ : ∃ c1 c2, cs = [c1, c2] := by
    match cs, hl with
    | [c1, c2], _ => exact ⟨c1, c2, rfl⟩
  obtain ⟨v1, v2, rfl⟩ : ∃ v1 v2, vs = [v1, v2] := by
    match vs, hv with
    | [v1, v2], _ => exact ⟨v1, v2, rfl⟩
  have hn := I.len
  obtain ⟨A2, O2, r2⟩ := r.put1 (i := i) (by rw [r.len, hn]; exact lt_of_N hi)
  obtain ⟨A3, O3, r3⟩ := r2.put1 (i := j) (by rw [r2.len, List.length_set, hn]; exact lt_of_N hj)
  obtain ⟨s3, f3⟩ := r3.done
  refine ⟨by show 2 ≤ sizeLine; decide, fun p hp => ⟨p, [v1, v2], rfl, SqT.of upd_same, rfl, v1, [v2], rfl, v2, [], rfl, rfl, ?_⟩⟩
  obtain ⟨s4, f4⟩ := Stt.tup s3 f3 hp (xs := [v1, v2])
  exact h _ _ O3 s4 f4 ((Pin.set hpi).trans (Pin.set hpj)))⟩
theorem s_parT3 {i j l : Nat} {x y z : Str} {a b c : Expr} {f g k : M C} {px py pz pt : Pos} {kt k2 pt2} (hN : X.N.Nodup) (hi : X.N[i]? = some x) (hj : X.N[j]? = some y) (hl : X.N[l]? = some z)
    (hx : Loc X.env.scope x) (hy : Loc X.env.scope y) (hz : Loc X.env.scope z) (ha : AMk X w [a, b, c] [f, g, k]) (hc : X.calm = true := by rfl) (hpi : i ∉ pn := by decide) (hpj : j ∉ pn := by decide) (hpl : l ∉ pn := by decide)
    (hfx : X.fn x = true ∨ X.env.scope.names.lookup x = some .local := by first | exact .inl rfl | exact .inr rfl) (hfy : X.fn y = true ∨ X.env.scope.names.lookup y = some .local := by first | exact .inl rfl | exact .inr rfl) (hfz : X.fn z = true ∨ X.env.scope.names.lookup z = some .local := by first | exact .inl rfl | exact .inr rfl)
    (hs : swapsWithSole [.Tuple [.Name x px, .Name y py, .Name z pz] kt pt] (.Tuple [a, b, c] k2 pt2) pos.line X.env = pure false := by rfl) (hw : swappedStores [.Tuple [.Name x px, .Name y py, .Name z pz] kt pt] (.Tuple [a, b, c] k2 pt2) X.env = pure none := by rfl)
    (h1 : (assignEach [.Tuple [.Name x px, .Name y py, .Name z pz] kt pt] X.env).map (·.2) = [assign (.Tuple [.Name x px, .Name y py, .Name z pz] kt pt) X.env] := by rfl) :
    SOk X w pn (.Assign [.Tuple [.Name x px, .Name y py, .Name z pz] kt pt] (.Tuple [a, b, c] k2 pt2) pos) (sPar [i, j, l] [f, g, k]) := ⟨fun pins s σ H D I h => (ps_asg (pe_tup ha) (pg_tup hc (pgs_cons (pg_name hN hi hx hfx) (pgs_cons (pg_name hN hj hy hfy) (pgs_cons (pg_name hN hl hz hfz) pgs_nil)))) hs hw h1).run pins s σ H D I (by
  obtain ⟨B, env, O, st, h⟩ := h
  refine rdM_s st h fun cs e vs H' A O' ec r h => ?_
  have hl' := evMs_len ec
  have hv := r.rep.length
  obtain ⟨c1, c2, c3, rfl⟩ : ∃ c1 c2 c3, cs = [c1, c2, c3] := by
    match cs, hl' with
    | [c1, c2, c3], _ => exact ⟨c1, c2, c3, rfl⟩
  obtain ⟨v1, v2, v3, rfl⟩ : ∃ v1 v2 v3, vs = [v1, v2, v3] := by
    match vs, hv with
    | [v1, v2, v3], _ => exact ⟨v1, v2, v3, rfl⟩
  have hn := I.len
  obtain ⟨A2, O2, r2⟩ := r.put1 (i := i) (by rw [r.len, hn]; exact lt_of_N hi)
  obtain ⟨A3, O3, r3⟩ := r2.put1 (i := j) (by rw [r2.len, List.length_set, hn]; exact lt_of_N hj)
  obtain ⟨A4, O4, r4⟩ := r3.put1 (i := l) (by rw [r3.len, List.length_set, List.length_set, hn]; exact lt_of_N hl)
  obtain ⟨s3, f3⟩ := r4.done
  refine ⟨by show 3 ≤ sizeLine; decide, fun p hp => ⟨p, [v1, v2, v3], rfl, SqT.of upd_same, rfl, v1, [v2, v3], rfl, v2, [v3], rfl, v3, [], rfl, rfl, ?_⟩⟩
  obtain ⟨s4, f4⟩ := Stt.tup s3 f3 hp (xs := [v1, v2, v3])
  exact h _ _ O4 s4 f4 (((Pin.set hpi).trans (Pin.set hpj)).trans (Pin.set hpl)))⟩
end
end PL
namespace PL
open PySem PySem.Spec PyProof.Rows L2
end PL
namespace PL
open PySem PySem.Spec PyProof.Rows L2
end PL
namespace PL
open PySem PySem.Spec PyProof.Rows L2
end PL
namespace PL
open PySem PySem.Spec PyProof.Rows L2
end PL
namespace PL
open PySem PySem.Spec PyProof.Rows L2
end PL
namespace PL
open PySem PySem.Spec PyProof.Rows L2
/-- nothing is promised -/
theorem FnM.none {Pr : Program} {w : World} {K : PySem.W.Frag} {mg : Str → Option Value} {base : Heap} {k : Nat} {x : Str} {st : Stmt} {ps : List Str} (F : DefAt K mg x st) : FnM Pr w K mg base k x st ps (fun _ => .no) := by
  obtain ⟨f, oc, od, kV, doc, pm, an, cdv, ct, osl, h1, h2, h3, h4⟩ := F.ex
  refine ⟨f, kV, doc, pm, an, cdv, ct, h1, h2, fun vs H Q E h => h.1, fun A outer s H args us vs Q E hg hr e0 bd r h => ?_⟩
  obtain ⟨_, _, _, _, _, z⟩ := h
  exact z.elim
end PL
namespace PL
open PySem PySem.Spec PyProof.Rows L2
end PL
namespace PL
open PySem PySem.Spec PyProof.Rows L2
end PL
namespace PL
open PySem PySem.Spec PyProof.Rows L2
section
open Builtin Builtin.ObjectAttr PySem.Calls
variable {prog : Program} {w : World} {A : Around} {R : Result → Shared → Prop} {hp : Heap} {g : Array GenState} {d : Drawn} {t : Nat} {os : OsState} {K : PySem.W.Frag} {name : Str} {tk : Tok} {v : Value} {x C dx : Addr} {fv : Array Value} {cd : ClassData} {B : String} {bmB : List Value}
/-- the first field: the dict is made -/
theorem put_first (SF : PySem.StoreFacts B bmB "object.__setattr__" "object") (KI : K.In hp) (hx : hp.get? x = some { cls := .ref C, data := .fields fv }) (hcd : PySem.W.clsIn K C = some cd) (ov : PySem.W.excOver K C bmB = true) (hh : cd.hasDict = true) (tkr : PySem.W.takerIn K C name = some none)
    (hq : ∀ h' tk' dx, (∀ b o, b ≠ x → hp.get? b = some o → h'.get? b = some o) → hp.objs.size ≤ dx → dx ≠ x → h'.get? x = some { cls := .ref C, dict := some dx, data := .fields fv } →
      h'.Ns1 dx (fun y => if y = name then some v else none) → R (.ok (.ret .none)) ⟨h', g, d, tk', os⟩) :
    codeAny (model prog w) A (.call (.builtin "object.__setattr__") ⟨[.ref x, .str name tk, v], []⟩) R ⟨hp, g, d, t, os⟩ := by
  have ia : PySem.W.InstAt hp x { cls := .ref C, data := .fields fv } C none := ⟨hx, rfl, rfl, trivial⟩
  have lt : x ≠ hp.objs.size := Nat.ne_of_lt (Heap.lt_size hx)
  have lk : PySem.W.Looks (model prog w) hp (classData C) cd := PySem.W.looks_clsIn KI hcd
  refine PySem.W.osa_openX SF KI ia ov tkr fun b => ?_
  dsimp only
  obtain ⟨n1, n2, n3, n4, n5, hd, n6, n7, n8, n9, n10⟩ := cd
  dsimp only at hh
  subst hh
  unfold storeInOwnDict ownDictForStores
  repeat (first | with_reducible refine PySem.HandSPX.store_in_new ?_ ?_ | with_reducible refine wpAny_loadPart_at hx ?_ | with_reducible refine lk.at ?_ | wp_step)
  · exact ⟨_, #[], _, (Heap.get?_update_ne _ _ _ _ lt.symm).trans (Heap.get?_push_at rfl rfl), rfl, fun e he => absurd he (by simp), fun _ => rfl⟩
  · intro h' tk' hn' hs
    have hx₁ : (hp.push { cls := .type "dict", data := .dict #[] }).get? x = some { cls := .ref C, data := .fields fv } := Heap.get?_push_of_some _ hx
    refine hq h' tk' hp.objs.size (fun b o hb ho => ?_) (Nat.le_refl _) lt.symm ?_ hn'
    · exact (hs.2 b (Nat.ne_of_lt (Heap.lt_size ho))).trans ((Heap.get?_update_ne _ _ _ _ hb).trans (Heap.get?_push_of_some _ ho))
    · exact (hs.2 x lt).trans (Heap.get?_update_self _ hx₁ rfl)
/-- a further field -/
theorem put_more {m0 : Str → Option Value} {nl : List Str} (SF : PySem.StoreFacts B bmB "object.__setattr__" "object") (KI : K.In hp) (hx : hp.get? x = some { cls := .ref C, dict := some dx, data := .fields fv }) (hns : hp.Ns1 dx m0) (hw : Within m0 nl) (hz : nl.length ≤ 1000)
    (hcd : PySem.W.clsIn K C = some cd) (ov : PySem.W.excOver K C bmB = true) (hh : cd.hasDict = true) (tkr : PySem.W.takerIn K C name = some none)
    (hq : ∀ h' tk', (∀ b o, b ≠ dx → hp.get? b = some o → h'.get? b = some o) → h'.Ns1 dx (fun y => if y = name then some v else m0 y) → R (.ok (.ret .none)) ⟨h', g, d, tk', os⟩) :
    codeAny (model prog w) A (.call (.builtin "object.__setattr__") ⟨[.ref x, .str name tk, v], []⟩) R ⟨hp, g, d, t, os⟩ := by
  obtain ⟨oD, _, _, hoD, _, _⟩ := hns.count hw
  have ia : PySem.W.InstAt hp x { cls := .ref C, dict := some dx, data := .fields fv } C (some oD) := ⟨hx, rfl, rfl, hoD⟩
  have lk : PySem.W.Looks (model prog w) hp (classData C) cd := PySem.W.looks_clsIn KI hcd
  refine PySem.W.osa_openX SF KI ia ov tkr fun b => ?_
  dsimp only
  obtain ⟨n1, n2, n3, n4, n5, hd, n6, n7, n8, n9, n10⟩ := cd
  dsimp only at hh
  subst hh
  unfold storeInOwnDict ownDictForStores
  repeat (first | with_reducible refine PySem.OEX.store_in_old hns hw hz ?_ | with_reducible refine wpAny_loadPart_at hx ?_ | with_reducible refine lk.at ?_ | wp_step)
  intro h' tk' hn' hs
  exact hq h' tk' (fun b o hb ho => (hs.2 b hb).trans ho) hn'
end
end PL
namespace PL
open PySem PySem.Spec PyProof.Rows L2
/-- the class at C, over the built-in exception B -/
structure XCls (K : PySem.W.Frag) (C : Addr) (B newId initId : String) (bmB : List Value) : Prop where
  base : PySem.ExcBaseFacts B newId initId bmB
  store : PySem.StoreFacts B bmB "object.__setattr__" "object"
  cls : ∃ nm q N bs bm sn sub ab col dd k0 k1 k2 k3 k5, K.lookup C = some (excClassObj nm q C N bs bm true sn sub ab col dd k0 k1 k2 k3 k5 newId) ∧ PySem.W.excTail bmB bm = true
  sa : PySem.W.findIn K (.ref C) "__setattr__" = some (some (.builtin "object.__setattr__"))
  exc : PySem.W.subIn K (.ref C) (.type "BaseException") = some true
  typ : PySem.W.typeIn K (.ref C) = some (.type "type")
  keep : PySem.W.keepIn K (.ref C) = true
section
variable {X : Cx} {pins : List (Addr × Obj)} {σ : L2.St} {H : Hp} {s : Shared} {a C dx : Addr} {f : Str} {y : V} {u : Value} {fs : List (Str × V)} {Q : Unit → Shared → Prop} {E : Value → Shared → Prop} {A : Around} {B newId initId : String} {bmB : List Value}
theorem taker_none {K : PySem.W.Frag} (h : PySem.W.findIn K (.ref C) f = some none) : PySem.W.takerIn K C f = some none := by
  unfold PySem.W.takerIn
  rw [h]
  rfl
theorem XCls.over {K : PySem.W.Frag} (T : XCls K C B newId initId bmB) : ∃ cd, PySem.W.clsIn K C = some cd ∧ PySem.W.excOver K C bmB = true ∧ cd.hasDict = true := by
  obtain ⟨nm, q, N, bs, bm, sn, sub, ab, col, dd, k0, k1, k2, k3, k5, hC, hbm⟩ := T.cls
  have e : PySem.W.clsIn K C = some { name := nm, bases := bs, mro := .ref C :: bm, ns := N, qualname := q, hasDict := true, slotNames := sn, subclasses := sub, abstract := ab, collection := col, hasDel := false } := by unfold PySem.W.clsIn; rw [hC] <;> rfl
  refine ⟨_, e, ?_, rfl⟩
  unfold PySem.W.excOver
  rw [e]
  show (C == C && PySem.W.excTail bmB bm) = true
  rw [hbm]
  simp
/-- self.f = y, the first one -/
theorem xst_new (T : XCls X.K C B newId initId bmB) (J : Inv X pins σ H s) (at0 : H a = some (exo a C none)) (hno : PySem.W.findIn X.K (.ref C) f = some none) (ry : RelV y u)
    (go : ∀ dx s', H dx = none → dx ≠ a → Inv X pins σ (upd (upd H dx (exd dx [(f, y)])) a (exo a C (some dx))) s' → Q () s') : wpAny (model X.prog X.w) A (setAttr (.ref a) f u) Q E s := by
  obtain ⟨cd, hcd, ov, hh⟩ := T.over
  obtain ⟨t1, obj⟩ := exo_at J.hok at0
  obtain ⟨h0, gs, dr, tks, oss⟩ := s
  refine PySem.W.set_plain J.kIn (ox := { cls := .ref C, dict := none, data := .fields #[.ref t1, .none, .none, .none, .bool false, .none] }) (od := none) ⟨obj, rfl, rfl, trivial⟩ T.sa ?_
  refine put_first T.store J.kIn obj hcd ov hh (taker_none hno) fun hN tk' dx kp dge dna atN nsN => ?_
  have freeD : H dx = none := J.hok.fresh dge
  have neD : ∀ {b : Addr} {o : Obj}, h0.get? b = some o → b ≠ dx := fun {b o} z => Nat.ne_of_lt (Nat.lt_of_lt_of_le (Heap.lt_size z) dge)
  have neA : ∀ {b : Addr}, H b = none → b ≠ a := fun {b} n z => by
    rw [z] at n
    exact absurd (n.symm.trans at0) (by simp)
  have un1 : Un X.fs [] H (upd (upd H dx (exd dx [(f, y)])) a (exo a C (some dx))) h0 hN := by
    constructor
    · intro b o z n _ _
      exact kp b o (neA n) z
    · intro b o z n _ _
      exact ⟨o.slots, kp b o (neA n) z⟩
    · intro b o z n _
      rw [upd_ne (neA n), upd_ne (neD z)]
      exact n
    · intro b o z _
      by_cases eb : b = a
      · rw [eb]
        exact ⟨_, atN⟩
      · exact ⟨o, kp b o eb z⟩
    · intro b xs z
      rw [upd_ne (at_ne at0 z exo_tup), upd_ne (ne_of_none z freeD)]
      exact z
    · intro b o v z
      rw [upd_ne (at_ne at0 z exo_frz), upd_ne (ne_of_none z freeD)]
      exact z
    · intro b ps z
      refine ⟨#[], ?_⟩
      rw [upd_ne (at_ne at0 z exo_tbl), upd_ne (ne_of_none z freeD), z]
      simp
  refine go dx _ freeD dna (J.un (t' := tk') un1 fun b o z => ?_)
  by_cases eb : b = a
  · rw [eb, upd_same] at z
    rw [eb, ← Option.some.inj z]
    exact exo_ok atN
  · rw [upd_ne eb] at z
    by_cases ed : b = dx
    · rw [ed, upd_same] at z
      rw [ed, ← Option.some.inj z]
      exact exd_ok nsN (relO_put (fs := []) ry fun g => True.intro)
    · rw [upd_ne ed] at z
      have noa : ∀ {c : Addr}, H c = some (.own b) → c ≠ a := fun {c} hc => at_ne at0 hc exo_own
      refine (J.hok b o z).stay (fun c v hc zz => kp c v ?_ zz) (fun c hc => ?_) (fun c xs hc => ?_)
      · rcases hc with hc | hc
        · rwa [hc]
        · exact noa hc
      · rw [upd_ne (noa hc), upd_ne (ne_of_none hc freeD)]
        exact hc
      · rw [upd_ne (at_ne at0 hc exo_tup), upd_ne (ne_of_none hc freeD)]
        exact hc
/-- self.f = y, a further one -/
theorem xst_old (T : XCls X.K C B newId initId bmB) (J : Inv X pins σ H s) (at0 : H a = some (exo a C (some dx))) (atD : H dx = some (exd dx fs)) (few : fs.length ≤ 900) (hno : PySem.W.findIn X.K (.ref C) f = some none) (ry : RelV y u)
    (go : ∀ s', Inv X pins σ (upd H dx (exd dx ((f, y) :: fs))) s' → Q () s') : wpAny (model X.prog X.w) A (setAttr (.ref a) f u) Q E s := by
  obtain ⟨cd, hcd, ov, hh⟩ := T.over
  obtain ⟨t1, obj⟩ := exo_at J.hok at0
  obtain ⟨mA, nsA, rel⟩ := exd_at J.hok atD
  have wi := within_of rel
  obtain ⟨h0, gs, dr, tks, oss⟩ := s
  obtain ⟨oD, _, _, hoD, _, _⟩ := nsA.count wi
  refine PySem.W.set_plain J.kIn (ox := { cls := .ref C, dict := some dx, data := .fields #[.ref t1, .none, .none, .none, .bool false, .none] }) (od := some oD) ⟨obj, rfl, rfl, hoD⟩ T.sa ?_
  refine put_more T.store J.kIn obj nsA wi (by rw [List.length_map]; omega) hcd ov hh (taker_none hno) fun hN tk' kp nsN => ?_
  have thr : ∃ o, hN.get? dx = some o := by
    obtain ⟨o, _, _, e', _⟩ := nsN
    exact ⟨o, e'⟩
  exact go _ (J.write (t' := tk') (x := dx) (e := dx) (o := exd dx ((f, y) :: fs)) (by rw [atD]; exact True.intro) (.inl rfl) kp thr (exd_ok nsN (relO_put ry rel)))
end
/-- self.f = e -/
def tXst (K : PySem.W.Frag) (B newId initId : String) (bmB : List Value) (f : Str) (to te : TE) : TS := fun D σ H => te σ H fun y H1 => to σ H1 fun x H2 => ∃ a C : Addr, x = .ref a ∧ XCls K C B newId initId bmB ∧ PySem.W.findIn K (.ref C) f = some none ∧
  ((H2 a = some (exo a C none) ∧ ∀ dx, H2 dx = none → dx ≠ a → D.nx σ (upd (upd H2 dx (exd dx [(f, y)])) a (exo a C (some dx)))) ∨
    ∃ (dx : Addr) (fs : List (Str × V)), H2 a = some (exo a C (some dx)) ∧ H2 dx = some (exd dx fs) ∧ fs.length ≤ 900 ∧ D.nx σ (upd H2 dx (exd dx ((f, y) :: fs))))
section
variable {X : Cx} {o e : Expr} {es : List Expr} {to te : TE} {ta : TA} {f : Str} {p p' p1 p2 pos : Pos} {B newId initId : String} {bmB : List Value}
theorem ps_xst (ho : PE X o to) (he : PE X e te) (hs : swapsWith e (some (.Attribute o f p')) pos.line X.env = pure false := by rfl) : PS X (.Assign [.Attribute o f p'] e pos) (tXst X.K B newId initId bmB f to te) := by
  refine ⟨fun pins s σ H D I h => ?_⟩
  refine plainObj_wpAny_Assign_Attribute (thn (he.run pins s σ H _ I h) fun v s1 ⟨y, H1, I1, ry, q1⟩ => thn (ho.run pins s1 σ H1 _ I1 q1) fun u s2 ⟨x, H2, I2, rx, a, C, ex, T, hno, q⟩ => ?_) hs
  subst ex
  obtain rfl : u = Value.ref a := rx
  rcases q with ⟨ea, q⟩ | ⟨dx, fs, ea, ed, few, q⟩
  · exact xst_new T I2 ea hno ry fun dx s' n ne J => ⟨σ, _, J, q dx n ne⟩
  · exact xst_old T I2 ea ed few hno ry fun s' J => ⟨σ, _, J, q⟩
/-- C(e, ..), C's own __init__ keeping sp -/
theorem pmk_x {CX : CXT} {x : Str} {C fI : Addr} {k : Nat} {fd : FuncData} {ps : List Str} {sp : Sp} {ds : List Value} {dvs : List V} (T : XCls X.K C B newId initId bmB) (iC : PySem.W.findIn X.K (.ref C) "__init__" = some (some (.ref fI))) (tI : PySem.W.typeIn X.K (.ref fI) = some (.type "function"))
    (F1 : FnOk X.prog X.w X.K X.mg X.base CX k fI fd ps sp) (hr : Room (k + 1) X.A) (hb : Binds X.K fd ps ds) (hv : Vals dvs ds) (hx : Passes CX X (fun _ _ _ => False)) (hg : Gl X x) (hm : X.mg x = some (.ref C)) (ha : PA X (e :: es) ta)
    (hdb : (x == ("__debug__" : Str)) = false := by decide) (he : starEach (e :: es) X.env = (false, eval e X.env) :: starEach es X.env := by rfl) (hpl : (backTo pos (starEach es X.env)).any (·.1) = false := by rfl) :
    PMk X (.Call (.Name x p) (e :: es) [] pos) (tMkO C sp dvs ta) := by
  intro pins s σ H Q I h
  obtain ⟨nm, q, N, bs, bm, sn, sub, ab, col, dd, k0, k1, k2, k3, k5, hC, hbm⟩ := T.cls
  refine wpAny_Call_Name_kw (ld_glob I hg hm ?_ hdb)
  refine PySem.W.callWith_K (h₀ := X.base) I.ok.mod.kin T.keep (thn (ha.run pos pins s σ H _ I h) fun us s1 ⟨vs, H1, J, rv, hz, q1⟩ => ⟨J.kIn, ?_⟩) he hpl
  show wpAny _ _ (call (.ref C) us) _ _ _
  obtain ⟨h0, gs, dr, tks, oss⟩ := s1
  have le1 : h0.objs.size ≤ h0.objs.size + 1 := Nat.le_succ _
  have fr1 : H1 (h0.objs.size + 1) = none := J.hok.fresh le1
  have want := q1 (h0.objs.size + 1) fr1
  have kp : ∀ b o, h0.get? b = some o → ((h0.push (PySem.W.kdv_tup us)).push (PySem.HandSPX.excO C h0.objs.size)).get? b = some o := fun b o z => Heap.get?_push_of_some _ (Heap.get?_push_of_some _ z)
  have gotN : ((h0.push (PySem.W.kdv_tup us)).push (PySem.HandSPX.excO C h0.objs.size)).get? (h0.objs.size + 1) = some (PySem.HandSPX.excO C h0.objs.size) := by heap_get
  have J2 : Inv X pins σ (upd H1 (h0.objs.size + 1) (exo (h0.objs.size + 1) C none)) ⟨(h0.push (PySem.W.kdv_tup us)).push (PySem.HandSPX.excO C h0.objs.size), gs, dr, tks, oss⟩ :=
    J.laid (t' := tks) (a := h0.objs.size + 1) (o := exo (h0.objs.size + 1) C none) (h' := (h0.push (PySem.W.kdv_tup us)).push (PySem.HandSPX.excO C h0.objs.size)) kp le1 (exo_ok gotN)
  have r2 : Vals (V.ref (h0.objs.size + 1) :: (vs ++ dvs)) (Value.ref (h0.objs.size + 1) :: (us ++ ds)) := .cons rfl (rv.append hv)
  have len2 : (Value.ref (h0.objs.size + 1) :: us ++ ds).length = ps.length := by
    have z := r2.length
    rw [F1.len _ _ _ _ want] at z
    exact z.symm
  have few : us.length ≤ sizeLine := by
    have z := Paired.length rv
    rw [sizeLine_eq]
    omega
  refine wpAny_call (PySem.HandSPX.call_own T.base (fun Y => PySem.W.excTail_contains Y bm hbm) (J.kIn _ _ hC) (PySem.W.looks_findIn J.kIn iC) (fun self => PySem.W.bind_fn J.kIn self tI) few
    (codeAny_mono (F1.run _ X.stack _ _ ⟨Value.ref (h0.objs.size + 1) :: us, []⟩ (Value.ref (h0.objs.size + 1) :: (us ++ ds)) _ _ (fun _ _ _ => False) (hr.make C us []) (J2.env0.make C us []) (hb _ (Value.ref (h0.objs.size + 1) :: us) J2.kIn len2) r2 want) fun r s' back => ?_))
  cases r with
  | error er => exact hx pins σ _ _ er s' J2 back
  | ok fl =>
    cases fl with
    | ret u =>
      obtain ⟨v, H2, os2, bare2, un2, hok2, rv2, ev, d, fs, ea, ed, hd1, q2⟩ := back
      subst ev
      obtain ⟨h2, g2, d2, t2, os'⟩ := s'
      exact ⟨rv2, mk_end (raises_own T.exc T.typ) J le1 kp un2 hok2 os2 bare2 ea ed hd1 q2⟩
    | next => exact False.elim back
    | brk => exact False.elim back
    | cont => exact False.elim back
end
end PL
namespace PL
open PySem PySem.Spec PyProof.Rows L2
section
variable {P : Program} {w : World} {K : PySem.W.Frag} {mg : Str → Option Value} {base : Heap} {B newId initId : String} {bmB : List Value}
/-- __init__ of one field -/
def spI1 (K : PySem.W.Frag) (B newId initId : String) (bmB : List Value) (f : Str) : Sp := fun vs H Q E => ∃ (a C : Addr) (y : V), vs = [.ref a, y] ∧ XCls K C B newId initId bmB ∧ PySem.W.findIn K (.ref C) f = some none ∧ H a = some (exo a C none) ∧
  ∀ dx, H dx = none → dx ≠ a → Q .non (upd (upd H dx (exd dx [(f, y)])) a (exo a C (some dx)))
/-- of two -/
def spI2 (K : PySem.W.Frag) (B newId initId : String) (bmB : List Value) (f g : Str) : Sp := fun vs H Q E => ∃ (a C : Addr) (y z : V), vs = [.ref a, y, z] ∧ XCls K C B newId initId bmB ∧ PySem.W.findIn K (.ref C) f = some none ∧ PySem.W.findIn K (.ref C) g = some none ∧ H a = some (exo a C none) ∧
  ∀ dx, H dx = none → dx ≠ a → Q .non (upd (upd (upd H dx (exd dx [(f, y)])) a (exo a C (some dx))) dx (exd dx [(g, z), (f, y)]))
/-- a class whose __init__ stands at st -/
structure ClsAt (K : PySem.W.Frag) (mg : Str → Option Value) (x : Str) (B newId initId : String) (bmB : List Value) (st : Stmt) (fl : List Str) : Prop where
  ex : ∃ (C fI : Addr) (kV doc pm : Value) (an : Option Addr) (cdv ct oc : Value) (od : Option Addr) (osl : Array (Option Value)), mg x = some (.ref C) ∧ XCls K C B newId initId bmB ∧ PySem.W.findIn K (.ref C) "__init__" = some (some (.ref fI)) ∧
    PySem.W.typeIn K (.ref fI) = some (.type "function") ∧ K.lookup fI = some ⟨oc, od, .func (PySem.W.fnOf "__init__" (x ++ ".__init__") (defArgs st) (defBody st) (defScope st) .none kV doc pm an cdv ct), osl⟩ ∧ PySem.W.codeIn K cdv (x ++ ".__init__") = true ∧
    ∀ f ∈ fl, PySem.W.findIn K (.ref C) f = some none
theorem fn_i1 {k : Nat} {fI : Addr} {x : Str} {st : Stmt} {kV doc pm cdv ct oc : Value} {an od : Option Addr} {osl : Array (Option Value)} {a0 a1 f : Str} {p1 p2 p3 p4 : Pos}
    (lk : K.lookup fI = some ⟨oc, od, .func (PySem.W.fnOf "__init__" (x ++ ".__init__") (defArgs st) (defBody st) (defScope st) .none kV doc pm an cdv ct), osl⟩) (hcd : PySem.W.codeIn K cdv (x ++ ".__init__") = true) (S : FnScope [a0, a1] [a0, a1] (defScope st))
    (hb : defBody st = [.Assign [.Attribute (.Name a0 p1) f p2] (.Name a1 p3) p4]) (v0 : Vis (defScope st) a0) (v1 : Vis (defScope st) a1)
    (n0 : (a0 == ("__debug__" : Str)) = false := by decide) (n1 : (a1 == ("__debug__" : Str)) = false := by decide) (c0 : (a0 == ("__classdict__" : Str)) = false := by decide) (c1 : (a1 == ("__classdict__" : Str)) = false := by decide) :
    FnOk P w K mg base C8.CX0 (k + 1) fI (PySem.W.fnOf "__init__" (x ++ ".__init__") (defArgs st) (defBody st) (defScope st) .none kV doc pm an cdv ct) [a0, a1] (spI1 K B newId initId bmB f) := by
  refine fn_of lk hcd S (fun vs H Q E h => ?_) fun A outer s H vs Q E hr h => ?_
  · obtain ⟨a, C, y, rfl, _⟩ := h
    rfl
  · obtain ⟨a, C, y, rfl, T, hno, ha, go⟩ := h
    rw [hb]
    exact ⟨_, pss_one (ps_xst (B := B) (newId := newId) (initId := initId) (bmB := bmB) (pe_var (i := 0) rfl v0 n0 c0) (pe_var (i := 1) rfl v1 n1 c1)), y, rfl, .ref a, rfl, a, C, rfl, T, hno, .inl ⟨ha, go⟩⟩
theorem fn_i2 {k : Nat} {fI : Addr} {x : Str} {st : Stmt} {kV doc pm cdv ct oc : Value} {an od : Option Addr} {osl : Array (Option Value)} {a0 a1 a2 f g : Str} {p1 p2 p3 p4 q1 q2 q3 q4 : Pos}
    (lk : K.lookup fI = some ⟨oc, od, .func (PySem.W.fnOf "__init__" (x ++ ".__init__") (defArgs st) (defBody st) (defScope st) .none kV doc pm an cdv ct), osl⟩) (hcd : PySem.W.codeIn K cdv (x ++ ".__init__") = true) (S : FnScope [a0, a1, a2] [a0, a1, a2] (defScope st))
    (hb : defBody st = [.Assign [.Attribute (.Name a0 p1) f p2] (.Name a1 p3) p4, .Assign [.Attribute (.Name a0 q1) g q2] (.Name a2 q3) q4]) (v0 : Vis (defScope st) a0) (v1 : Vis (defScope st) a1) (v2 : Vis (defScope st) a2)
    (n0 : (a0 == ("__debug__" : Str)) = false := by decide) (n1 : (a1 == ("__debug__" : Str)) = false := by decide) (n2 : (a2 == ("__debug__" : Str)) = false := by decide)
    (c0 : (a0 == ("__classdict__" : Str)) = false := by decide) (c1 : (a1 == ("__classdict__" : Str)) = false := by decide) (c2 : (a2 == ("__classdict__" : Str)) = false := by decide) :
    FnOk P w K mg base C8.CX0 (k + 1) fI (PySem.W.fnOf "__init__" (x ++ ".__init__") (defArgs st) (defBody st) (defScope st) .none kV doc pm an cdv ct) [a0, a1, a2] (spI2 K B newId initId bmB f g) := by
  refine fn_of lk hcd S (fun vs H Q E h => ?_) fun A outer s H vs Q E hr h => ?_
  · obtain ⟨a, C, y, z, rfl, _⟩ := h
    rfl
  · obtain ⟨a, C, y, z, rfl, T, hf, hg, ha, go⟩ := h
    rw [hb]
    refine ⟨_, pss_cons (ps_xst (B := B) (newId := newId) (initId := initId) (bmB := bmB) (pe_var (i := 0) rfl v0 n0 c0) (pe_var (i := 1) rfl v1 n1 c1)) (pss_one (ps_xst (B := B) (newId := newId) (initId := initId) (bmB := bmB) (pe_var (i := 0) rfl v0 n0 c0) (pe_var (i := 2) rfl v2 n2 c2))), y, rfl, .ref a, rfl, a, C, rfl, T, hf, .inl ⟨ha, fun dx n ne => ?_⟩⟩
    exact ⟨z, rfl, .ref a, rfl, a, C, rfl, T, hg, .inr ⟨dx, [(f, y)], upd_same, by rw [upd_ne ne, upd_same], by simp, go dx n ne⟩⟩
end
section
variable {X : Cx} {w : WX} {pn : List Nat} {B newId initId : String} {bmB : List Value} {e e' : Expr} {p q : P} {f g x : Str} {pp pos pos' : Pos} {k : Nat} {st : Stmt}
/-- the fields are reckoned, the exception of the class x flies -/
def sErr (x : Str) (fl : List Str) (ps : List P) : SS := fun env => match evPs ps env with
  | some ds => .err ⟨x, some (fl.zip ds).reverse⟩ env
  | none => .no
/-- what is left of the heap behind the making of an exception -/
theorem xres_of {K : PySem.W.Frag} {mg : Str → Option Value} {Bs : Addr → Prop} {O : List Addr} {H H1 : Hp} {σ : L2.St} {env : Slots} {C d : Addr} {fs : List (Str × D)} {vs : List (Str × V)} (s : Stt K Bs H σ env O) (gr : Grw H H1) (hm : mg x = some (.ref C)) (hd : H1 d = none)
    (hx : IsX K (fun a => Bs a ∨ a ∈ O) H1 fs vs) : XRes K mg Bs O H σ ⟨x, some fs⟩ env (.ref C) (some d) (upd H1 d (.xd vs)) O := by
  have g1 : Grw H1 (upd H1 d (.xd vs)) := fun b o z => by rw [upd_ne (ne_of_none z hd)]; exact z
  have g2 : Grw H (upd H1 d (.xd vs)) := gr.trans g1
  have nB : ¬ Bs d := fun z => by
    obtain ⟨u, e⟩ := s.tr d z
    rw [gr d _ e] at hd; cases hd
  have nO : d ∉ O := fun z => by
    obtain ⟨u, e⟩ := RepE.trk s.rep d z
    rw [gr d _ e] at hd; cases hd
  refine ⟨hm, ⟨d, vs, rfl, upd_same, nB, nO, ?_⟩, s.grw g2, fun a o hw ha => ⟨g2 a o ha, fun z => z.elim (fun z => nomatch z) hw⟩⟩
  have go : ∀ (l : List (Str × D)) (xs : List (Str × V)), IsX K (fun a => Bs a ∨ a ∈ O) H1 l xs → IsX K (fun a => Bs a ∨ a ∈ O) (upd H1 d (.xd vs)) l xs := by
    intro l
    induction l with
    | nil => intro xs h; exact h
    | cons c r ih =>
      intro xs h
      obtain ⟨y, ys, h1, h2, h3⟩ := h
      exact ⟨y, ys, h1, Is.grw g1 h2, ih ys h3⟩
  exact go fs vs hx
theorem s_raise1 {st : Stmt} {a0 a1 : Str} (hc : X.calm = true) (tk : Takes X w) (CA : ClsAt X.K X.mg x B newId initId bmB st [f])
    (F : ∀ (fI : Addr) (kV doc pm : Value) (an : Option Addr) (cdv ct oc : Value) (od : Option Addr) (osl : Array (Option Value)), X.K.lookup fI = some ⟨oc, od, .func (PySem.W.fnOf "__init__" (x ++ ".__init__") (defArgs st) (defBody st) (defScope st) .none kV doc pm an cdv ct), osl⟩ → PySem.W.codeIn X.K cdv (x ++ ".__init__") = true →
      FnOk X.prog X.w X.K X.mg X.base C8.CX0 k fI (PySem.W.fnOf "__init__" (x ++ ".__init__") (defArgs st) (defBody st) (defScope st) .none kV doc pm an cdv ct) [a0, a1] (spI1 X.K B newId initId bmB f) ∧ L2.Binds X.K (PySem.W.fnOf "__init__" (x ++ ".__init__") (defArgs st) (defBody st) (defScope st) .none kV doc pm an cdv ct) [a0, a1] [])
    (hr : Room (k + 1) X.A) (hg : Gl X x) (ha : ADk X [e] [p]) (hdb : (x == ("__debug__" : Str)) = false := by decide) (he : starEach [e] X.env = (false, eval e X.env) :: starEach [] X.env := by rfl) (hpl : (backTo pos (starEach [] X.env)).any (·.1) = false := by rfl) :
    SOk X w pn (.Raise (some (.Call (.Name x pp) [e] [] pos)) none pos') (sErr x [f] [p]) := by
  obtain ⟨C, fI, kV, doc, pm, an, cdv, ct, oc, od, osl, h1, h2, h3, h4, h5, h6, h7⟩ := CA.ex
  obtain ⟨F1, hb⟩ := F fI kV doc pm an cdv ct oc od osl h5 h6
  refine (ps_raise hc tk (pmk_x h2 h3 h4 F1 hr hb .nil pass0 hg h1 ha hdb he hpl)).imp fun D σ H h => ?_
  obtain ⟨Bs, env, O, s, h⟩ := h
  unfold sErr at h
  cases ep : evPs [p] env with
  | none => rw [ep] at h; exact h.elim
  | some ds =>
    rw [ep] at h
    refine ⟨Bs, env, O, s, ds, ep, fun vs H1 gr hv => ?_⟩
    have l1 : vs.length = 1 := by rw [hv.length, evPs_len ep]; rfl
    obtain ⟨y, rfl⟩ : ∃ y, vs = [y] := by
      match vs, l1 with
      | [y], _ => exact ⟨y, rfl⟩
    obtain ⟨dd, rfl⟩ : ∃ dd, ds = [dd] := by
      have l2 := evPs_len ep
      match ds, l2 with
      | [dd], _ => exact ⟨dd, rfl⟩
    refine ⟨by simp, fun a na => ⟨a, C, y, rfl, h2, h7 f (by simp), upd_same, fun dx n ne => ?_⟩⟩
    have hn : H1 dx = none := by rwa [upd_ne ne] at n
    refine ⟨rfl, dx, [(f, y)], upd_same, by rw [upd_ne ne, upd_same], hn, ?_⟩
    obtain ⟨y', ys, e1, e2, _⟩ := hv
    cases e1
    have z := xres_of (x := x) (C := C) (d := dx) (fs := [(f, dd)]) (vs := [(f, y)]) s gr h1 hn ⟨y, [], rfl, e2, rfl⟩
    have q := h σ _ _ _ _ z Pin.refl
    have eH : upd (del (upd (upd (upd H1 a (exo a C none)) dx (exd dx [(f, y)])) a (exo a C (some dx))) a) dx (.xd [(f, y)]) = upd H1 dx (.xd [(f, y)]) := by
      funext b
      by_cases hb1 : b = dx
      · rw [hb1, upd_same, upd_same]
      · rw [upd_ne hb1, upd_ne hb1]
        by_cases hb2 : b = a
        · rw [hb2, del_same, na]
        · rw [L2.del_ne hb2, upd_ne hb2, upd_ne hb1, upd_ne hb2]
    rw [eH]
    exact q
theorem s_raise2 {st : Stmt} {a0 a1 a2 : Str} (hc : X.calm = true) (tk : Takes X w) (CA : ClsAt X.K X.mg x B newId initId bmB st [f, g])
    (F : ∀ (fI : Addr) (kV doc pm : Value) (an : Option Addr) (cdv ct oc : Value) (od : Option Addr) (osl : Array (Option Value)), X.K.lookup fI = some ⟨oc, od, .func (PySem.W.fnOf "__init__" (x ++ ".__init__") (defArgs st) (defBody st) (defScope st) .none kV doc pm an cdv ct), osl⟩ → PySem.W.codeIn X.K cdv (x ++ ".__init__") = true →
      FnOk X.prog X.w X.K X.mg X.base C8.CX0 k fI (PySem.W.fnOf "__init__" (x ++ ".__init__") (defArgs st) (defBody st) (defScope st) .none kV doc pm an cdv ct) [a0, a1, a2] (spI2 X.K B newId initId bmB f g) ∧ L2.Binds X.K (PySem.W.fnOf "__init__" (x ++ ".__init__") (defArgs st) (defBody st) (defScope st) .none kV doc pm an cdv ct) [a0, a1, a2] [])
    (hr : Room (k + 1) X.A) (hg : Gl X x) (ha : ADk X [e, e'] [p, q]) (hdb : (x == ("__debug__" : Str)) = false := by decide) (he : starEach [e, e'] X.env = (false, eval e X.env) :: starEach [e'] X.env := by rfl) (hpl : (backTo pos (starEach [e'] X.env)).any (·.1) = false := by rfl) :
    SOk X w pn (.Raise (some (.Call (.Name x pp) [e, e'] [] pos)) none pos') (sErr x [f, g] [p, q]) := by
  obtain ⟨C, fI, kV, doc, pm, an, cdv, ct, oc, od, osl, h1, h2, h3, h4, h5, h6, h7⟩ := CA.ex
  obtain ⟨F1, hb⟩ := F fI kV doc pm an cdv ct oc od osl h5 h6
  refine (ps_raise hc tk (pmk_x h2 h3 h4 F1 hr hb .nil pass0 hg h1 ha hdb he hpl)).imp fun D σ H h => ?_
  obtain ⟨Bs, env, O, s, h⟩ := h
  unfold sErr at h
  cases ep : evPs [p, q] env with
  | none => rw [ep] at h; exact h.elim
  | some ds =>
    rw [ep] at h
    refine ⟨Bs, env, O, s, ds, ep, fun vs H1 gr hv => ?_⟩
    have l1 : vs.length = 2 := by rw [hv.length, evPs_len ep]; rfl
    obtain ⟨y, z, rfl⟩ : ∃ y z, vs = [y, z] := by
      match vs, l1 with
      | [y, z], _ => exact ⟨y, z, rfl⟩
    obtain ⟨dd, ee, rfl⟩ : ∃ dd ee, ds = [dd, ee] := by
      have l2 := evPs_len ep
      match ds, l2 with
      | [dd, ee], _ => exact ⟨dd, ee, rfl⟩
    refine ⟨by simp, fun a na => ⟨a, C, y, z, rfl, h2, h7 f (by simp), h7 g (by simp), upd_same, fun dx n ne => ?_⟩⟩
    have hn : H1 dx = none := by rwa [upd_ne ne] at n
    refine ⟨rfl, dx, [(g, z), (f, y)], by rw [upd_ne (Ne.symm ne), upd_same], upd_same, hn, ?_⟩
    obtain ⟨y', ys, e1, e2, z', zs, e3, e4, _⟩ := hv
    cases e1
    cases e3
    have r := xres_of (x := x) (C := C) (d := dx) (fs := [(g, ee), (f, dd)]) (vs := [(g, z), (f, y)]) s gr h1 hn ⟨z, _, rfl, e4, y, _, rfl, e2, rfl⟩
    have qq := h σ _ _ _ _ r Pin.refl
    have eH : upd (del (upd (upd (upd (upd H1 a (exo a C none)) dx (exd dx [(f, y)])) a (exo a C (some dx))) dx (exd dx [(g, z), (f, y)])) a) dx (.xd [(g, z), (f, y)]) = upd H1 dx (.xd [(g, z), (f, y)]) := by
      funext b
      by_cases hb1 : b = dx
      · rw [hb1, upd_same, upd_same]
      · rw [upd_ne hb1, upd_ne hb1]
        by_cases hb2 : b = a
        · rw [hb2, del_same, na]
        · rw [L2.del_ne hb2, upd_ne hb1, upd_ne hb2, upd_ne hb1, upd_ne hb2]
    rw [eH]
    exact qq
end
end PL
namespace PL
open PySem PySem.Spec PyProof.Rows L2
theorem _root_.L2.Inv.ghost {X : Cx} {pins : List (Addr × Obj)} {σ : L2.St} {H : Hp} {s : Shared} {g : Nat} {y : Str} {v : V} (I : Inv X pins σ H s) (hN : X.N[g]? = some y) (hv : ¬ Vis X.env.scope y) : Inv X pins (σ.set g (some v)) H s :=
  { I with
    loc := by
      obtain ⟨m, h1, h2⟩ := I.loc
      refine ⟨m, h1, fun i x u e1 e2 e3 => ?_⟩
      by_cases hi : g = i
      · subst hi
        rw [hN] at e1; cases e1
        exact absurd e3 hv
      · rw [List.getElem?_set_ne hi] at e2
        exact h2 i x u e1 e2 e3
    len := by rw [List.length_set]; exact I.len }
def outsT (g : Nat) (pn : List Nat) (a : Nat) (e : Slots) : Slots := (e[g]?.getD none) :: outsE pn 0 a (e.set g none)
/-- what a body makes of the tables and the arguments (g: the tables' slot) -/
def bodyT (N g : Nat) (pn : List Nat) (a : Nat) (f : SS) : List C → Out C := fun cs => match cs with
  | .tabs qs :: cs' => match f ((startE N cs').set g (some (.tabs qs))) with
    | .nx e => .ok (.frz .non) (outsT g pn a e)
    | .rt c e => .ok c (outsT g pn a e)
    | .err x e => .err x (outsT g pn a e)
    | _ => .no
  | _ => .no
def spT (K : PySem.W.Frag) (mg : Str → Option Value) (n : Nat) (m : List C → Out C) : Sp := fun vs H Q E => spM K mg (n + 1) m (.non :: vs) H Q E
structure FnT (Pr : Program) (w : World) (K : PySem.W.Frag) (mg : Str → Option Value) (base : Heap) (k : Nat) (x : Str) (st : Stmt) (ps : List Str) (m : List C → Out C) : Prop where
  ex : ∃ (f : Addr) (kV doc pm : Value) (an : Option Addr) (cdv ct : Value), mg x = some (.ref f) ∧ PySem.W.keepIn K (.ref f) = true ∧
    FnG Pr w K mg base k f (PySem.W.fnOf x x (defArgs st) (defBody st) (defScope st) .none kV doc pm an cdv ct) ps (spT K mg ps.length m)
section
variable {K : PySem.W.Frag} {mg : Str → Option Value} {B : Addr → Prop} {H H' : Hp} {O O' : List Addr} {e : Slots} {σ σ' : List (Option V)} {vs : List V} {pn : List Nat} {g : Nat} {N : List Str}
theorem Frm.mem {A : List Addr} {O2 : List Addr} (f : Frm O' H A O2 H') (h : ∀ a, a ∈ O' → a ∈ O) : Frm O H A O2 H' := fun a o hw ha => f a o (fun z => hw (h a z)) ha
/-- at the beginning: the tables put in their slot -/
theorem Stt.startT {cs : List C} {qs : List Str} (s : Stt K B H ((V.non :: vs).map some) ((C.tabs qs :: cs).map some) O) (hg : cs.length ≤ g) (hgN : g < N.length) :
    ∃ O', Stt K B H ((L2.start N vs).set g (some .non)) ((startE N.length cs).set g (some (.tabs qs))) O' ∧ ∀ a, a ∈ O' ↔ a ∈ O := by
  obtain ⟨o, τ, T, A2, e1, rfl, ⟨x, hx, hT⟩, hR⟩ := s.rep
  rw [List.map_cons] at e1
  cases e1
  cases hx
  have hl : vs.length = cs.length := by have := hR.length; simpa using this
  have hE : RepE K (fun a => B a ∨ a ∈ T ++ A2) H (startE N.length cs) (L2.start N vs) A2 := by
    unfold L2.start startE
    rw [hl]
    exact RepE.app (RepE.nones _) hR
  have hn : (startE N.length cs)[g]? = some none := by
    unfold startE
    rw [List.getElem?_append_right (by simpa using hg), List.getElem?_replicate, List.length_map, if_pos (by omega)]
  obtain ⟨o, A1, A2', A3, k1, rfl, k3, k4⟩ := RepE.at hE hn
  have k3 : A2' = [] := k3
  subst k3
  have mem : ∀ a, a ∈ A1 ++ (T ++ A3) ↔ a ∈ T ++ (A1 ++ ([] ++ A3)) := fun a => by simp; constructor <;> intro h <;> rcases h with h | h | h <;> simp [h]
  refine ⟨A1 ++ (T ++ A3), ⟨?_, ?_, fun a ha => s.dj a ((mem a).mp ha), s.tr⟩, mem⟩
  · refine k4 (fun a => B a ∨ a ∈ A1 ++ (T ++ A3)) H (some (.tabs qs)) (some .non) T (Kp.less fun a z => z.imp id (mem a).mp) (fun _ _ _ e => e) ⟨.non, rfl, RepC.kp (Kp.less fun a z => z.imp id (mem a).mp) _ _ _ (fun _ _ _ e => e) hT⟩
  · have nd := s.nd
    have n1 := List.nodup_append.mp nd
    have n2 := List.nodup_append.mp n1.2.1
    simp only [List.nil_append] at n2
    refine List.nodup_append.mpr ⟨n2.1, List.nodup_append.mpr ⟨n1.1, n2.2.1, fun a ha b hb e => n1.2.2 a ha b (by simp [hb]) e⟩, fun a ha b hb e => ?_⟩
    rcases List.mem_append.mp hb with z | z
    · exact n1.2.2 b z a (by simp [ha]) e.symm
    · exact n2.2.2 a ha b z e
theorem Stt.outsT (s : Stt K B H σ' e O) (hl : vs.length ≤ e.length) (hg : vs.length ≤ g) (hp : Pin pn (L2.start N vs) (σ'.set g ((L2.start N vs)[g]?.getD none))) (hs : σ'[g]? = some (some .non)) :
    ∃ O', (∀ a, a ∈ O' → a ∈ O) ∧ Stt K B H ((V.non :: vs).map some) (outsT g pn vs.length e) O' := by
  have lt : g < σ'.length := by
    by_cases q : g < σ'.length
    · exact q
    · rw [List.getElem?_eq_none (by omega)] at hs; cases hs
  have lt' : g < e.length := by rw [← s.len]; exact lt
  obtain ⟨oc, hoc⟩ : ∃ oc, e[g]? = some oc := ⟨_, List.getElem?_eq_getElem lt'⟩
  obtain ⟨o, A1, A2, A3, k1, rfl, k3, k4⟩ := RepE.at s.rep hoc
  rw [hs] at k1; cases k1
  have hN := k4 (fun a => B a ∨ a ∈ A1 ++ (A2 ++ A3)) H none ((L2.start N vs)[g]?.getD none) [] (Kp.less fun a z => z) (fun _ _ _ e => e) rfl
  obtain ⟨A', sub, h⟩ := RepE.outs (pn := pn) (k := 0) (n := vs.length) (τ := vs.map some) hN (by simp) (by simpa using hl) fun i hi hn => by
    rw [hp.2 i (by simpa using hi)]
    unfold L2.start
    rw [List.getElem?_append_left (by simpa using hn)]
  have sub2 : ∀ a, a ∈ A' → a ∈ A1 ++ A3 := fun a ha => by simpa using sub.subset ha
  have mem : ∀ a, a ∈ A2 ++ A' → a ∈ A1 ++ (A2 ++ A3) := fun a ha => by
    rcases List.mem_append.mp ha with z | z
    · simp [z]
    · have := sub2 a z; simp at this ⊢; rcases this with z | z <;> simp [z]
  have n1 := List.nodup_append.mp s.nd
  have n2 := List.nodup_append.mp n1.2.1
  refine ⟨A2 ++ A', mem, ⟨?_, ?_, fun a ha => s.dj a (mem a ha), s.tr⟩⟩
  · refine ⟨some .non, vs.map some, A2, A', rfl, rfl, ?_, RepE.kp (Kp.less fun a z => z.imp id (mem a)) (fun _ _ _ e => e) h⟩
    rw [hoc]
    exact RepO.kp (Kp.less fun a z => z.imp id (mem a)) (fun _ _ _ e => e) k3
  · refine List.nodup_append.mpr ⟨n2.1, ?_, fun a ha b hb e => ?_⟩
    · refine List.Nodup.sublist sub ?_
      exact List.nodup_append.mpr ⟨n1.1, by simpa using n2.2.1, fun a ha b hb e => n1.2.2 a ha b (by simp at hb; simp [hb]) e⟩
    · have := sub2 b hb
      rcases List.mem_append.mp this with z | z
      · exact n1.2.2 b z a (by simp [ha]) e.symm
      · exact n2.2.2 a ha b z e
end
/-- THE RULE: a def that makes lambdas, by its body's reading -/
theorem fnT_of {Pr : Program} {w : World} {K : PySem.W.Frag} {mg : Str → Option Value} {base : Heap} {k : Nat} {f : Addr} {nm qu : Str} {pa : Arguments} {body : List Stmt} {sc : Scope} {dV kV doc pm cdv ct oc : Value} {an od : Option Addr}
    {osl : Array (Option Value)} {N ps : List Str} {pn : List Nat} {r : SS} {g : Nat} {y : Str} (lk : K.lookup f = some ⟨oc, od, .func (PySem.W.fnOf nm qu pa body sc dV kV doc pm an cdv ct), osl⟩) (hcd : PySem.W.codeIn K cdv qu = true) (S : FnScope N ps sc)
    (hy : N[g]? = some y) (hvy : ¬ Vis sc y) (hga : ps.length ≤ g)
    (hb : ∀ (A : Around) (outer : List Env) (s : Shared) (H : Hp) (E : XK), A.guards = some [] → Room k (A.deeper (envOfC qu sc s.heap.objs.size f cdv)) →
      SsOk (cxOf (CY Pr w) Pr w K mg base N qu sc f cdv A outer s H E) (fun cls d _ H' => E cls d H') (g :: pn) body r) :
    FnG Pr w K mg base (k + 1) f (PySem.W.fnOf nm qu pa body sc dV kV doc pm an cdv ct) ps (spT K mg ps.length (bodyT N.length g pn ps.length r)) :=
  fn_ofG lk hcd S (fun vs H Q E h => by have := h.1; simpa using this) fun A outer s H vs Q E hg hr h => by
    have hbb := hb A outer s H E hg hr
    refine ⟨fun D σ H => rdS (cxOf (CY Pr w) Pr w K mg base N qu sc f cdv A outer s H E) (fun cls d _ H' => E cls d H') (g :: pn) r D (σ.set g (some .non)) H, ⟨fun pins s' σ H' D I h => hbb.run pins s' _ H' D (I.ghost hy hvy) h⟩, ?_⟩
    obtain ⟨hl, B, cs, O, st, h⟩ := h
    have hl : vs.length = ps.length := by simpa using hl
    have hgN : g < N.length := lt_of_N hy
    have hpl : ps.length ≤ N.length := by have := congrArg List.length S.pre; rw [List.length_take] at this; omega
    have lenS : (L2.start N vs).length = N.length := by
      unfold L2.start
      rw [List.length_append, List.length_map, List.length_replicate]; omega
    have hSg : (L2.start N vs)[g]? = some none := by
      unfold L2.start
      rw [List.getElem?_append_right (by simp; omega), List.getElem?_replicate, List.length_map, if_pos (by omega)]
    unfold bodyT at h
    cases cs with
    | nil => exact h.elim
    | cons c0 cs =>
      cases c0 with
      | frz _ => exact h.elim
      | own _ => exact h.elim
      | ownD _ => exact h.elim
      | ownT _ => exact h.elim
      | tabs qs =>
        have hcs : cs.length = vs.length := by have := st.len; simp at this; omega
        obtain ⟨O1, s1, mem⟩ := st.startT (g := g) (N := N) (by omega) hgN
        refine ⟨B, _, O1, s1, ?_⟩
        simp only [] at h
        have fr0 : ∀ {A' O2 : List Addr} {H' : Hp}, Frm O1 H A' O2 H' → Frm O H A' O2 H' := fun f => f.mem fun a z => (mem a).mp z
        have pins : ∀ {σ' : List (Option V)}, Pin (g :: pn) ((L2.start N vs).set g (some .non)) σ' → σ'[g]? = some (some .non) ∧ Pin pn (L2.start N vs) (σ'.set g ((L2.start N vs)[g]?.getD none)) := fun {σ'} p => by
          refine ⟨by rw [p.2 g (by simp), List.getElem?_set_self (by omega)], ⟨by rw [List.length_set, p.1, List.length_set], fun i hi => ?_⟩⟩
          by_cases hig : g = i
          · subst hig
            rw [List.getElem?_set_self (by rw [p.1, List.length_set]; omega), hSg]; rfl
          · rw [List.getElem?_set_ne hig, p.2 i (by simp [hi]), List.getElem?_set_ne hig]
        have lenE : ∀ {σ' : List (Option V)} {e : Slots} {B' : Addr → Prop} {H' : Hp} {O' : List Addr}, Stt K B' H' σ' e O' → Pin (g :: pn) ((L2.start N vs).set g (some .non)) σ' → vs.length ≤ e.length := fun s' p' => by
          rw [← s'.len, p'.1, List.length_set, lenS]; omega
        have subF : ∀ {A' O' O2 : List Addr} {H' : Hp}, Frm O H A' O' H' → (∀ a, a ∈ O2 → a ∈ O') → Frm O H A' O2 H' := fun f sub => Frm.sub f sub
        rw [← hl] at h
        cases eg : r ((startE N.length cs).set g (some (.tabs qs))) with
        | no => rw [eg] at h; exact h
        | bk e => rw [eg] at h; exact h.elim
        | ct e => rw [eg] at h; exact h.elim
        | nx e =>
          rw [eg] at h
          intro σ' H' O' s' f' p'
          obtain ⟨O2, sub, s2⟩ := s'.outsT (g := g) (lenE s' p') (by omega) (pins p').2 (pins p').1
          exact h .non H' [] O2 (Res.new s2 (subF (fr0 f') sub) (New.of_is rfl))
        | rt c e =>
          rw [eg] at h
          intro σ' v H' A' O' r p'
          obtain ⟨O2, sub, s2⟩ := r.stt.outsT (g := g) (lenE r.stt p') (by omega) (pins p').2 (pins p').1
          exact h v H' A' O2 ⟨RepC.kp (Kp.less fun a z => z.imp id (sub a)) _ _ _ (fun _ _ _ e => e) r.rep, s2, r.nd, r.dj, subF (fr0 r.frm) sub⟩
        | err x e =>
          rw [eg] at h
          intro σ' cls d H' O' r p'
          obtain ⟨O2, sub, s2⟩ := r.stt.outsT (g := g) (lenE r.stt p') (by omega) (pins p').2 (pins p').1
          exact h cls d H' O2 (XRes.mk' r.cls (r.xfs.less fun a z => z.imp id (sub a)) s2 (subF (fr0 r.frm) sub))
theorem FnT.by {Pr : Program} {w : World} {K : PySem.W.Frag} {mg : Str → Option Value} {base : Heap} {k : Nat} {x : Str} {st : Stmt} {N ps : List Str} {pn : List Nat} {g : Nat} {y : Str} {r : SS} (F : DefAt K mg x st) (S : FnScope N ps (defScope st))
    (hy : N[g]? = some y) (hvy : ¬ Vis (defScope st) y) (hga : ps.length ≤ g) (hb : BdOk Pr w K mg base k x st N (g :: pn) r) :
    FnT Pr w K mg base (k + 1) x st ps (bodyT N.length g pn ps.length r) := by
  obtain ⟨f, oc, od, kV, doc, pm, an, cdv, ct, osl, h1, h2, h3, h4⟩ := F.ex
  exact ⟨f, kV, doc, pm, an, cdv, ct, h1, h2, fnT_of h3 h4 S hy hvy hga fun A outer s H E hg hr => hb f cdv A outer s H E hg hr⟩
def lentT (m : List C → Out C) (g : Nat) (cs : List C) (e1 : Slots) : Out C := match e1[g]? with
  | some (some (.tabs qs)) => match m (.tabs qs :: cs) with
    | .ok c outs => match outs with
      | some c1 :: _ => .ok (.frz c.toD) (e1.set g (some c1))
      | _ => .no
    | .err x outs => match outs with
      | some c1 :: _ => .err x (e1.set g (some c1))
      | _ => .no
    | .no => .no
  | _ => .no
def eFnT (m : List C → Out C) (g : Nat) (fs : List (M C)) : M C := fun env => (evMs fs env).bind (lentT m g)
section
variable {X : Cx} {w : WX} {H : Hp} {σ : L2.St} {e : Expr} {es : List Expr} {pos pp : Pos} {K : PySem.W.Frag} {mg : Str → Option Value} {B : Addr → Prop} {O : List Addr} {env : Slots}
/-- the arguments told, what the call is to do -/
theorem fnT_want {n g : Nat} {m : List C → Out C} {fs : List (M C)} {Q : VK} (hl : fs.length = n) (h : rdE X w (eFnT m g fs) σ H Q) : rdM X w fs σ H fun vs H1 => spT X.K X.mg n m vs H1 Q (EofW w σ) := by
  obtain ⟨B, env, O, st, h⟩ := h
  refine ⟨B, env, O, st, ?_⟩
  unfold eFnT at h
  cases er : evMs fs env with
  | no => simp only [er, Out.bind] at h
  | err y e => simp only [er, Out.bind] at h; exact h
  | ok cs e1 =>
    simp only [er, Out.bind] at h
    intro vs H1 A O1 r
    unfold lentT at h
    cases h0 : e1[g]? with
    | none => rw [h0] at h; exact h.elim
    | some oc =>
      rw [h0] at h
      cases oc with
      | none => exact h.elim
      | some c0 =>
        cases c0 with
        | frz _ => exact h.elim
        | own _ => exact h.elim
        | ownD _ => exact h.elim
        | ownT _ => exact h.elim
        | tabs qs =>
          obtain ⟨x0', Bc, O0, k1, k2, k3, k4⟩ := r.lend h0
          obtain ⟨o, A1, A2, A3, g1, g2, ⟨x0, rfl, hc0⟩, _⟩ := RepE.at r.stt.rep h0
          rw [g1] at k1
          cases k1
          obtain rfl : x0' = V.non := hc0.1
          refine ⟨by rw [List.length_cons, r.rep.length, evMs_len er, hl], Bc, .tabs qs :: cs, O0, k2, ?_⟩
          simp only [] at h
          cases em : m (.tabs qs :: cs) with
          | no => rw [em] at h; exact h
          | ok c outs =>
            rw [em] at h
            match outs, h with
            | some c1 :: rest, h =>
              intro u H' A2 O2 r2
              obtain ⟨o, τ, B1, B2, e1', e2', ⟨x1, e3', hc1⟩, _⟩ := r2.stt.rep
              rw [List.map_cons] at e1'
              cases e1'
              cases e3'
              have ndO2 := r2.stt.nd
              rw [e2'] at ndO2
              obtain ⟨O3, s3, f3, sb⟩ := k4 H' A2 O2 B1 B2 c1 r2.frm (fun a ha z => r2.stt.dj a ha z) e2' (List.nodup_append.mp ndO2).1 hc1
              exact h u H' [] O3 (Res.new s3 f3 (New.of_is (Is.kp (Kp.less sb) _ _ r2.is)))
            | none :: rest, h => exact h.elim
            | [], h => exact h.elim
          | err y outs =>
            rw [em] at h
            match outs, h with
            | some c1 :: rest, h =>
              intro cls d H' O2 r2
              obtain ⟨o, τ, B1, B2, e1', e2', ⟨x1, e3', hc1⟩, _⟩ := r2.stt.rep
              rw [List.map_cons] at e1'
              cases e1'
              cases e3'
              have ndO2 := r2.stt.nd
              rw [e2'] at ndO2
              obtain ⟨O3, s3, f3, sb⟩ := k4 H' [] O2 B1 B2 c1 r2.frm (fun a ha z => r2.stt.dj a ha (z.elim id fun z => nomatch z)) e2' (List.nodup_append.mp ndO2).1 (RepC.kp (Kp.less fun a z => z.imp (fun z => z.elim id fun z => nomatch z) id) _ _ _ (fun _ _ _ e => e) hc1)
              exact h cls d H' O3 (XRes.mk' r2.cls (r2.xfs.less sb) s3 f3)
            | none :: rest, h => exact h.elim
            | [], h => exact h.elim
theorem e_fnT {k g : Nat} {x : Str} {st : Stmt} {qs : List Str} {m : List C → Out C} {fs : List (M C)} (F : FnT X.prog X.w X.K X.mg X.base k x st qs m) (bd : BindP x st qs) (hg : X.A.guards = some []) (hr : Room k X.A) (tk : Takes X w) (gl : Gl X x)
    (ha : AMk X w (e :: es) fs) (hl : fs.length = qs.length := by rfl)
    (hdb : (x == ("__debug__" : Str)) = false := by decide) (he : starEach (e :: es) X.env = (false, eval e X.env) :: starEach es X.env := by rfl) (hpl : (backTo pos (starEach es X.env)).any (·.1) = false := by rfl) :
    EOk X w (.Call (.Name x pp) (e :: es) [] pos) (eFnT m g fs) := by
  obtain ⟨f, kV, doc, pm, an, cdv, ct, hm, kp, G⟩ := F.ex
  refine ⟨fun pins s σ H Q I h => ?_⟩
  have want := fnT_want (n := qs.length) hl h
  refine wpAny_Call_Name_kw (ld_glob I gl hm ?_ hdb)
  refine PySem.W.callWith_K (h₀ := X.base) I.ok.mod.kin kp (thn (ha.run pos pins s σ H _ I want) ?_) he hpl
  rintro us s1 ⟨vs, H1, I1, r1, q1⟩
  exact ⟨I1.kIn, run_G G hg hr (fun e s' c => tk e s' (XE.of_call I1 (fun _ _ _ z => z) c)) (.of_eq (bd kV doc pm an cdv ct us (r1.length.symm.trans (by have := q1.1; simpa using this)))) I1 r1 q1⟩
end
end PL
namespace PL
open PySem PySem.Spec PyProof.Rows L2
abbrev lenv (q : Str) (sc : Scope) (L f c : Addr) (cl : List (Str × Addr)) : Env := PySem.W.envX (lamQ q) sc L f (.ref c) cl
/-- the context of the lambda's body -/
def lcx (P : Program) (w : World) (K : PySem.W.Frag) (mg : Str → Option Value) (base : Heap) (N : List Str) (q : Str) (sc : Scope) (f c : Addr) (cl : List (Str × Addr)) (A : Around) (outer : List Env) (s : Shared) (H : Hp) (E : XK) : Cx where
  prog := P
  w := w
  K := K
  mg := mg
  base := base
  A := A.deeper (lenv q sc s.heap.objs.size f c cl)
  N := N
  s_0 := s
  H_0 := H
  env := lenv q sc s.heap.objs.size f c cl
  outer := outer
  stack := lenv q sc s.heap.objs.size f c cl :: outer
  ex := []
  fn := fun _ => false
  calm := true
  pn := []
  xe := fun e s' => wpAny (model P w) (A.deeper (lenv q sc s.heap.objs.size f c cl)) (leaving (lenv q sc s.heap.objs.size f c cl) e) (fun _ s'' => L2.CX P w outer H s E e s'') (fun e' s'' => L2.CX P w outer H s E e' s'') s'
/-- no parameter, no name of its own -/
structure LamSc (sc : Scope) : Prop where
  kind : sc.kind = .function
  co : sc.isCoroutine = false
  gen : sc.isGenerator = false
  own : ∀ y ∈ sc.names, y.2 ≠ .local ∧ y.2 ≠ .cell
  nd : (freeN sc.names []).Nodup
def cut (S : List Addr) (H : Hp) : Hp := fun a => if a ∈ S then none else H a
def uncut (S : List Addr) (H H' : Hp) : Hp := fun a => if a ∈ S then H a else H' a
section
variable {S : List Addr} {H H' : Hp} {a : Addr} {o : HO} {P : Program} {w : World} {h h' : Heap} {fs : List Addr}
theorem cut_out (n : a ∉ S) : cut S H a = H a := if_neg n
theorem cut_in (n : a ∈ S) : cut S H a = none := if_pos n
theorem cut_of (e : cut S H a = some o) : a ∉ S ∧ H a = some o := by
  by_cases n : a ∈ S
  · rw [cut_in n] at e; cases e
  · exact ⟨n, by rwa [cut_out n] at e⟩
theorem uncut_out (n : a ∉ S) : uncut S H H' a = H' a := if_neg n
theorem uncut_in (n : a ∈ S) : uncut S H H' a = H a := if_pos n
theorem cut_none (e : H a = none) : cut S H a = none := by
  by_cases n : a ∈ S
  · exact cut_in n
  · rw [cut_out n]; exact e
/-- what is cut are cells, known to the object -/
abbrev Cells (S : List Addr) (H : Hp) : Prop := ∀ a ∈ S, ∃ o, H a = some (ObjO a o)
theorem ObjO_ne {a : Addr} {o : Obj} : (∀ x, ObjO a o ≠ .own x) ∧ (∀ xs, ObjO a o ≠ .tup xs) ∧ (∀ b u, ObjO a o ≠ .frz b u) ∧ (∀ ps, ObjO a o ≠ .tbl ps) := ⟨(fun _ z => nomatch z), (fun _ z => nomatch z), (fun _ _ z => nomatch z), (fun _ z => nomatch z)⟩
theorem hok_cut (c : Cells S H) (x : HOk P w H h) : HOk P w (cut S H) h := fun a o e => by
  obtain ⟨n, e⟩ := cut_of e
  have out : ∀ {b u}, H b = some u → (∀ o, u ≠ ObjO b o) → b ∉ S := fun {b u} e ne z => by
    obtain ⟨o, q⟩ := c b z
    rw [e] at q; cases q
    exact ne o rfl
  exact (x a o e).stay (fun b u _ q => q) (fun b q => by rw [cut_out (out q fun o z => (ObjO_ne (a := b) (o := o)).1 _ z.symm)]; exact q) fun b xs q => by rw [cut_out (out q fun o z => (ObjO_ne (a := b) (o := o)).2.1 _ z.symm)]; exact q
theorem env0_cut {K : PySem.W.Frag} {mg : Str → Option Value} {base : Heap} {A : Around} {outer : List Env} {s : Shared} (c : Cells S H) (e : Env0 P w K mg base A outer s H) : Env0 P w K mg base A outer s (cut S H) :=
  ⟨e.frames, e.mod, fun b o q => ⟨(e.bs b o q).1, cut_none (e.bs b o q).2⟩, e.bsz, e.funs, fun b hb => cut_none (e.frf b hb), hok_cut c e.hok, e.bare⟩
/-- back again: the cells stand as they stood -/
theorem hok_uncut (c : Cells S H) (x : HOk P w H' h') (n : ∀ a ∈ S, H' a = none) (k : ∀ a ∈ S, ∀ o, H a = some (ObjO a o) → h'.get? a = some o) : HOk P w (uncut S H H') h' := fun a o e => by
  by_cases z : a ∈ S
  · rw [uncut_in z] at e
    obtain ⟨ob, q⟩ := c a z
    rw [q] at e
    cases e
    have q2 := k a z ob q
    exact ⟨q2, ⟨ob, q2⟩, fun h1 h2 e1 st => st _ e1⟩
  · rw [uncut_out z] at e
    have out : ∀ {b u}, H' b = some u → b ∉ S := fun {b u} e z => by rw [n b z] at e; cases e
    exact (x a o e).stay (fun b u _ q => q) (fun b q => by rw [uncut_out (out q)]; exact q) fun b xs q => by rw [uncut_out (out q)]; exact q
theorem un_uncut (c : Cells S H) (x : HOk P w H h) (hf : ∀ b ∈ fs, H b = none) (u : Un fs [] (cut S H) H' h h') : Un fs [] H (uncut S H H') h h' ∧ (∀ a ∈ S, H' a = none) ∧ ∀ a ∈ S, ∀ o, H a = some (ObjO a o) → h'.get? a = some o := by
  have nS : ∀ {b u}, H b = some u → (∀ o, u ≠ ObjO b o) → b ∉ S := fun {b u} e ne z => by
    obtain ⟨o, q⟩ := c b z
    rw [e] at q; cases q
    exact ne o rfl
  have at_ : ∀ a ∈ S, ∀ o, H a = some (ObjO a o) → h.get? a = some o := fun a ha o e => (x a _ e).1
  have fr : ∀ a ∈ S, a ∉ fs := fun a ha z => by
    obtain ⟨o, q⟩ := c a ha
    rw [hf a z] at q; cases q
  have h2 : ∀ a ∈ S, H' a = none := fun a ha => by
    obtain ⟨o, q⟩ := c a ha
    exact u.free a o (at_ a ha o q) (cut_in ha) (by simp)
  refine ⟨⟨fun b o e n => u.keep b o e (cut_none n), fun b o e n => u.slot b o e (cut_none n), fun b o e n hx => ?_, u.there, fun b xs e => ?_, fun b o v e => ?_, fun b ps e => ?_⟩, h2, fun a ha o e => u.keep a o (at_ a ha o e) (cut_in ha) (fr a ha) (by simp)⟩
  · by_cases z : b ∈ S
    · rw [uncut_in z]; exact n
    · rw [uncut_out z]; exact u.free b o e (cut_none n) hx
  · have z := nS e fun o z => (ObjO_ne (a := b) (o := o)).2.1 _ z.symm
    rw [uncut_out z]; exact u.tups b xs (by rw [cut_out z]; exact e)
  · have z := nS e fun o' z => (ObjO_ne (a := b) (o := o')).2.2.1 _ _ z.symm
    rw [uncut_out z]; exact u.frzs b o v (by rw [cut_out z]; exact e)
  · have z := nS e fun o' z => (ObjO_ne (a := b) (o := o')).2.2.2 _ z.symm
    rw [uncut_out z]; exact u.tbls b ps (by rw [cut_out z]; exact e)
theorem ub_uncut {B : Heap} (c : Cells S H) (x : HOk P w H h) (hf : ∀ b ∈ fs, H b = none) (u : UB fs (cut S H) H' h B h') : UB fs H (uncut S H H') h B h' ∧ (∀ a ∈ S, H' a = none) ∧ ∀ a ∈ S, ∀ o, H a = some (ObjO a o) → B.get? a = some o := by
  have nS : ∀ {b u}, H b = some u → (∀ o, u ≠ ObjO b o) → b ∉ S := fun {b u} e ne z => by
    obtain ⟨o, q⟩ := c b z
    rw [e] at q; cases q
    exact ne o rfl
  have at_ : ∀ a ∈ S, ∀ o, H a = some (ObjO a o) → h.get? a = some o := fun a ha o e => (x a _ e).1
  have fr : ∀ a ∈ S, a ∉ fs := fun a ha z => by
    obtain ⟨o, q⟩ := c a ha
    rw [hf a z] at q; cases q
  have h2 : ∀ a ∈ S, H' a = none := fun a ha => by
    obtain ⟨o, q⟩ := c a ha
    exact u.free a o (at_ a ha o q) (cut_in ha)
  refine ⟨⟨fun b o e n => u.keep b o e (cut_none n), u.slot, fun b o e n => ?_, u.there, fun b xs e => ?_, fun b o v e => ?_, fun b ps e => ?_⟩, h2, fun a ha o e => u.keep a o (at_ a ha o e) (cut_in ha) (fr a ha)⟩
  · by_cases z : b ∈ S
    · rw [uncut_in z]; exact n
    · rw [uncut_out z]; exact u.free b o e (cut_none n)
  · have z := nS e fun o z => (ObjO_ne (a := b) (o := o)).2.1 _ z.symm
    rw [uncut_out z]; exact u.tups b xs (by rw [cut_out z]; exact e)
  · have z := nS e fun o' z => (ObjO_ne (a := b) (o := o')).2.2.1 _ _ z.symm
    rw [uncut_out z]; exact u.frzs b o v (by rw [cut_out z]; exact e)
  · have z := nS e fun o' z => (ObjO_ne (a := b) (o := o')).2.2.2 _ z.symm
    rw [uncut_out z]; exact u.tbls b ps (by rw [cut_out z]; exact e)
end
theorem CellsIs.all {W : Addr → Prop} {H : Hp} : ∀ {cl : List (Str × Addr)} {xs : List V}, CellsIs W H cl xs → xs.length = cl.length ∧ (∀ p ∈ cl, ¬ W p.2 ∧ ∃ o u, H p.2 = some (ObjO p.2 o) ∧ o.data = .cell (some u)) ∧
    ∀ (i : Nat) (p : Str × Addr) (x : V), cl[i]? = some p → xs[i]? = some x → ∃ o u, H p.2 = some (ObjO p.2 o) ∧ o.data = .cell (some u) ∧ RelV x u
  | [], xs, h => by
    rw [show xs = [] from h]
    exact ⟨rfl, fun p hp => by simp at hp, fun i p x e => by simp at e⟩
  | (n, c) :: r, xs, h => by
    obtain ⟨x, ys, o, u, rfl, h1, h2, h3, h4, h5⟩ := h
    obtain ⟨g1, g2, g3⟩ := CellsIs.all h5
    refine ⟨by simp [g1], fun p hp => ?_, fun i p y e1 e2 => ?_⟩
    · rcases List.mem_cons.mp hp with z | z
      · rw [z]; exact ⟨h2, o, u, h1, h3⟩
      · exact g2 p z
    · cases i with
      | zero =>
        simp at e1 e2
        subst e1 e2
        exact ⟨o, u, h1, h3, h4⟩
      | succ i => exact g3 i p y (by simpa using e1) (by simpa using e2)
theorem freeN_mem : ∀ {l : List (Str × NameKind)} {acc : List Str} {y : Str}, ((y, NameKind.free) ∈ l ∨ y ∈ acc) → y ∈ freeN l acc
  | [], acc, y, h => by
    rcases h with h | h
    · simp at h
    · exact h
  | (n, k) :: r, acc, y, h => by
    unfold freeN
    split
    · rename_i hk
      refine freeN_mem ?_
      rcases h with h | h
      · rcases List.mem_cons.mp h with z | z
        · cases z; exact .inr (by simp)
        · exact .inl z
      · exact .inr (by simp [h])
    · rename_i hk
      refine freeN_mem ?_
      rcases h with h | h
      · rcases List.mem_cons.mp h with z | z
        · cases z; simp at hk
        · exact .inl z
      · exact .inr h
theorem lookup_at {cl : List (Str × Addr)} (nd : (cl.map (·.1)).Nodup) {i : Nat} {y : Str} {c : Addr} (e : cl[i]? = some (y, c)) : cl.lookup y = some c := by
  induction cl generalizing i with
  | nil => simp at e
  | cons p r ih =>
    obtain ⟨n, d⟩ := p
    rw [List.map_cons, List.nodup_cons] at nd
    cases i with
    | zero =>
      simp at e
      obtain ⟨rfl, rfl⟩ := e
      simp [List.lookup]
    | succ i =>
      have e : r[i]? = some (y, c) := by simpa using e
      have : n ≠ y := fun z => nd.1 (by rw [z]; exact List.mem_map.mpr ⟨(y, c), List.mem_of_getElem? e, rfl⟩)
      rw [List.lookup, show (y == n) = false from by simpa using fun z => this z.symm]
      exact ih nd.2 e
/-- the lambda's context begins -/
theorem lam_start {P : Program} {w : World} {K : PySem.W.Frag} {mg : Str → Option Value} {base : Heap} {q : Str} {sc : Scope} {f c : Addr} {cl : List (Str × Addr)} {A : Around} {outer : List Env} {s : Shared} {H : Hp} {E : XK} {h₁ : Heap} {tk : Nat} {W : Addr → Prop} {xs : List V}
    (L : LamSc sc) (e0 : Env0 P w K mg base A outer s H) (hd : A.handled = none) (hn : cl.map (·.1) = freeN sc.names []) (nd : (cl.map (·.2)).Nodup) (hc : CellsIs W H cl xs) (hns : h₁.Ns s.heap.objs.size fun y => ([] : List (Str × Value)).reverse.lookup y) (kp : ∀ b o, s.heap.get? b = some o → h₁.get? b = some o) :
    Inv (lcx P w K mg base (freeN sc.names []) q sc f c cl A outer s (cut (cl.map (·.2)) H) E) [] (xs.map some) (cut (cl.map (·.2)) H) { s with heap := h₁, toks := tk } := by
  obtain ⟨c1, c2, c3⟩ := hc.all
  have ce : Cells (cl.map (·.2)) H := fun a ha => by
    obtain ⟨p, hp, rfl⟩ := List.mem_map.mp ha
    obtain ⟨_, o, _, e, _⟩ := c2 p hp
    exact ⟨o, e⟩
  have E0 := env0_cut ce e0
  have mem : ∀ {y d}, cl.lookup y = some d → (y, d) ∈ cl := fun {y d} e => PySem.mem_of_lookup e
  have cellK : ∀ {p : Str × Addr} {o : Obj}, H p.2 = some (ObjO p.2 o) → h₁.get? p.2 = some o := fun {p o} e => kp _ _ ((e0.hok _ _ e).1)
  have noA : ∀ b : Addr, b ∉ (lcx P w K mg base (freeN sc.names []) q sc f c cl A outer s (cut (cl.map (·.2)) H) E).ex := fun b z => absurd (show b ∈ ([] : List Addr) from z) (by simp)
  have has : ∀ {y}, sc.names.lookup y = some .free → ∃ d, cl.lookup y = some d := fun {y} e => by
    have m : y ∈ cl.map (·.1) := by rw [hn]; exact freeN_mem (.inl (PySem.mem_of_lookup e))
    obtain ⟨p, hp, e2⟩ := List.mem_map.mp m
    have hp' : (y, p.2) ∈ cl := by rw [← e2]; exact hp
    exact mem_lookup hp'
  have inj : ∀ {l : List (Str × Addr)}, (l.map (·.2)).Nodup → ∀ {y z d}, (y, d) ∈ l → (z, d) ∈ l → y = z := by
    intro l
    induction l with
    | nil => intro _ y z d h; simp at h
    | cons p r ih =>
      intro nd y z d h1 h2
      rw [List.map_cons, List.nodup_cons] at nd
      rcases List.mem_cons.mp h1 with e1 | e1 <;> rcases List.mem_cons.mp h2 with e2 | e2
      · rw [← e1] at e2; cases e2; rfl
      · exact absurd (List.mem_map.mpr ⟨_, e2, by rw [← e1]⟩) nd.1
      · exact absurd (List.mem_map.mpr ⟨_, e1, by rw [← e2]⟩) nd.1
      · exact ih nd.2 e1 e2
  refine ⟨⟨E0.mod, L.kind, rfl, rfl, Nat.le_refl _, fun y z d e1 e2 => inj nd (mem e1) (mem e2), fun y hy => ?_, fun y d z _ => ?_, fun _ => hd, Around.frames_deeper E0.frames, .inr ⟨rfl, rfl⟩, fun b z => absurd z (noA b), E0.bs, E0.bsz, fun b _ _ => noA b,
      fun b z => absurd z (noA b), E0.funs, E0.frf⟩,
    rfl, E0.bare, Un.kept kp, ⟨_, hns, fun i y v e1 e2 e3 => ?_⟩, fun y d e => ?_, E0.hok.fresh (Nat.le_refl _), fun y d e => ?_, fun r hr => absurd (show r ∈ ([] : List (Addr × Obj)) ++ [] from hr) (by simp), E0.hok.kept kp, ?_⟩
  · have hy : sc.names.lookup y = some .cell ∨ sc.names.lookup y = some .free := hy
    rcases hy with hy | hy
    · exact absurd rfl (L.own _ (PySem.mem_of_lookup hy)).2
    · exact has hy
  · have z : false = true := z
    cases z
  · have e1 : (freeN sc.names [])[i]? = some y := e1
    have e3 : Vis sc y := e3
    have ex : xs[i]? = some v := by
      rw [List.getElem?_map] at e2
      cases q : xs[i]? with
      | none => rw [q] at e2; cases e2
      | some x => rw [q] at e2; cases e2; rfl
    rw [← hn, List.getElem?_map] at e1
    cases q : cl[i]? with
    | none => rw [q] at e1; cases e1
    | some p =>
      rw [q] at e1
      obtain ⟨n, d⟩ := p
      cases e1
      obtain ⟨o, u, g1, g2, g3⟩ := c3 i (n, d) v q ex
      rcases e3 with k | k | k
      · exact absurd rfl (L.own _ (PySem.mem_of_lookup k)).1
      · exact absurd rfl (L.own _ (PySem.mem_of_lookup k)).2
      · exact ⟨u, g3, .inr ⟨.inr k, d, lookup_at (by show (cl.map (·.1)).Nodup; rw [hn]; exact L.nd) q, o, cellK g1, g2⟩⟩
  · have m := mem e
    obtain ⟨_, o, u, g1, g2⟩ := c2 _ m
    exact ⟨some u, o, cellK g1, g2⟩
  · exact cut_in (List.mem_map.mpr ⟨_, mem e, rfl⟩)
  · show (xs.map some).length = (freeN sc.names []).length
    rw [← hn, List.length_map, List.length_map, c1]
/-- the promise of the lambda at t, made by q -/
def LamBd (Pr : Program) (w : World) (K : PySem.W.Frag) (mg : Str → Option Value) (base : Heap) (k : Nat) (q : Str) (t : LamSite) (f : M C) : Prop :=
  ∀ (fa c : Addr) (cl : List (Str × Addr)) (A : Around) (outer : List Env) (s : Shared) (H : Hp) (E : XK), A.guards = some [] → Room k (A.deeper (lenv q t.scope s.heap.objs.size fa c cl)) →
    EOk (lcx Pr w K mg base (freeN t.scope.names []) q t.scope fa c cl A outer s H E) (fun cls d _ H' => E cls d H') t.body f
/-- a table of the text's lambdas: whose, where, what the body makes of what is captured -/
abbrev LTab := List (Str × List Nat × M C)
structure LamIn (Pr : Program) (w : World) (K : PySem.W.Frag) (mg : Str → Option Value) (base : Heap) (k : Nat) (q : Str) (p : List Nat) (f : M C) : Prop where
  ex : ∃ b t, BodyK K q b ∧ lamAt b p = some t ∧ LamSc t.scope ∧ (∀ (cl : List (Str × Addr)) (pm cv ct : Value), bindArgs (PySem.W.kla_fn "<lambda>" (lamQ q) t.params t.body t.scope cl pm cv ct) ⟨[], []⟩ = pure []) ∧ LamBd Pr w K mg base k q t f
def eAct (S : LTab) (i : Nat) : M C := fun env => match env[i]? with
  | some (some (.frz (.lam ℓ ds))) => match S[ℓ.k]? with
    | some (q, p, f) => if q = ℓ.q ∧ p = ℓ.p then (match f ((ds.map C.frz).map some) with
      | .ok c _ => .ok (.frz c.toD) env
      | .err x _ => .err x env
      | .no => .no) else .no
    | none => .no
  | _ => .no
theorem CellsIs.cut {W : Addr → Prop} {H : Hp} {cl : List (Str × Addr)} {xs : List V} (h : CellsIs W H cl xs) : Cells (cl.map (·.2)) H := fun a ha => by
  obtain ⟨p, hp, rfl⟩ := List.mem_map.mp ha
  obtain ⟨_, o, _, e, _⟩ := h.all.2.1 p hp
  exact ⟨o, e⟩
end PL
namespace PL
open PySem PySem.Spec PyProof.Rows L2
theorem XFs.kp {K : PySem.W.Frag} {W W' : Addr → Prop} {H H' : Hp} {x : Exn} {d : Option Addr} (p : Kp W H W' H') (h : XFs K W H x d) : XFs K W' H' x d := by
  unfold XFs at h ⊢
  cases e : x.fs with
  | none => rw [e] at h; exact h
  | some fs =>
    rw [e] at h
    obtain ⟨dd, vs, h1, h2, h3, h4⟩ := h
    exact ⟨dd, vs, h1, (p dd _ h3 h2).1, (p dd _ h3 h2).2, h4.kp p⟩
section
variable {K : PySem.W.Frag} {W : Addr → Prop} {H : Hp} {S : List Addr}
theorem cut_keep (c : Cells S H) {a : Addr} {o : HO} (h : H a = some o) (n : ∀ b, ObjO a b ≠ o) : PL.cut S H a = some o := by
  refine (cut_out fun z => ?_).trans h
  obtain ⟨b, q⟩ := c a z
  rw [h] at q
  exact n b (Option.some.inj q).symm
mutual
/-- data without lambdas lean on no cell -/
theorem Is.cutD (c : Cells S H) : ∀ (d : D) (v : V), noL d = true → Is K W H d v → Is K W (PL.cut S H) d v
  | .non, v, _, h => h
  | .bl b, v, _, h => h
  | .int i, v, _, h => h
  | .str s, v, _, h => h
  | .fn x, v, _, h => h
  | .opq u, v, _, h => h
  | .lam ℓ l, v, n, h => by simp [noL] at n
  | .tup l, v, n, h => by
    obtain ⟨a, xs, e, ha, w, r⟩ := h
    exact ⟨a, xs, e, cut_keep c ha (fun b z => nomatch z), w, IsL.cutD c l xs (by simpa [noL] using n) r⟩
  | .lst l, v, n, h => by
    obtain ⟨a, xs, e, ha, w, r⟩ := h
    exact ⟨a, xs, e, cut_keep c ha (fun b z => nomatch z), w, IsL.cutD c l xs (by simpa [noL] using n) r⟩
  | .dct l, v, n, h => by
    obtain ⟨a, xs, e, ha, w, r⟩ := h
    exact ⟨a, xs, e, cut_keep c ha (fun b z => nomatch z), w, IsP.cutD c l xs (by simpa [noL] using n) r⟩
  | .dcT l, v, n, h => by
    obtain ⟨a, xs, e, ha, w, r⟩ := h
    exact ⟨a, xs, e, cut_keep c ha (fun b z => nomatch z), w, IsQ.cutD c l xs (by simpa [noL] using n) r⟩
  | .dcL l, v, n, h => by
    obtain ⟨a, o, xs, e, ha, w, r⟩ := h
    exact ⟨a, o, xs, e, cut_keep c ha (fun b z => nomatch z), w, IsQ.cutD c l xs (by simpa [noL] using n) r⟩
  | .ro l, v, n, h => by
    obtain ⟨a, e, h⟩ := h
    refine ⟨a, e, ?_⟩
    rcases h with ⟨h, w⟩ | h
    · rcases h with h | ⟨o, h⟩
      · exact .inl ⟨.inl (cut_keep c h (fun b z => nomatch z)), w⟩
      · exact .inl ⟨.inr ⟨o, cut_keep c h (fun b z => nomatch z)⟩, w⟩
    · exact .inr h
theorem IsL.cutD (c : Cells S H) : ∀ (l : List D) (xs : List V), noLs l = true → IsL K W H l xs → IsL K W (PL.cut S H) l xs
  | [], xs, _, h => h
  | d :: r, xs, n, h => by
    obtain ⟨x, ys, e, h1, h2⟩ := h
    simp only [noLs, Bool.and_eq_true] at n
    exact ⟨x, ys, e, Is.cutD c d x n.1 h1, IsL.cutD c r ys n.2 h2⟩
theorem IsP.cutD (c : Cells S H) : ∀ (l : List (Key × D)) (xs : List (Key × V)), noLp l = true → IsP K W H l xs → IsP K W (PL.cut S H) l xs
  | [], xs, _, h => h
  | (k, d) :: r, xs, n, h => by
    obtain ⟨x, ys, e, h1, h2⟩ := h
    simp only [noLp, Bool.and_eq_true] at n
    exact ⟨x, ys, e, Is.cutD c d x n.1 h1, IsP.cutD c r ys n.2 h2⟩
theorem IsQ.cutD (c : Cells S H) : ∀ (l : List (List Key × D)) (xs : List (List Key × V)), noLq l = true → IsQ K W H l xs → IsQ K W (PL.cut S H) l xs
  | [], xs, _, h => h
  | (k, d) :: r, xs, n, h => by
    obtain ⟨x, ys, e, h1, h2⟩ := h
    simp only [noLq, Bool.and_eq_true] at n
    exact ⟨x, ys, e, Is.cutD c d x n.1 h1, IsQ.cutD c r ys n.2 h2⟩
end
end
theorem cx_uncut {P : Program} {w : World} {outer : List Env} {s s' : Shared} {S : List Addr} {H : Hp} {E : XK} {u : Value} (c : Cells S H) (x : HOk P w H s.heap) (hf : ∀ b ∈ frs outer, H b = none)
    (h : L2.CX P w outer (PL.cut S H) s (fun cls d H' => (∀ a ∈ S, H' a = none) → E cls d (uncut S H H')) u s') : L2.CX P w outer H s E u s' := by
  obtain ⟨a, B, H', cls, d, e, fl, hok, ub, na, os, ag, hE⟩ := h
  obtain ⟨u1, u2, u3⟩ := ub_uncut c x hf ub
  refine ⟨a, B, uncut S H H', cls, d, e, fl, hok_uncut c hok u2 u3, u1, ?_, os, ag, hE u2⟩
  by_cases z : a ∈ S
  · obtain ⟨o, q⟩ := c a z
    have q3 := u3 a z o q
    rw [fl.2.1] at q3; cases q3
  · rw [uncut_out z]; exact na
section
variable {X : Cx} {w : WX}
theorem e_act {k i : Nat} {a : Str} {S : LTab} {p1 p2 : Pos} (hS : ∀ (j : Nat) (x : Str × List Nat × M C), S[j]? = some x → LamIn X.prog X.w X.K X.mg X.base k x.1 x.2.1 x.2.2) (hg : X.A.guards = some []) (hr : Room (k + 1) X.A) (tk : Takes X w)
    (hN : X.N[i]? = some a) (hv : Vis X.env.scope a) (hd : (a == ("__debug__" : Str)) = false := by decide) (hcd : (a == ("__classdict__" : Str)) = false := by decide) : EOk X w (.Call (.Name a p1) [] [] p2) (eAct S i) := by
  refine ⟨fun pins s σ H Q I h => ?_⟩
  obtain ⟨B, env, O, st, h⟩ := h
  unfold eAct at h
  cases e0 : env[i]? with
  | none => rw [e0] at h; exact h.elim
  | some oc =>
  cases oc with
  | none => rw [e0] at h; exact h.elim
  | some c0 =>
  cases c0 with
  | own _ => rw [e0] at h; exact h.elim
  | ownD _ => rw [e0] at h; exact h.elim
  | ownT _ => rw [e0] at h; exact h.elim
  | tabs _ => rw [e0] at h; exact h.elim
  | frz d =>
  cases d with
  | lam ℓ ds =>
    rw [e0] at h
    simp only [] at h
    cases eS : S[ℓ.k]? with
    | none => rw [eS] at h; exact h.elim
    | some x =>
    obtain ⟨q, p, f⟩ := x
    rw [eS] at h
    simp only [] at h
    by_cases hqp : q = ℓ.q ∧ p = ℓ.p
    · rw [if_pos hqp] at h
      obtain ⟨rfl, rfl⟩ := hqp
      obtain ⟨b, t, hb, ht, sc, bd, body⟩ := (hS _ _ eS).ex
      obtain ⟨o, A1, A2, A3, g1, g2, ⟨x0, rfl, hc0⟩, _⟩ := RepE.at st.rep e0
      obtain ⟨_, b', t', fa, cl, c, xs, ev, ⟨hb', ht', hn, nd, nl⟩, hf, wf, hc, wc, hcells, hds⟩ := hc0
      obtain rfl := hb.eq hb'
      rw [ht] at ht'
      obtain rfl := Option.some.inj ht'
      have cs := hcells.cut
      refine wpAny_Call_Name_kw (thn ((pe_var (pos := p1) (i := i) hN hv hd hcd).run pins s σ H (fun v H1 => v = .ref fa ∧ H1 = H) I ⟨.ref fa, by rw [g1, ev], rfl, rfl⟩) fun u s1 ⟨v, H1, I1, r1, q1⟩ => ?_)
      obtain ⟨rfl, rfl⟩ := q1
      obtain rfl : u = Value.ref fa := r1
      obtain ⟨⟨pm, ct, of1⟩, _, _⟩ := I1.hok fa _ hf
      obtain ⟨⟨oc, vs, tk', hoc, hdc, hvc⟩, _, _⟩ := I1.hok c _ hc
      refine PySem.W.callWith_F0 ⟨_, _, _, _, of1⟩ ?_
      have e0 := I1.env0
      let E1 : XK := fun cls d H' => (∀ a ∈ cl.map (·.2), H' a = none) → EofW w σ cls d (uncut (cl.map (·.2)) H1 H')
      have want : rdE (lcx X.prog X.w X.K X.mg X.base (freeN t.scope.names []) ℓ.q t.scope fa c cl X.A X.stack s1 (PL.cut (cl.map (·.2)) H1) E1) (fun cls d _ H' => E1 cls d H') f (xs.map some) (PL.cut (cl.map (·.2)) H1)
          (fun v H' => (∀ a ∈ cl.map (·.2), H' a = none) → Q v (uncut (cl.map (·.2)) H1 H')) := by
        have nB : ∀ a, (B a ∨ a ∈ O) → a ∉ cl.map (·.2) := fun a hw z => by
          obtain ⟨p, hp, rfl⟩ := List.mem_map.mp z
          have q := (hcells.all.2.1 p hp).1
          exact q hw
        have hds' := IsL.cutD (K := X.K) cs ds xs nl hds
        refine ⟨fun a => B a ∨ a ∈ O, (ds.map C.frz).map some, [], ⟨RepE.kp (Kp.less fun a z => z.elim id fun z => nomatch z) (fun _ _ _ e => e) (IsL.repE hds'), .nil, fun _ z => (nomatch z), fun a z => ?_⟩, ?_⟩
        · obtain ⟨u, e⟩ := z.elim (st.tr a) (RepE.trk st.rep a)
          exact ⟨u, by rw [cut_out (nB a z)]; exact e⟩
        · have later : ∀ {H' : Hp} {A' O' : List Addr}, Frm [] (PL.cut (cl.map (·.2)) H1) A' O' H' → Grw H1 (uncut (cl.map (·.2)) H1 H') := fun {H' A' O'} fr a o e => by
            by_cases z : a ∈ cl.map (·.2)
            · rw [uncut_in z]; exact e
            · rw [uncut_out z]; exact (fr a o (fun z => nomatch z) (by rw [cut_out z]; exact e)).1
          have kp : ∀ {H' : Hp} {W : Addr → Prop}, (∀ a ∈ cl.map (·.2), H' a = none) → (∀ a, (B a ∨ a ∈ O) → W a) → Kp W H' (fun a => B a ∨ a ∈ O) (uncut (cl.map (·.2)) H1 H') := fun {H' W} hn hw a o n e => by
            have z : a ∉ cl.map (·.2) := fun z => by rw [hn a z] at e; cases e
            exact ⟨by rw [uncut_out z]; exact e, fun q => n (hw a q)⟩
          have frm : ∀ {H' : Hp}, Grw H1 H' → Frm O H1 [] O H' := fun {H'} g a o hw e => ⟨g a o e, fun z => z.elim (fun z => nomatch z) hw⟩
          cases ef : f ((ds.map C.frz).map some) with
          | no => rw [ef] at h; exact h
          | ok cc e1 =>
            rw [ef] at h
            intro v H' A' O' r hn
            have g := later r.frm
            exact h v _ [] O (Res.new (st.grw g) (frm g) (New.of_is (Is.kp (kp hn fun a z => .inl z) _ _ r.is)))
          | err y e1 =>
            rw [ef] at h
            intro cls d H' O' r hn
            have g := later r.frm
            exact h cls d _ O (XRes.mk' r.cls (r.xfs.kp (kp hn fun a z => .inl z)) (st.grw g) (frm g))
      have rc : codeAny (model X.prog X.w) X.A (.call (.ref fa) ⟨[], []⟩) (CR (CY X.prog X.w) X.stack X.prog X.w H1 s1 Q (EofW w σ)) s1 := by
        refine PySem.W.kla_callFunE hr.depth of1 rfl sc.co sc.gen rfl ⟨c, oc, vs, tk', rfl, hoc, hdc, hvc⟩ ?_
        rw [bd]
        refine wpAny_pure (wpAny_newFunctionEnv (fun y hy => (sc.own y hy).2) (fun y hy => absurd hy (by simp)) (fun h₁ hns hsb => ⟨I1.nolimit.fresh _ hsb, ?_⟩) sc.kind)
        show codeAny _ _ (.expr t.body (lenv ℓ.q t.scope s1.heap.objs.size fa c cl)) _ _
        have kp : ∀ b o, s1.heap.get? b = some o → h₁.get? b = some o := fun b o e => hsb.extBut b o (Nat.ne_of_lt (Heap.lt_size e)) (Heap.get?_push_of_some _ e)
        have J := lam_start (q := ℓ.q) (f := fa) (c := c) (E := E1) (tk := s1.toks + ([] : List (Str × Value)).length) sc e0 hr.hd hn nd hcells hns kp
        have run := (body fa c cl X.A X.stack s1 (PL.cut (cl.map (·.2)) H1) E1 hg (hr.deeper _)).run [] _ _ _ _ J want
        refine PySem.W.kla_codeExpr (wpAny_mono run (fun v s' hq => ?_) fun e s' hq => ?_)
        · obtain ⟨w', H', J', rv, q⟩ := hq
          obtain ⟨u1, u2, u3⟩ := un_uncut cs I1.hok e0.frf J'.base
          exact ⟨w', _, J'.os, J'.bare, u1, hok_uncut cs J'.hok u2 u3, rv, q u2⟩
        · exact wpAny_mono hq (fun _ s'' z => cx_uncut cs I1.hok e0.frf z) fun e' s'' z => cx_uncut cs I1.hok e0.frf z
      exact wpAny_call (codeAny_mono rc fun r s' hq => by
        have z := end_of I1 (fun e s' c => tk e s' (XE.of_call I1 (fun _ _ _ z => z) c)) hq
        cases r with
        | error e => exact z
        | ok fl => cases fl <;> first | exact z | exact z.elim)
    · rw [if_neg hqp] at h; exact h.elim
  | _ => rw [e0] at h; exact h.elim
end
end PL
namespace PL
open PySem PySem.Spec PyProof.Rows L2
section
variable {X : Cx} {pins : List (Addr × Obj)} {σ : L2.St} {H : Hp} {s : Shared} {c P : Addr} {q : Str} {t : LamSite} {ps : Array Value}
/-- a lambda is made: the table P may have grown, the function's object is known -/
theorem lam_mk {pos : Pos} {E Q : Value → Shared → Prop} (I : Inv X pins σ H s) (TB : LamX.TabB X.base X.mg c P) (hcode : X.env.code = .ref c) (hq : X.env.qual = q ++ ".<locals>.") (hP : H P = some (.tbl ps)) (ht : TriplesOk ps.toList)
    (ha : ∀ (pos : Pos) (cv : Value), codeAmong pos ps.toList = some cv → ∃ c2, cv = .ref c2 ∧ H c2 = some (LamX.CodeO c2 (lamQ q))) (hdef : defaultsOf t.params X.env = ([], [])) (hfree : ∀ y ∈ t.scope.names, y.2 = .free → ∃ c, X.env.cells.lookup y.1 = some c)
    (h : ∀ (f c1 : Addr) (ps1 : Array Value) (H1 : Hp) (s1 : Shared), Inv X pins σ H1 s1 → (∀ a o, a ≠ P → H a = some o → H1 a = some o) → H1 P = some (.tbl ps1) → TriplesOk ps1.toList →
      (∀ (pos : Pos) (cv : Value), codeAmong pos ps1.toList = some cv → ∃ c2, cv = .ref c2 ∧ H1 c2 = some (LamX.CodeO c2 (lamQ q)) ∧ ((∃ pos, codeAmong pos ps.toList = some (.ref c2)) ∨ H c2 = none)) → H f = none →
      H1 f = some (LamO q t f (cloFrom X.env.cells t.scope.names []) c1) → H1 c1 = some (LamX.CodeO c1 (lamQ q)) → ((∃ pos, codeAmong pos ps.toList = some (.ref c1)) ∨ H c1 = none) → Q (.ref f) s1) :
    wpAny (model X.prog X.w) X.A (eval (.Lambda t.params t.body t.scope pos) X.env) Q E s := by
  have hq2 : X.env.qual ++ "<lambda>" = lamQ q := by rw [hq]
  have bP := TB.bm.keeps I.bk
  have oP : s.heap.get? P = some { cls := .none, data := .fields ps } := I.hok P _ hP
  have free : ∀ {h1 : Heap}, s.heap.objs.size ≤ h1.objs.size → H h1.objs.size = none := fun g => I.hok.fresh g
  refine PySem.W.kla_eval hdef ?_
  cases hc : codeAmong pos ps.toList with
  | some cv =>
    obtain ⟨c1, rfl, hco⟩ := ha pos cv hc
    refine PySem.W.kla_makeFunctionHit (mg := X.mg) (c := c) (P := P) (ps := ps) (closure_ok hfree) I.ok.glob (I.mod.glob.keeps I.bk) hcode (TB.code.keeps I.bk) oP ht hc bP fun ctv h1 tk kp sz => ?_
    have nf := free sz
    have I2 := (I.kept (h' := h1) (t' := tk) kp).laid (a := h1.objs.size) (o := LamO q t h1.objs.size (cloFrom X.env.cells t.scope.names []) c1) (t' := tk) (fun b u e => Heap.get?_push_of_some _ e) (Nat.le_refl _)
      (h' := h1.push (PySem.W.kla_obj "<lambda>" (X.env.qual ++ "<lambda>") t.params t.body t.scope (cloFrom X.env.cells t.scope.names []) ((X.mg "__name__").getD .none) c1 ctv))
      ⟨⟨_, ctv, by rw [hq2]; exact Heap.get?_push_size _ rfl⟩, ⟨_, Heap.get?_push_size _ rfl⟩, fun ha hb ⟨pm, ct, e⟩ st => ⟨pm, ct, st _ e⟩⟩
    have g : Grw H (upd H h1.objs.size (LamO q t h1.objs.size (cloFrom X.env.cells t.scope.names []) c1)) := fun a o e => by rw [upd_ne (ne_of_none e nf)]; exact e
    refine h _ c1 ps _ _ I2 (fun a o _ e => g a o e) (g _ _ hP) ht (fun pos cv e => ?_) nf upd_same (g _ _ hco) (.inl ⟨pos, hc⟩)
    obtain ⟨c2, e1, e2⟩ := ha pos cv e
    exact ⟨c2, e1, g _ _ e2, .inl ⟨pos, by rw [← e1]; exact e⟩⟩
  | none =>
    refine PySem.W.kla_makeFunction (mg := X.mg) (c := c) (P := P) (ps := ps) (closure_ok hfree) I.ok.glob (I.mod.glob.keeps I.bk) hcode (TB.code.keeps I.bk) oP ht hc TB.gP bP fun c1 ctv h1 tk kp ge lt rec tb => ?_
    obtain ⟨c2, oc, vs, tk2, e2, hoc, hd, hv⟩ := rec
    cases e2
    have sz : s.heap.objs.size ≤ h1.objs.size := Nat.le_trans ge (Nat.le_of_lt lt)
    have nC : H c1 = none := I.hok.fresh ge
    have nf := free sz
    have nPc : P ≠ c1 := ne_of_none hP nC
    rw [hq2] at hv
    have I1 := LamX.inv_table (q := lamQ q) (t' := tk) (more := #[rawInt pos.line, rawInt pos.col, .ref c1]) (h' := h1) I hP (fun b o hb e => kp b o hb e) tb ge ⟨oc, vs, tk2, hoc, hd, hv⟩
    have nf1 : upd (upd H P (.tbl (ps ++ #[rawInt pos.line, rawInt pos.col, .ref c1]))) c1 (LamX.CodeO c1 (lamQ q)) h1.objs.size = none := I1.hok.fresh (Nat.le_refl _)
    have I2 := I1.laid (a := h1.objs.size) (o := LamO q t h1.objs.size (cloFrom X.env.cells t.scope.names []) c1) (t' := tk) (fun b u e => Heap.get?_push_of_some _ e) (Nat.le_refl _)
      (h' := h1.push (PySem.W.kla_obj "<lambda>" (X.env.qual ++ "<lambda>") t.params t.body t.scope (cloFrom X.env.cells t.scope.names []) ((X.mg "__name__").getD .none) c1 ctv))
      ⟨⟨_, ctv, by rw [hq2]; exact Heap.get?_push_size _ rfl⟩, ⟨_, Heap.get?_push_size _ rfl⟩, fun ha hb ⟨pm, ct, e⟩ st => ⟨pm, ct, st _ e⟩⟩
    have g1 : ∀ a o, a ≠ P → H a = some o → upd (upd (upd H P (.tbl (ps ++ #[rawInt pos.line, rawInt pos.col, .ref c1]))) c1 (LamX.CodeO c1 (lamQ q))) h1.objs.size (LamO q t h1.objs.size (cloFrom X.env.cells t.scope.names []) c1) a = some o := fun a o n e => by
      rw [upd_ne (ne_of_none e nf), upd_ne (ne_of_none e nC), upd_ne n]; exact e
    have eL : (ps ++ #[rawInt pos.line, rawInt pos.col, .ref c1]).toList = ps.toList ++ [rawInt pos.line, rawInt pos.col, .ref c1] := by simp
    have nPf : P ≠ h1.objs.size := ne_of_none hP nf
    have ncf : c1 ≠ h1.objs.size := fun z => by rw [z] at lt; exact Nat.lt_irrefl _ lt
    have cAt : upd (upd (upd H P (.tbl (ps ++ #[rawInt pos.line, rawInt pos.col, .ref c1]))) c1 (LamX.CodeO c1 (lamQ q))) h1.objs.size (LamO q t h1.objs.size (cloFrom X.env.cells t.scope.names []) c1) c1 = some (LamX.CodeO c1 (lamQ q)) := by rw [upd_ne ncf, upd_same]
    refine h _ c1 _ _ _ I2 g1 (by rw [upd_ne nPf, upd_ne nPc, upd_same]) (by rw [eL]; exact PySem.TriplesOk_snoc _ _ _ _ ht) (fun pos' cv e => ?_) nf upd_same cAt (.inr nC)
    rw [eL] at e
    rcases LamX.among_app _ ht e with z | z
    · obtain ⟨c3, e1, e2⟩ := ha pos' cv z
      exact ⟨c3, e1, g1 _ _ (fun y => by rw [y, hP] at e2; exact absurd (Option.some.inj e2) (fun z => nomatch z)) e2, .inl ⟨pos', by rw [← e1]; exact z⟩⟩
    · exact ⟨c1, z, cAt, .inr nC⟩
end
/-- the frame's own code object and its table -/
structure LamHd (X : Cx) (q : Str) : Prop where
  ex : ∃ c P, X.env.code = .ref c ∧ tabP X.K q = some P ∧ LamX.TabB X.base X.mg c P
  qual : X.env.qual = q ++ ".<locals>."
/-- the lambda's object, made in X -/
def LamR (X : Cx) (W : Addr → Prop) (H : Hp) (q : Str) (t : LamSite) (f : Addr) : Prop := ∃ c, H f = some (LamO q t f (cloFrom X.env.cells t.scope.names []) c) ∧ ¬ W f ∧ H c = some (LamX.CodeO c (lamQ q)) ∧ ¬ W c
theorem LamR.kp {X : Cx} {W W' : Addr → Prop} {H H' : Hp} {q : Str} {t : LamSite} {f : Addr} (p : Kp W H W' H') (h : LamR X W H q t f) : LamR X W' H' q t f := by
  obtain ⟨c, h1, h2, h3, h4⟩ := h
  exact ⟨c, (p _ _ h2 h1).1, (p _ _ h2 h1).2, (p _ _ h4 h3).1, (p _ _ h4 h3).2⟩
def isTabs (q : Str) : Option (Option C) → Bool
  | some (some (.tabs qs)) => qs.contains q
  | _ => false
theorem TabsAt.at {K : PySem.W.Frag} {W : Addr → Prop} {H : Hp} {q : Str} : ∀ {qs : List Str} {A : List Addr}, qs.contains q = true → TabsAt K W H qs A → ∃ P ps, tabP K q = some P ∧ P ∈ A ∧ H P = some (.tbl ps) ∧ TriplesOk ps.toList ∧
    (∀ (pos : Pos) (cv : Value), codeAmong pos ps.toList = some cv → ∃ c, cv = .ref c ∧ H c = some (LamX.CodeO c (lamQ q)) ∧ ¬ W c)
  | [], A, h, _ => by simp at h
  | x :: r, A, h, g => by
    obtain ⟨P, B, ps, rfl, h1, h2, h3, h4, h5⟩ := g
    by_cases e : x = q
    · subst e
      exact ⟨P, ps, h1, by simp, h2, h3, h4⟩
    · have h : r.contains q = true := by
        rw [List.contains_cons] at h
        simp only [Bool.or_eq_true, beq_iff_eq] at h
        exact h.elim (fun z => absurd z.symm e) id
      obtain ⟨P', ps', k1, k2, k3, k4, k5⟩ := TabsAt.at h h5
      exact ⟨P', ps', k1, by simp [k2], k3, k4, k5⟩
/-- the tables behind a making: P's has grown -/
theorem TabsAt.grown {K : PySem.W.Frag} {W W' : Addr → Prop} {H H' : Hp} {P : Addr} {q : Str} {ps1 : Array Value} (hq : tabP K q = some P) (kp : ∀ a o, a ≠ P → ¬ W a → H a = some o → H' a = some o ∧ ¬ W' a) (kA : ∀ a o, a ≠ P → H a = some o → H' a = some o)
    (h1 : H' P = some (.tbl ps1)) (h2 : TriplesOk ps1.toList) (h3 : ∀ (pos : Pos) (cv : Value), codeAmong pos ps1.toList = some cv → ∃ c, cv = .ref c ∧ H' c = some (LamX.CodeO c (lamQ q)) ∧ ¬ W' c) (hP : ∀ c q', H P ≠ some (LamX.CodeO c q')) :
    ∀ {qs : List Str} {A : List Addr}, A.Nodup → (∀ q', tabP K q' = some P → q' ∈ qs → q' = q) → TabsAt K W H qs A → TabsAt K W' H' qs A
  | [], A, _, _, g => g
  | x :: r, A, nd, hu, g => by
    obtain ⟨P', B, ps, rfl, g1, g2, g3, g4, g5⟩ := g
    have nd' := List.nodup_cons.mp nd
    have ih := TabsAt.grown hq kp kA h1 h2 h3 hP nd'.2 (fun q' a b => hu q' a (by simp [b])) g5
    by_cases e : P' = P
    · subst e
      have := hu x g1 (by simp)
      subst this
      exact ⟨P', B, ps1, rfl, g1, h1, h2, h3, ih⟩
    · refine ⟨P', B, ps, rfl, g1, kA _ _ e g2, g3, fun pos cv z => ?_, ih⟩
      obtain ⟨c, e1, e2, e3⟩ := g4 pos cv z
      have nc : c ≠ P := fun z => hP c (lamQ x) (by rw [← z]; exact e2)
      exact ⟨c, e1, kp c _ nc e3 e2⟩
end PL
namespace PL
open PySem PySem.Spec PyProof.Rows L2
theorem TabsAt.places {K : PySem.W.Frag} {W : Addr → Prop} {H : Hp} : ∀ {qs : List Str} {A : List Addr}, TabsAt K W H qs A → ∀ q ∈ qs, ∃ P ∈ A, tabP K q = some P
  | [], A, g, q, h => by simp at h
  | x :: r, A, g, q, h => by
    obtain ⟨P, B, ps, rfl, g1, g2, g3, g4, g5⟩ := g
    rcases List.mem_cons.mp h with z | z
    · exact ⟨P, by simp, by rw [z]; exact g1⟩
    · obtain ⟨P', m, e⟩ := TabsAt.places g5 q z
      exact ⟨P', by simp [m], e⟩
theorem TabsAt.uniq {K : PySem.W.Frag} {W : Addr → Prop} {H : Hp} {P : Addr} : ∀ {qs : List Str} {A : List Addr}, A.Nodup → TabsAt K W H qs A → ∀ q q', q ∈ qs → q' ∈ qs → tabP K q = some P → tabP K q' = some P → q' = q
  | [], A, _, g, q, q', h, _, _, _ => by simp at h
  | x :: r, A, nd, g, q, q', h, h', e, e' => by
    obtain ⟨P', B, ps, rfl, g1, g2, g3, g4, g5⟩ := g
    have nd' := List.nodup_cons.mp nd
    have no : ∀ y ∈ r, tabP K y = some P → P' ≠ P := fun y hy ey z => by
      obtain ⟨P2, m, e2⟩ := TabsAt.places g5 y hy
      rw [ey] at e2; cases e2
      exact nd'.1 (z ▸ m)
    rcases List.mem_cons.mp h with z | z <;> rcases List.mem_cons.mp h' with z' | z'
    · rw [z, z']
    · rw [z, g1] at e; cases e
      exact absurd rfl (no q' z' e')
    · rw [z', g1] at e'; cases e'
      exact absurd rfl (no q z e)
    · exact TabsAt.uniq nd'.2 g5 q q' z z' e e'
section
variable {X : Cx} {w : WX} {pn : List Nat} {H : Hp} {σ : L2.St} {B : Addr → Prop} {O : List Addr} {env : Slots} {pins : List (Addr × Obj)} {s : Shared}
def tLamM (X : Cx) (g : Nat) (q : Str) (t : LamSite) : TE := fun σ H Q => ∃ B env O, Stt X.K B H σ env O ∧ isTabs q (env[g]?) = true ∧
  ∀ f H1, Stt X.K B H1 σ env O → Frm O H [] O H1 → H f = none → LamR X (fun a => B a ∨ a ∈ O) H1 q t f → Q (.ref f) H1
abbrev FreeOk (X : Cx) (t : LamSite) : Prop := ∀ y ∈ t.scope.names, y.2 = .free → X.env.scope.names.lookup y.1 = some .cell ∨ X.env.scope.names.lookup y.1 = some .free
theorem pe_lam {g : Nat} {q : Str} {t : LamSite} {lpos : Pos} (HD : LamHd X q) (hdef : defaultsOf t.params X.env = ([], [])) (hfr : FreeOk X t) : PE X (.Lambda t.params t.body t.scope lpos) (tLamM X g q t) := by
  refine ⟨fun pins s σ H Q I h => ?_⟩
  obtain ⟨B, env, O, st, ht, hQ⟩ := h
  obtain ⟨⟨c, P, e1, e2, TB⟩, hq⟩ := HD
  cases e0 : env[g]? with
  | none => rw [e0] at ht; cases ht
  | some oc =>
  cases oc with
  | none => rw [e0] at ht; cases ht
  | some c0 =>
  cases c0 with
  | frz _ => rw [e0] at ht; cases ht
  | own _ => rw [e0] at ht; cases ht
  | ownD _ => rw [e0] at ht; cases ht
  | ownT _ => rw [e0] at ht; cases ht
  | tabs qs =>
    rw [e0] at ht
    have ht : qs.contains q = true := ht
    obtain ⟨o, A1, A2, A3, g1, rfl, ⟨x0, rfl, hx, hT⟩, put⟩ := RepE.at st.rep e0
    obtain ⟨P', ps, k1, k2, k3, k4, k5⟩ := TabsAt.at ht hT
    rw [e2] at k1; cases k1
    have nd := st.nd
    have n1 := List.nodup_append.mp nd
    have n2 := List.nodup_append.mp n1.2.1
    have PO : P ∈ A1 ++ (A2 ++ A3) := by simp [k2]
    refine lam_mk I TB e1 hq k3 k4 (fun pos cv e => let ⟨c2, z1, z2, _⟩ := k5 pos cv e; ⟨c2, z1, z2⟩) hdef (fun y hy e => I.ok.has _ (hfr y hy e)) fun f c1 ps1 H1 s1 I1 kp hP1 ht1 ha1 nf hf hc1 hcc => ?_
    have nW : ∀ {a}, H a = none → ¬ (B a ∨ a ∈ A1 ++ (A2 ++ A3)) := fun {a} e z => by
      obtain ⟨u, e'⟩ := z.elim (st.tr a) (RepE.trk st.rep a)
      rw [e] at e'; cases e'
    have kp2 : Kp (fun a => B a ∨ a ∈ A1 ++ (A2 ++ A3)) H (fun a => B a ∨ a ∈ A1 ++ (A2 ++ A3)) H1 := fun a o hw e => ⟨kp a o (fun z => hw (.inr (z ▸ PO))) e, hw⟩
    have ncP : ∀ c q', H P ≠ some (LamX.CodeO c q') := fun c q' z => by rw [k3] at z; exact absurd (Option.some.inj z) (fun z => nomatch z)
    have codeW : ∀ {c2}, ((∃ pos, codeAmong pos ps.toList = some (.ref c2)) ∨ H c2 = none) → ¬ (B c2 ∨ c2 ∈ A1 ++ (A2 ++ A3)) := fun {c2} z => by
      rcases z with ⟨pos, z⟩ | z
      · obtain ⟨c3, y1, y2, y3⟩ := k5 pos _ z
        cases y1
        exact y3
      · exact nW z
    have hT1 : TabsAt X.K (fun a => B a ∨ a ∈ A1 ++ (A2 ++ A3)) H1 qs A2 := TabsAt.grown e2 (fun a o n hw e => ⟨kp a o n e, hw⟩) kp hP1 ht1 (fun pos cv e => by
      obtain ⟨c2, y1, y2, y3⟩ := ha1 pos cv e
      exact ⟨c2, y1, y2, codeW y3⟩) ncP n2.1 (fun q' a b => TabsAt.uniq n2.1 hT q q' (by simpa using ht) b e2 a) hT
    have st1 : Stt X.K B H1 σ env (A1 ++ (A2 ++ A3)) := by
      have r := put (fun a => B a ∨ a ∈ A1 ++ (A2 ++ A3)) H1 (some (.tabs qs)) (some x0) A2 kp2 (fun a ha o e => kp a o (fun z => ?_) e) ⟨x0, rfl, hx, hT1⟩
      · rw [set_same e0, set_same g1] at r
        refine ⟨r, nd, st.dj, fun a z => ?_⟩
        obtain ⟨u, e⟩ := st.tr a z
        exact ⟨u, kp a _ (fun y => st.dj a (y ▸ PO) z) e⟩
      · subst z
        rcases List.mem_append.mp ha with z | z
        · exact n1.2.2 a z a (by simp [k2]) rfl
        · exact n2.2.2 a k2 a z rfl
    exact ⟨.ref f, H1, I1, rfl, hQ f H1 st1 (fun a o hw e => ⟨kp a o (fun z => hw (z ▸ PO)) e, fun z => z.elim (fun z => nomatch z) hw⟩) nf ⟨c1, hf, nW nf, hc1, codeW hcc⟩⟩
end
end PL
namespace PL
open PySem PySem.Spec PyProof.Rows L2
/-- the cells S are known by what they hold -/
def plusC (h : Heap) (S : List Addr) (H : Hp) : Hp := fun a => if a ∈ S then (h.get? a).map (ObjO a) else H a
section
variable {S : List Addr} {H H' : Hp} {a : Addr} {o : HO} {P : Program} {w : World} {h h' : Heap} {fs : List Addr}
theorem plusC_out (n : a ∉ S) : plusC h S H a = H a := if_neg n
theorem plusC_in (n : a ∈ S) : plusC h S H a = (h.get? a).map (ObjO a) := if_pos n
/-- these may be told: untracked till now, there, no frames -/
structure CanTell (S : List Addr) (H : Hp) (h : Heap) (fs : List Addr) : Prop where
  free : ∀ a ∈ S, H a = none
  there : ∀ a ∈ S, ∃ o, h.get? a = some o
  nofr : ∀ a ∈ S, a ∉ fs
theorem CanTell.at (T : CanTell S H h fs) (n : a ∈ S) : ∃ o, h.get? a = some o ∧ plusC h S H a = some (ObjO a o) := by
  obtain ⟨o, e⟩ := T.there a n
  exact ⟨o, e, by rw [plusC_in n, e]; rfl⟩
theorem CanTell.grw (T : CanTell S H h fs) : Grw H (plusC h S H) := fun a o e => by
  rw [plusC_out fun z => by rw [T.free a z] at e; cases e]; exact e
theorem CanTell.hok (T : CanTell S H h fs) (x : HOk P w H h) : HOk P w (plusC h S H) h := fun a o e => by
  by_cases z : a ∈ S
  · obtain ⟨ob, q1, q2⟩ := T.at z
    rw [q2] at e; cases e
    exact ⟨q1, ⟨ob, q1⟩, fun h1 h2 e1 st => st _ e1⟩
  · rw [plusC_out z] at e
    exact (x a o e).stay (fun b u _ q => q) (fun b q => T.grw _ _ q) fun b xs q => T.grw _ _ q
theorem CanTell.none (T : CanTell S H h fs) (n : a ∉ S) (e : H a = none) : plusC h S H a = none := by rw [plusC_out n]; exact e
theorem cells_of (T : CanTell S H h fs) (k : ∀ a ∈ S, H' a = plusC h S H a) : Cells S H' := fun a z => by
  obtain ⟨o, _, q⟩ := T.at z
  exact ⟨o, by rw [k a z]; exact q⟩
theorem un_cut (T : CanTell S H h fs) (k : ∀ a ∈ S, H' a = plusC h S H a) (x : HOk P w H' h') (u : Un fs [] (plusC h S H) H' h h') : Un fs [] H (cut S H') h h' := by
  have nS : ∀ {b u}, H b = some u → b ∉ S := fun {b u} e z => by rw [T.free b z] at e; cases e
  refine ⟨fun b o e n hf hx => ?_, fun b o e n hf hx => u.slot b o e (T.none (fun z => T.nofr b z hf) n) hf hx, fun b o e n hx => ?_, u.there, fun b xs e => ?_, fun b o v e => ?_, fun b ps e => ?_⟩
  · by_cases z : b ∈ S
    · obtain ⟨ob, q1, q2⟩ := T.at z
      rw [e] at q1; cases q1
      have q3 : ObjOk P w H' h' b (ObjO b o) := x b _ (by rw [k b z]; exact q2)
      obtain ⟨q4, _⟩ := q3
      exact q4
    · exact u.keep b o e (T.none z n) hf hx
  · by_cases z : b ∈ S
    · exact cut_in z
    · rw [cut_out z]; exact u.free b o e (T.none z n) hx
  · rw [cut_out (nS e)]; exact u.tups b xs (T.grw _ _ e)
  · rw [cut_out (nS e)]; exact u.frzs b o v (T.grw _ _ e)
  · rw [cut_out (nS e)]; exact u.tbls b ps (T.grw _ _ e)
end
/-- the frame's own cells -/
def cellsX (X : Cx) : List Addr := X.env.cells.filterMap fun p => X.env.cells.lookup p.1
theorem cellsX_mem {X : Cx} {a : Addr} : a ∈ cellsX X ↔ ∃ y, X.env.cells.lookup y = some a := by
  unfold cellsX
  rw [List.mem_filterMap]
  constructor
  · rintro ⟨p, _, e⟩; exact ⟨_, e⟩
  · rintro ⟨y, e⟩; exact ⟨(y, a), PySem.mem_of_lookup e, e⟩
section
variable {X : Cx} {pins : List (Addr × Obj)} {σ : L2.St} {H : Hp} {s : Shared}
theorem cells_tell (I : Inv X pins σ H s) (hf : ∀ y, X.fn y = true) : CanTell (cellsX X) H s.heap (frs X.stack) where
  free := fun a ha => by
    obtain ⟨y, e⟩ := cellsX_mem.mp ha
    exact I.freeC y a e
  there := fun a ha => by
    obtain ⟨y, e⟩ := cellsX_mem.mp ha
    obtain ⟨v, o, ho, _⟩ := I.cell y a e
    exact ⟨o, ho⟩
  nofr := fun a ha z => by
    obtain ⟨y, e⟩ := cellsX_mem.mp ha
    have up := I.ok.cab y a (hf y) e
    rcases List.mem_cons.mp (I.stkSub _ z) with q | q
    · exact I.cne y a e q
    · obtain ⟨_, o, ho, _⟩ := I.ok.funs.mem q
      exact Nat.lt_irrefl _ (Nat.lt_of_lt_of_le (Heap.lt_size ho) up)
theorem env0_tell (I : Inv X pins σ H s) (hf : ∀ y, X.fn y = true) : Env0 X.prog X.w X.K X.mg X.base X.A X.stack s (plusC s.heap (cellsX X) H) := by
  have T := cells_tell I hf
  have e := I.env0
  refine ⟨e.frames, e.mod, fun b o q => ⟨(e.bs b o q).1, ?_⟩, e.bsz, e.funs, fun b hb => T.none (fun z => T.nofr b z hb) (e.frf b hb), T.hok e.hok, e.bare⟩
  refine T.none (fun z => ?_) (e.bs b o q).2
  obtain ⟨y, ey⟩ := cellsX_mem.mp z
  exact Nat.lt_irrefl _ (Nat.lt_of_lt_of_le (Heap.lt_size q) (Nat.le_trans I.ok.bsz (I.ok.cab y b (hf y) ey)))
/-- a call to which the cells are told -/
theorem run_tell {k : Nat} {f : Addr} {fd : FuncData} {ps : List Str} {sp : Sp} {Q : VK} {E : XK} {us zs : List Value} {kw : List (Str × Value)} {vs : List V} (F : FnG X.prog X.w X.K X.mg X.base k f fd ps sp) (hg : X.A.guards = some []) (hr : Room k X.A) (hx : PassI X H s E)
    (bd : BindsTo s fd ⟨us, kw⟩ (ps.zip zs)) (I : Inv X pins σ H s) (hf : ∀ y, X.fn y = true) (r : Vals vs zs)
    (h : sp vs (plusC s.heap (cellsX X) H) (fun v H' => (∀ a ∈ cellsX X, H' a = plusC s.heap (cellsX X) H a) ∧ Q v (cut (cellsX X) H')) fun _ _ _ => False) : wpAny (model X.prog X.w) X.A (call (.ref f) us kw) (EP X pins σ Q) X.xe s := by
  have T := cells_tell I hf
  refine wpAny_call (codeAny_mono (F.run X.A X.stack s _ _ zs vs _ _ hg hr (env0_tell I hf) bd r h) fun r s' hq => ?_)
  cases r with
  | error e =>
    obtain ⟨_, _, _, _, _, _, _, _, _, _, _, _, z⟩ := hq
    exact z.elim
  | ok fl =>
    cases fl with
    | ret u =>
      obtain ⟨v, H', os, bare, un, hok, rv, q1, q2⟩ := hq
      exact I.after ⟨v, _, os, bare, un_cut T q1 hok un, hok_cut (cells_of T q1) hok, rv, q2⟩
    | next => exact hq.elim
    | brk => exact hq.elim
    | cont => exact hq.elim
end
end PL
namespace PL
open PySem PySem.Spec PyProof.Rows L2
def closeL : List (LamId × List Nat) → M (List D)
  | [], env => .ok [] env
  | (ℓ, js) :: r, env => (evMs (js.map eV) env).bind fun cs e1 => if noLs (C.toDs cs) = true then (closeL r e1).bind fun ds e2 => .ok (.lam ℓ (C.toDs cs) :: ds) e2 else .no
theorem eV_inv {j : Nat} {env e1 : Slots} {c : C} (h : eV j env = .ok c e1) : ∃ c0, env[j]? = some (some c0) ∧ c = .frz c0.toD ∧ e1 = env.set j (some (.frz c0.toD)) := by
  unfold eV at h
  cases e : env[j]? with
  | none => rw [e] at h; cases h
  | some oc =>
    rw [e] at h
    cases oc with
    | none => cases h
    | some c0 =>
      refine ⟨c0, rfl, ?_⟩
      cases c0 with
      | frz d =>
        cases h
        exact ⟨by rw [C.toD], by rw [C.toD, set_same e]⟩
      | _ => cases h; exact ⟨rfl, rfl⟩
section
variable {K : PySem.W.Frag} {B : Addr → Prop} {H : Hp} {σ : List (Option V)}
theorem sub_of {O O' : List Addr} {e : Slots} (s : Stt K B H σ e O') (f : Frm O H [] O' H) : ∀ a, a ∈ O' → a ∈ O := fun a ha => Classical.byContradiction fun n => by
  obtain ⟨u, e⟩ := RepE.trk s.rep a ha
  exact (f a _ n e).2 (.inr ha)
theorem give_all : ∀ {js : List Nat} {env e1 : Slots} {cs : List C} {O : List Addr}, Stt K B H σ env O → evMs (js.map eV) env = .ok cs e1 →
    ∃ O' xs, Stt K B H σ e1 O' ∧ (∀ a, a ∈ O' → a ∈ O) ∧ js.map (fun j => σ[j]?) = xs.map (fun x => some (some x)) ∧ IsL K (fun a => B a ∨ a ∈ O') H (C.toDs cs) xs
  | [], env, e1, cs, O, s, h => by
    cases h
    exact ⟨O, [], s, fun _ z => z, rfl, rfl⟩
  | j :: js, env, e1, cs, O, s, h => by
    rw [List.map_cons] at h
    unfold evMs at h
    cases ev : eV j env with
    | no => rw [ev] at h; cases h
    | err _ _ => rw [ev] at h; cases h
    | ok c e2 =>
      rw [ev] at h
      simp only [Out.bind] at h
      obtain ⟨c0, g1, rfl, rfl⟩ := eV_inv ev
      obtain ⟨x, O1, k1, s1, f1, is1⟩ := s.give g1
      cases er : evMs (js.map eV) (env.set j (some (.frz c0.toD))) with
      | no => rw [er] at h; cases h
      | err _ _ => rw [er] at h; cases h
      | ok cs2 e3 =>
        rw [er] at h
        cases h
        obtain ⟨O2, xs, s2, sub2, m2, is2⟩ := give_all s1 er
        have sub1 := sub_of s1 f1
        refine ⟨O2, x :: xs, s2, fun a z => sub1 a (sub2 a z), by rw [List.map_cons, List.map_cons, m2, k1], ?_⟩
        rw [C.toDs]
        exact ⟨x, xs, rfl, Is.kp (Kp.less fun a z => z.imp id (sub2 a)) _ _ is1, is2⟩
/-- each lambda's data are what its names hold -/
def Clos (K : PySem.W.Frag) (W : Addr → Prop) (H : Hp) (σ : List (Option V)) : List (LamId × List Nat) → List D → Prop
  | [], ds => ds = []
  | (ℓ, js) :: r, ds => ∃ l xs ds', ds = .lam ℓ l :: ds' ∧ noLs l = true ∧ js.map (fun j => σ[j]?) = xs.map (fun x => some (some x)) ∧ IsL K W H l xs ∧ Clos K W H σ r ds'
theorem closeL_ok : ∀ {ls : List (LamId × List Nat)} {env e1 : Slots} {ds : List D} {O : List Addr}, Stt K B H σ env O → closeL ls env = .ok ds e1 →
    ∃ O', Stt K B H σ e1 O' ∧ (∀ a, a ∈ O' → a ∈ O) ∧ Clos K (fun a => B a ∨ a ∈ O') H σ ls ds
  | [], env, e1, ds, O, s, h => by
    cases h
    exact ⟨O, s, fun _ z => z, rfl⟩
  | (ℓ, js) :: r, env, e1, ds, O, s, h => by
    unfold closeL at h
    cases er : evMs (js.map eV) env with
    | no => rw [er] at h; cases h
    | err _ _ => rw [er] at h; cases h
    | ok cs e2 =>
      rw [er] at h
      simp only [Out.bind] at h
      split at h
      · rename_i hn
        obtain ⟨O1, xs, s1, sub1, m1, is1⟩ := give_all s er
        cases ec : closeL r e2 with
        | no => rw [ec] at h; cases h
        | err _ _ => rw [ec] at h; cases h
        | ok ds2 e3 =>
          rw [ec] at h
          cases h
          obtain ⟨O2, s2, sub2, cl⟩ := closeL_ok s1 ec
          exact ⟨O2, s2, fun a z => sub1 a (sub2 a z), _, xs, ds2, rfl, hn, m1, IsL.kp (Kp.less fun a z => z.imp id (sub2 a)) _ _ is1, cl⟩
      · cases h
end
theorem clo_names {cells : List (Str × Addr)} : ∀ {l : List (Str × NameKind)} {acc : List (Str × Addr)}, (cloFrom cells l acc).map (·.1) = freeN l (acc.map (·.1))
  | [], acc => rfl
  | (n, k) :: r, acc => by
    unfold cloFrom freeN
    split
    · rw [clo_names]; rfl
    · exact clo_names
theorem cellsIs_of {W : Addr → Prop} {H : Hp} : ∀ {cl : List (Str × Addr)} {xs : List V}, xs.length = cl.length → (∀ (i : Nat) (p : Str × Addr) (x : V), cl[i]? = some p → xs[i]? = some x → ∃ o u, H p.2 = some (ObjO p.2 o) ∧ ¬ W p.2 ∧ o.data = .cell (some u) ∧ RelV x u) → CellsIs W H cl xs
  | [], xs, hl, _ => by
    rw [List.eq_nil_of_length_eq_zero hl]
    rfl
  | (n, c) :: r, [], hl, _ => by simp at hl
  | (n, c) :: r, x :: xs, hl, h => by
    obtain ⟨o, u, h1, h2, h3, h4⟩ := h 0 (n, c) x rfl rfl
    exact ⟨x, xs, o, u, rfl, h1, h2, h3, h4, cellsIs_of (by simpa using hl) fun i p y e1 e2 => h (i + 1) p y (by simpa using e1) (by simpa using e2)⟩
/-- where a lambda of X stands in the text, which slots it captures -/
structure SiteX (X : Cx) (ℓ : LamId) (js : List Nat) (b : List Stmt) (t : LamSite) : Prop where
  body : BodyK X.K ℓ.q b
  at_ : lamAt b ℓ.p = some t
  js : js.map (fun j => X.N[j]?) = (freeN t.scope.names []).map some
  nd : (freeN t.scope.names []).Nodup
  cap : ∀ y ∈ freeN t.scope.names [], X.env.scope.names.lookup y = some .cell ∨ X.env.scope.names.lookup y = some .free
section
variable {X : Cx} {pins : List (Addr × Obj)} {σ : L2.St} {H : Hp} {s : Shared} {W : Addr → Prop} {ℓ : LamId} {js : List Nat} {b : List Stmt} {t : LamSite} {f : Addr} {l : List D} {xs : List V}
theorem lam_is (I : Inv X pins σ H s) (hfn : ∀ y, X.fn y = true) (S : SiteX X ℓ js b t) (R : LamR X W H ℓ.q t f) (hn : noLs l = true) (hj : js.map (fun j => σ[j]?) = xs.map (fun x => some (some x))) (hi : IsL X.K W H l xs) (hW : ∀ a, W a → ∃ u, H a = some u) :
    Is X.K W (plusC s.heap (cellsX X) H) (.lam ℓ l) (.ref f) := by
  have T := cells_tell I hfn
  obtain ⟨c, h1, h2, h3, h4⟩ := R
  have names : (cloFrom X.env.cells t.scope.names []).map (·.1) = freeN t.scope.names [] := clo_names
  have has : ∀ p ∈ cloFrom X.env.cells t.scope.names [], X.env.cells.lookup p.1 = some p.2 := fun p hp => by
    rcases cloFrom_mem (n := p.1) (c := p.2) hp with z | ⟨z1, z2⟩
    · cases z
    · obtain ⟨c2, e⟩ := I.ok.has p.1 (S.cap p.1 (by rw [← names]; exact List.mem_map.mpr ⟨p, hp, rfl⟩))
      rw [z2, e]; rfl
  have ndS : ∀ {cl : List (Str × Addr)}, (cl.map (·.1)).Nodup → (∀ p ∈ cl, X.env.cells.lookup p.1 = some p.2) → (cl.map (·.2)).Nodup := by
    intro cl
    induction cl with
    | nil => intro _ _; exact .nil
    | cons p r ih =>
      intro nd hl
      rw [List.map_cons, List.nodup_cons] at nd ⊢
      refine ⟨fun z => ?_, ih nd.2 fun q hq => hl q (by simp [hq])⟩
      obtain ⟨q, hq, e⟩ := List.mem_map.mp z
      have e1 := hl p (by simp)
      have e2 := hl q (by simp [hq])
      rw [e] at e2
      exact nd.1 (List.mem_map.mpr ⟨q, hq, (I.ok.inj _ _ _ e1 e2).symm⟩)
  have lens : xs.length = (cloFrom X.env.cells t.scope.names []).length := by
    have e1 := congrArg List.length hj
    have e2 := congrArg List.length S.js
    have e3 := congrArg List.length names
    simp only [List.length_map] at e1 e2 e3
    omega
  refine ⟨b, t, f, _, c, xs, rfl, ⟨S.body, S.at_, names, ndS (by rw [names]; exact S.nd) has, hn⟩, T.grw _ _ h1, h2, T.grw _ _ h3, h4, ?_, IsL.kp (fun a o w e => ⟨T.grw _ _ e, w⟩) _ _ hi⟩
  refine cellsIs_of lens fun i p x e1 e2 => ?_
  have ei : js[i]?.map (fun j => σ[j]?) = some (some (some x)) := by
    have := congrArg (fun l => l[i]?) hj
    simp only [List.getElem?_map, e2, Option.map_some] at this
    exact this
  have eN : js[i]?.map (fun j => X.N[j]?) = some (some p.1) := by
    have := congrArg (fun l => l[i]?) S.js
    rw [← names] at this
    simp only [List.getElem?_map, e1, Option.map_some] at this
    exact this
  cases q : js[i]? with
  | none => rw [q] at ei; cases ei
  | some j =>
    rw [q] at ei eN
    have ei := Option.some.inj ei
    have eN := Option.some.inj eN
    have cp := S.cap p.1 (by rw [← names]; exact List.mem_map.mpr ⟨p, List.mem_of_getElem? e1, rfl⟩)
    obtain ⟨m, _, loc⟩ := I.loc
    obtain ⟨u, rv, lk⟩ := loc j p.1 x eN ei (cp.elim (fun z => .inr (.inl z)) fun z => .inr (.inr z))
    have hp := has p (List.mem_of_getElem? e1)
    rcases lk with ⟨z, _⟩ | ⟨_, c2, y1, o, y2, y3⟩
    · have z : X.env.scope.names.lookup p.1 = some .local := z
      rcases cp with cp | cp <;> rw [cp] at z <;> cases z
    · rw [hp] at y1; cases y1
      obtain ⟨o2, g1, g2⟩ := T.at (cellsX_mem.mpr ⟨p.1, hp⟩)
      rw [y2] at g1; cases g1
      refine ⟨o, u, g2, fun z => ?_, y3, rv⟩
      obtain ⟨v, e⟩ := hW _ z
      rw [T.free p.2 (cellsX_mem.mpr ⟨p.1, hp⟩)] at e; cases e
end
/-- the objects of some lambdas -/
def LamRs (X : Cx) (W : Addr → Prop) (H : Hp) : List LamId → List V → Prop
  | [], xs => xs = []
  | ℓ :: r, xs => ∃ f ys b t, xs = .ref f :: ys ∧ BodyK X.K ℓ.q b ∧ lamAt b ℓ.p = some t ∧ LamR X W H ℓ.q t f ∧ LamRs X W H r ys
theorem LamRs.kp {X : Cx} {W W' : Addr → Prop} {H H' : Hp} (p : Kp W H W' H') : ∀ {ks : List LamId} {xs : List V}, LamRs X W H ks xs → LamRs X W' H' ks xs
  | [], xs, h => h
  | ℓ :: r, xs, h => by
    obtain ⟨f, ys, b, t, e, h1, h2, h3, h4⟩ := h
    exact ⟨f, ys, b, t, e, h1, h2, h3.kp p, LamRs.kp p h4⟩
theorem LamRs.snoc {X : Cx} {W : Addr → Prop} {H : Hp} {ℓ : LamId} {v : V} (h' : LamRs X W H [ℓ] [v]) : ∀ {ks : List LamId} {xs : List V}, LamRs X W H ks xs → LamRs X W H (ks ++ [ℓ]) (xs ++ [v])
  | [], xs, h => by rw [show xs = [] from h]; exact h'
  | k :: r, xs, h => by
    obtain ⟨f, ys, b, t, rfl, h1, h2, h3, h4⟩ := h
    exact ⟨f, ys ++ [v], b, t, rfl, h1, h2, h3, LamRs.snoc h' h4⟩
theorem LamRs.length {X : Cx} {W : Addr → Prop} {H : Hp} : ∀ {ks : List LamId} {xs : List V}, LamRs X W H ks xs → xs.length = ks.length
  | [], xs, h => by rw [show xs = [] from h]; rfl
  | k :: r, xs, h => by
    obtain ⟨f, ys, b, t, rfl, h1, h2, h3, h4⟩ := h
    simp [LamRs.length h4]
/-- one lambda, or a list of them -/
def LV (X : Cx) (W : Addr → Prop) (H : Hp) (one : Bool) (ks : List LamId) (v : V) : Prop := match one with
  | true => LamRs X W H ks [v]
  | false => ∃ a xs, v = .ref a ∧ H a = some (.lst xs) ∧ ¬ W a ∧ LamRs X W H ks xs
theorem LV.kp {X : Cx} {W W' : Addr → Prop} {H H' : Hp} {one : Bool} {ks : List LamId} {v : V} (p : Kp W H W' H') (h : LV X W H one ks v) : LV X W' H' one ks v := by
  cases one with
  | true => exact LamRs.kp p h
  | false =>
    obtain ⟨a, xs, e, h1, h2, h3⟩ := h
    exact ⟨a, xs, e, (p _ _ h2 h1).1, (p _ _ h2 h1).2, h3.kp p⟩
def wrapL (one : Bool) (ds : List D) : D := match one, ds with
  | true, [d] => d
  | _, ds => .lst ds
section
variable {X : Cx} {pins : List (Addr × Obj)} {σ : L2.St} {H : Hp} {s : Shared} {W : Addr → Prop}
theorem lams_is (I : Inv X pins σ H s) (hfn : ∀ y, X.fn y = true) (hW : ∀ a, W a → ∃ u, H a = some u) : ∀ {ls : List (LamId × List Nat)} {ds : List D} {xs : List V}, (∀ x ∈ ls, ∃ b t, SiteX X x.1 x.2 b t) → Clos X.K W H σ ls ds → LamRs X W H (ls.map (·.1)) xs → IsL X.K W (plusC s.heap (cellsX X) H) ds xs
  | [], ds, xs, _, h, h' => by
    rw [show ds = [] from h, show xs = [] from h']
    rfl
  | (ℓ, js) :: r, ds, xs, hs, h, h' => by
    obtain ⟨l, ys, ds', rfl, h1, h2, h3, h4⟩ := h
    obtain ⟨f, zs, b, t, rfl, g1, g2, g3, g4⟩ := h'
    obtain ⟨b', t', S⟩ := hs (ℓ, js) (by simp)
    obtain rfl := S.body.eq g1
    have at_ := S.at_
    have g2 : lamAt b' ℓ.p = some t := g2
    rw [g2] at at_
    obtain rfl := Option.some.inj at_
    exact ⟨_, zs, rfl, lam_is I hfn S g3 h1 h2 h3 hW, lams_is I hfn hW (fun x hx => hs x (by simp [hx])) h4 g4⟩
theorem wrap_is (I : Inv X pins σ H s) (hfn : ∀ y, X.fn y = true) (hW : ∀ a, W a → ∃ u, H a = some u) {one : Bool} {ls : List (LamId × List Nat)} {ds : List D} {v : V} (hs : ∀ x ∈ ls, ∃ b t, SiteX X x.1 x.2 b t) (h : Clos X.K W H σ ls ds) (h' : LV X W H one (ls.map (·.1)) v) :
    Is X.K W (plusC s.heap (cellsX X) H) (wrapL one ds) v := by
  have T := cells_tell I hfn
  cases one with
  | true =>
    have z := lams_is I hfn hW hs h h'
    have l := z.length
    match ds, z, l with
    | [d], z, _ =>
      obtain ⟨x, ys, e, z1, _⟩ := z
      cases e
      exact z1
  | false =>
    obtain ⟨a, xs, rfl, h1, h2, h3⟩ := h'
    exact ⟨a, xs, rfl, T.grw _ _ h1, h2, lams_is I hfn hW hs h h3⟩
end
end PL
namespace PL
open PySem PySem.Spec PyProof.Rows L2
/-- m of the lambdas (one: the one itself; else a list of them) and the further arguments -/
def callL (m : List C → Out C) (one : Bool) (ls : List (LamId × List Nat)) (cs : List C) (e1 : Slots) : Out C := (closeL ls e1).bind fun ds e2 => match m (.frz (wrapL one ds) :: cs) with
  | .ok c _ => if noL c.toD = true then .ok (.frz c.toD) e2 else .no
  | _ => .no
def eCallL (m : List C → Out C) (one : Bool) (ls : List (LamId × List Nat)) (fs : List (M C)) : M C := fun env => (evMs fs env).bind (callL m one ls)
/-- the end of a reading -/
def outE (X : Cx) (w : WX) (B : Addr → Prop) (O : List Addr) (σ : L2.St) (H : Hp) (Q : VK) : Out C → Prop
  | .ok c env' => ∀ v H' A O', Res X.K B O H σ c env' v H' A O' → Q v H'
  | .err x env' => ∀ cls d H' O', XRes X.K X.mg B O H σ x env' cls d H' O' → w cls d σ H'
  | .no => False
abbrev Pre := Slots → (Addr → Prop) → List Addr → L2.St → Hp → Prop
def rdEP (X : Cx) (w : WX) (pre : Pre) (f : M C) : TE := fun σ H Q => ∃ B env O, Stt X.K B H σ env O ∧ pre env B O σ H ∧ outE X w B O σ H Q (f env)
/-- an expression that stands for lambdas made in X -/
def tLX (X : Cx) (pre : Pre) (one : Bool) (ks : List LamId) : TE := fun σ H Q => ∃ B env O, Stt X.K B H σ env O ∧ pre env B O σ H ∧ ∀ v H1, Stt X.K B H1 σ env O → Frm O H [] O H1 → LV X (fun a => B a ∨ a ∈ O) H1 one ks v → Q v H1
section
variable {X : Cx} {w : WX} {H H1 : Hp} {σ : L2.St} {e e0 : Expr} {es : List Expr} {pos pp : Pos} {B : Addr → Prop} {O O1 A : List Addr} {env e1 : Slots} {pins : List (Addr × Obj)} {s : Shared} {one : Bool} {ls : List (LamId × List Nat)} {m : List C → Out C} {cs : List C} {vs : List V} {v0 : V} {n : Nat} {Q : VK} {pre : Pre}
theorem callL_want (I : Inv X pins σ H1 s) (hfn : ∀ y, X.fn y = true) (hs : ∀ x ∈ ls, ∃ b t, SiteX X x.1 x.2 b t) (r : ResL X.K B O H σ cs e1 vs H1 A O1) (lv : LV X (fun a => (B a ∨ a ∈ O1) ∨ a ∈ A) H1 one (ls.map (·.1)) v0) (hn : vs.length = n)
    (h : outE X w B O σ H Q (callL m one ls cs e1)) :
    spM X.K X.mg (n + 1) m (v0 :: vs) (plusC s.heap (cellsX X) H1) (fun v H' => (∀ a ∈ cellsX X, H' a = plusC s.heap (cellsX X) H1 a) ∧ Q v (cut (cellsX X) H')) fun _ _ _ => False := by
  have T := cells_tell I hfn
  unfold callL at h
  cases ec : closeL ls e1 with
  | no => rw [ec] at h; exact h.elim
  | err x e =>
    exfalso
    have no : ∀ {ls : List (LamId × List Nat)} {e1 : Slots} {x e}, closeL ls e1 ≠ .err x e := by
      intro ls
      have nv : ∀ {js : List Nat} {e1 : Slots} {x e}, evMs (js.map eV) e1 ≠ .err x e := by
        intro js
        induction js with
        | nil => intro e1 x e z; cases z
        | cons j js ih =>
          intro e1 x e z
          rw [List.map_cons] at z
          unfold evMs at z
          cases ev : eV j e1 with
          | no => rw [ev] at z; cases z
          | err y e2 =>
            unfold eV at ev
            split at ev <;> cases ev
          | ok c e2 =>
            rw [ev] at z
            simp only [Out.bind] at z
            cases er : evMs (js.map eV) e2 with
            | no => rw [er] at z; cases z
            | err _ _ => exact ih er
            | ok _ _ => rw [er] at z; cases z
      induction ls with
      | nil => intro e1 x e z; cases z
      | cons p ls ih =>
        intro e1 x e z
        obtain ⟨ℓ, js⟩ := p
        unfold closeL at z
        cases er : evMs (js.map eV) e1 with
        | no => rw [er] at z; cases z
        | err _ _ => exact nv er
        | ok cs e2 =>
          rw [er] at z
          simp only [Out.bind] at z
          split at z
          · cases ec : closeL ls e2 with
            | no => rw [ec] at z; cases z
            | err _ _ => exact ih ec
            | ok _ _ => rw [ec] at z; cases z
          · cases z
    exact no ec
  | ok ds e2 =>
    rw [ec] at h
    simp only [Out.bind] at h
    obtain ⟨O2, s2, sub, cl⟩ := closeL_ok r.stt ec
    have trk : ∀ a, ((B a ∨ a ∈ O2) ∨ a ∈ A) → ∃ u, H1 a = some u := fun a z => by
      rcases z with (z | z) | z
      · obtain ⟨u, e⟩ := r.stt.tr a (.inl z); exact ⟨u.1, e⟩
      · obtain ⟨u, e⟩ := RepE.trk s2.rep a z; exact ⟨u.1, e⟩
      · obtain ⟨u, e⟩ := RepL.trk _ _ _ r.rep a z; exact ⟨u.1, e⟩
    have cl' : Clos X.K (fun a => (B a ∨ a ∈ O2) ∨ a ∈ A) H1 σ ls ds := by
      have go : ∀ {W W' : Addr → Prop}, (∀ a, W' a → W a) → ∀ {ls : List (LamId × List Nat)} {ds : List D}, Clos X.K W H1 σ ls ds → Clos X.K W' H1 σ ls ds := by
        intro W W' hw ls
        induction ls with
        | nil => intro ds h; exact h
        | cons p r ih =>
          intro ds h
          obtain ⟨l, xs, ds', g1, g2, g3, g4, g5⟩ := h
          exact ⟨l, xs, ds', g1, g2, g3, IsL.kp (Kp.less hw) _ _ g4, ih g5⟩
      exact go (fun a z => by rcases z with (z | z) | z <;> simp [z]) cl
    have lv' : LV X (fun a => (B a ∨ a ∈ O2) ∨ a ∈ A) H1 one (ls.map (·.1)) v0 := LV.kp (Kp.less fun a z => by
      rcases z with (z | z) | z
      · simp [z]
      · simp [sub a z]
      · simp [z]) lv
    have is0 := wrap_is I hfn trk hs cl' lv'
    have r2 : ResL X.K B O H σ cs e2 vs H1 A O2 := ⟨RepL.kp (Kp.less fun a z => z.imp id (sub a)) _ _ _ (fun _ _ _ e => e) r.rep, s2, r.nd, r.dj, fun a o hw ha => ⟨(r.frm a o hw ha).1, fun z => (r.frm a o hw ha).2 (z.imp id (sub a))⟩⟩
    have ar := r2.args
    have g := T.grw
    have ar2 : Stt X.K (fun a => B a ∨ a ∈ O2) (plusC s.heap (cellsX X) H1) ((v0 :: vs).map some) ((C.frz (wrapL one ds) :: cs).map some) A := by
      have a2 := ar.grw g
      exact ⟨⟨some v0, vs.map some, [], A, rfl, rfl, ⟨v0, rfl, rfl, is0⟩, a2.rep⟩, a2.nd, a2.dj, a2.tr⟩
    refine ⟨by simp [hn], _, _, A, ar2, ?_⟩
    cases em : m (.frz (wrapL one ds) :: cs) with
    | no => rw [em] at h; exact h
    | err x e => rw [em] at h; exact h.elim
    | ok c outs =>
      rw [em] at h
      simp only [] at h
      by_cases hc : noL c.toD = true
      · rw [if_pos hc] at h
        intro u H' A2 O3 res
        have nA : ∀ a ∈ cellsX X, a ∉ A := fun a ha z => by
          obtain ⟨u, e⟩ := RepL.trk _ _ _ r.rep a z
          rw [T.free a ha] at e; cases e
        have k : ∀ a ∈ cellsX X, H' a = plusC s.heap (cellsX X) H1 a := fun a ha => by
          obtain ⟨o, _, q⟩ := T.at ha
          rw [(res.frm a _ (nA a ha) q).1, q]
        have nS : ∀ {a o}, H1 a = some o → a ∉ cellsX X := fun {a o} e z => by rw [T.free a z] at e; cases e
        have fr : Frm A H1 A2 O3 (cut (cellsX X) H') := fun a o hw e => by
          obtain ⟨q1, q2⟩ := res.frm a o hw (g _ _ e)
          exact ⟨by rw [cut_out (nS e)]; exact q1, q2⟩
        obtain ⟨s3, f3⟩ := r2.stay fr
        have is1 : Is X.K (fun a => B a ∨ a ∈ O2) (cut (cellsX X) H') c.toD u := Is.cutD (cells_of T k) _ _ hc (Is.kp (Kp.less fun a z => .inl z) _ _ res.is)
        exact ⟨k, h u _ [] O2 (Res.new s3 f3 (New.of_is is1))⟩
      · rw [if_neg hc] at h; exact h.elim
/-- x(lambdas, ..) -/
theorem pe_callL {k : Nat} {x : Str} {st : Stmt} {qs : List Str} {fs : List (M C)} (L : PE X e0 (tLX X pre one (ls.map (·.1)))) (hs : ∀ x ∈ ls, ∃ b t, SiteX X x.1 x.2 b t) (hfn : ∀ y, X.fn y = true) (F : FnM X.prog X.w X.K X.mg X.base k x st qs m) (bd : BindP x st qs) (hg : X.A.guards = some []) (hr : Room k X.A) (gl : Gl X x)
    (ha : AMk X w es fs) (hl : fs.length + 1 = qs.length := by rfl)
    (hdb : (x == ("__debug__" : Str)) = false := by decide) (he : starEach (e0 :: es) X.env = (false, eval e0 X.env) :: starEach es X.env := by rfl) (hpl : (backTo pos (starEach es X.env)).any (·.1) = false := by rfl) :
    PE X (.Call (.Name x pp) (e0 :: es) [] pos) (rdEP X w pre (eCallL m one ls fs)) := by
  obtain ⟨f, kV, doc, pm, an, cdv, ct, hm, kp, G⟩ := F.ex
  refine ⟨fun pins s σ H Q I h => ?_⟩
  have want : tCons (tLX X pre one (ls.map (·.1))) (rdM X w fs) σ H fun us H2 => ∃ B O cs e1 vs A O1 v0, us = v0 :: vs ∧ vs.length + 1 = qs.length ∧ ResL X.K B O H σ cs e1 vs H2 A O1 ∧ LV X (fun a => (B a ∨ a ∈ O1) ∨ a ∈ A) H2 one (ls.map (·.1)) v0 ∧ outE X w B O σ H Q (callL m one ls cs e1) := by
    obtain ⟨B, env, O, st, hp, h⟩ := h
    refine ⟨B, env, O, st, hp, fun v0 H1 st1 f1 lv => ?_⟩
    refine ⟨B, env, O, st1, ?_⟩
    unfold eCallL at h
    cases er : evMs fs env with
    | no => rw [er] at h; exact h.elim
    | err y e =>
      rw [er] at h
      exact fun cls d H' O' x2 => h cls d H' O' ⟨x2.cls, x2.fs, x2.stt, f1.seq' x2.frm⟩
    | ok cs e1 =>
      rw [er] at h
      intro vs H2 A O1 r
      refine ⟨B, O, cs, e1, vs, A, O1, v0, rfl, by rw [r.rep.length, evMs_len er]; exact hl, ⟨r.rep, r.stt, r.nd, r.dj, f1.seq' r.frm⟩, LV.kp (fun a o hw e => ?_) lv, h⟩
      obtain ⟨q1, q2⟩ := r.frm a o (fun z => hw (.inr z)) e
      exact ⟨q1, fun z => z.elim (fun z => z.elim (fun z => hw (.inl z)) fun z => q2 (.inr z)) fun z => q2 (.inl z)⟩
  refine wpAny_Call_Name_kw (ld_glob I gl hm ?_ hdb)
  refine PySem.W.callWith_K (h₀ := X.base) I.ok.mod.kin kp (thn ((pa_cons L ha he).run pos pins s σ H _ I want) ?_) he hpl
  rintro us s1 ⟨ws, H1, I1, r1, B, O, cs, e1, vs, A, O1, v0, rfl, hl2, r, lv, hq⟩
  refine ⟨I1.kIn, run_tell G hg hr passX0 (.of_eq (bd kV doc pm an cdv ct us (by rw [← r1.length]; simpa using hl2))) I1 hfn r1 ?_⟩
  rw [← hl2]
  exact callL_want I1 hfn hs r lv rfl hq
end
end PL
namespace PL
open PySem PySem.Spec PyProof.Rows L2
section
variable {X : Cx} {w : WX} {pn : List Nat} {H H1 : Hp} {σ : L2.St} {B : Addr → Prop} {O O1 A : List Addr} {env e1 : Slots} {pins : List (Addr × Obj)} {s : Shared} {g i : Nat} {ℓ : LamId} {b : List Stmt} {t : LamSite} {lpos pos : Pos} {ks : List LamId} {rest : List Stmt} {f : SS}
theorem Res.putM {K : PySem.W.Frag} {c : C} {v : V} {H' : Hp} {A O' : List Addr} {i : Nat} (r : Res K B O H σ c e1 v H' A O') (hi : i < e1.length) :
    ∃ O2, Stt K B H' (σ.set i (some v)) (e1.set i (some c)) O2 ∧ Frm O H [] O2 H' ∧ ∀ a ∈ O2, a ∈ A ∨ a ∈ O' := by
  obtain ⟨o, A1, A2, A3, g1, g2, g3, g4⟩ := RepE.at r.stt.rep (List.getElem?_eq_getElem hi)
  have nd := r.stt.nd
  rw [g2] at nd
  have nd1 := List.nodup_append.mp nd
  have nd2 := List.nodup_append.mp nd1.2.1
  have sub : ∀ a, a ∈ A1 ++ A3 → a ∈ O' := fun a ha => by rw [g2]; simp at ha ⊢; rcases ha with z | z <;> simp [z]
  have m3 : ∀ a, a ∈ A1 ++ (A ++ A3) → a ∈ A ∨ a ∈ A1 ++ A3 := fun a ha => by simp at ha ⊢; rcases ha with z | z | z <;> simp [z]
  refine ⟨A1 ++ (A ++ A3), ⟨?_, ?_, ?_, ?_⟩, fun a o hw ha => ⟨(r.frm a o hw ha).1, fun z => (r.frm a o hw ha).2 (z.elim (fun z => nomatch z) fun z => (m3 a z).imp id (sub a))⟩, fun a ha => (m3 a ha).imp id (sub a)⟩
  · refine g4 _ H' (some c) (some v) A (Kp.less fun a z => ?_) (fun _ _ _ e => e) ⟨v, rfl, RepC.kp (Kp.less fun a z => ?_) _ _ _ (fun _ _ _ e => e) r.rep⟩
    · rcases z with z | z
      · exact .inl (.inl z)
      · exact (m3 a z).imp .inr (sub a)
    · rcases z with z | z
      · exact .inl (.inl z)
      · exact (m3 a z).imp .inr (sub a)
  · refine List.nodup_append.mpr ⟨nd1.1, List.nodup_append.mpr ⟨r.nd, nd2.2.1, fun a ha b hb e => ?_⟩, fun a ha b hb e => ?_⟩
    · subst e; exact r.stt.dj a (sub a (by simp [hb])) (.inr ha)
    · subst e
      rcases List.mem_append.mp hb with z | z
      · exact r.stt.dj a (sub a (by simp [ha])) (.inr z)
      · exact nd1.2.2 a ha a (by simp [z]) rfl
  · exact fun a ha z => (m3 a ha).elim (fun y => r.dj a y z) fun y => r.stt.dj a (sub a y) (.inl z)
  · exact fun a z => r.stt.tr a (.inl z)
abbrev preT (g : Nat) (q : Str) : Pre := fun env _ _ _ _ => isTabs q (env[g]?) = true
/-- how the lambda stands in the text -/
structure LamTx (X : Cx) (ℓ : LamId) (b : List Stmt) (t : LamSite) : Prop where
  body : BodyK X.K ℓ.q b
  at_ : lamAt b ℓ.p = some t
  hd : LamHd X ℓ.q
  df : defaultsOf t.params X.env = ([], [])
  fr : FreeOk X t
theorem LamTx.one {W : Addr → Prop} {fa : Addr} (L : LamTx X ℓ b t) (r : LamR X W H ℓ.q t fa) : LamRs X W H [ℓ] [.ref fa] := ⟨fa, [], b, t, rfl, L.body, L.at_, r, rfl⟩
/-- the lambda itself -/
theorem pe_lamX (L : LamTx X ℓ b t) : PE X (.Lambda t.params t.body t.scope lpos) (tLX X (preT g ℓ.q) true [ℓ]) := (pe_lam (g := g) L.hd L.df L.fr).imp fun σ H Q h => by
  obtain ⟨B, env, O, st, ht, h⟩ := h
  exact ⟨B, env, O, st, ht, fun fa H1 st1 f1 _ r => h _ H1 st1 f1 (L.one r)⟩
/-- a new list with it -/
def tLst1 (X : Cx) (g : Nat) (ℓ : LamId) (t : LamSite) : TE := fun σ H Q => ∃ B env O, Stt X.K B H σ env O ∧ isTabs ℓ.q (env[g]?) = true ∧
  ∀ a fa H2, Res X.K B O H σ (.own [.frz (.opq (.ref fa))]) env (.ref a) H2 [a] O → H2 a = some (.lst [.ref fa]) → LamR X (fun b => (B b ∨ b ∈ [a]) ∨ b ∈ O) H2 ℓ.q t fa → Q (.ref a) H2
theorem pe_lst1 (L : LamTx X ℓ b t) (he : starEach [Expr.Lambda t.params t.body t.scope lpos] X.env = (false, eval (.Lambda t.params t.body t.scope lpos) X.env) :: starEach [] X.env := by rfl) : PE X (.List [.Lambda t.params t.body t.scope lpos] pos) (tLst1 X g ℓ t) :=
  (pe_lst (pa_cons (pe_lam (g := g) L.hd L.df L.fr) pa_nil he)).imp fun σ H Q h => by
    obtain ⟨B, env, O, st, ht, h⟩ := h
    refine ⟨B, env, O, st, ht, fun fa H1 st1 f1 nf r => ⟨by rw [sizeLine_eq]; simp, fun a ha => ?_⟩⟩
    have nW : ¬ (B a ∨ a ∈ O) := fun z => by
      obtain ⟨u, e⟩ := z.elim (st1.tr a) (RepE.trk st1.rep a)
      rw [ha] at e; cases e
    have rl : ResL X.K B O H σ [.frz (.opq (.ref fa))] env [.ref fa] H1 [] O := ⟨⟨_, [], [], [], rfl, rfl, ⟨rfl, rfl⟩, rfl, rfl⟩, st1.less fun a z => z.elim id fun z => (nomatch z), .nil, fun _ z => (nomatch z), f1⟩
    have rr := rl.own ha
    refine h a fa _ rr upd_same ?_
    obtain ⟨c, r1, r2, r3, r4⟩ := r
    have na : ∀ {x o}, H1 x = some o → x ≠ a := fun {x o} e z => by rw [z, ha] at e; cases e
    exact ⟨c, by rw [upd_ne (na r1)]; exact r1, fun z => z.elim (fun z => z.elim (fun z => r2 (.inl z)) fun z => na r1 (by simpa using z)) fun z => r2 (.inr z), by rw [upd_ne (na r3)]; exact r3, fun z => z.elim (fun z => z.elim (fun z => r4 (.inl z)) fun z => na r3 (by simpa using z)) fun z => r4 (.inr z)⟩
/-- a reading with more known of the state -/
def rdSP (X : Cx) (w : WX) (pn : List Nat) (pre : Pre) (f : SS) : TS := fun D σ H => ∃ B env O, Stt X.K B H σ env O ∧ pre env B O σ H ∧ SPost X w pn D B O σ H (f env)
/-- slot i holds a list of these lambdas, which nobody else holds; f is told of the slots without it -/
def rdSB (X : Cx) (w : WX) (pn : List Nat) (i g : Nat) (q : Str) (ks : List LamId) (f : SS) : TS := fun D σ H => ∃ (B : Addr → Prop) (env : Slots) (O : List Addr) (xs : List V), Stt X.K B H σ (env.set i (some (.own (xs.map fun v => .frz (.opq v))))) O ∧ LamRs X (fun a => B a ∨ a ∈ O) H ks xs ∧ env[i]? = some none ∧ isTabs q (env[g]?) = true ∧ SPost X w pn D B O σ H (f env)
def sBlk (g i : Nat) (q : Str) (f : SS) : SS := fun env => if isTabs q (env[g]?) = true then f (env.set i none) else .no
theorem ss_blk0 {x : Str} {pos' spos : Pos} (L : LamTx X ℓ b t) (hN : X.N.Nodup) (hi : X.N[i]? = some x) (hx : Loc X.env.scope x) (hgi : g ≠ i) (hr : PSs X rest (rdSB X w pn i g ℓ.q [ℓ] f)) (hp : i ∉ pn := by decide)
    (he : starEach [Expr.Lambda t.params t.body t.scope lpos] X.env = (false, eval (.Lambda t.params t.body t.scope lpos) X.env) :: starEach [] X.env := by rfl) (hs : swapsWith (.List [.Lambda t.params t.body t.scope lpos] pos) (some (.Name x pos')) spos.line X.env = pure false := by rfl)
    (hf : X.fn x = true ∨ X.env.scope.names.lookup x = some .local := by first | exact .inl rfl | exact .inr rfl | assumption) :
    PSs X (.Assign [.Name x pos'] (.List [.Lambda t.params t.body t.scope lpos] pos) spos :: rest) (rdS X w pn (sBlk g i ℓ.q f)) := ⟨fun pins s σ H D I h => (pss_cons (ps_set hN hi hx (pe_lst1 (g := g) L he) hs hf) hr).run pins s σ H D I (by
  obtain ⟨B, env, O, st, h⟩ := h
  unfold sBlk at h
  by_cases ht : isTabs ℓ.q (env[g]?) = true
  · rw [if_pos ht] at h
    refine ⟨B, env, O, st, ht, fun a fa H2 r e lr => ?_⟩
    have lt : i < env.length := by rw [← st.len, I.len]; exact lt_of_N hi
    obtain ⟨O2, s2, f2, m2⟩ := r.putM (i := i) lt
    refine ⟨B, env.set i none, O2, [.ref fa], by rw [List.set_set]; exact s2, L.one (lr.kp (Kp.less fun y z => ?_)), List.getElem?_set_self lt, by rw [List.getElem?_set_ne (Ne.symm hgi)]; exact ht, h.later f2 (Pin.set hp)⟩
    exact z.elim (fun z => .inl (.inl z)) fun z => (m2 y z).elim (fun z => .inl (.inr z)) .inr
  · rw [if_neg ht] at h; exact h.elim)⟩
theorem LamRs.upd {W W' : Addr → Prop} {a : Addr} {ys zs : List V} (ha : H a = some (.lst ys)) (hw : ∀ b, W' b → W b) : ∀ {ks : List LamId} {xs : List V}, LamRs X W H ks xs → LamRs X W' (L2.upd H a (.lst zs)) ks xs
  | [], xs, h => h
  | ℓ :: r, xs, h => by
    obtain ⟨f, ys, b, t, e, h1, h2, ⟨c, r1, r2, r3, r4⟩, h4⟩ := h
    have n1 : f ≠ a := fun z => by rw [z, ha] at r1; exact absurd (Option.some.inj r1) (fun z => nomatch z)
    have n2 : c ≠ a := fun z => by rw [z, ha] at r3; exact absurd (Option.some.inj r3) (fun z => nomatch z)
    exact ⟨f, ys, b, t, e, h1, h2, ⟨c, by rw [upd_ne n1]; exact r1, fun z => r2 (hw _ z), by rw [upd_ne n2]; exact r3, fun z => r4 (hw _ z)⟩, LamRs.upd ha hw h4⟩
def tAppL (X : Cx) (i g : Nat) (ℓ : LamId) (ks : List LamId) : TE := fun σ H Q => ∃ (B : Addr → Prop) (env : Slots) (O : List Addr) (xs : List V), Stt X.K B H σ (env.set i (some (.own (xs.map fun v => .frz (.opq v))))) O ∧ LamRs X (fun a => B a ∨ a ∈ O) H ks xs ∧ i < env.length ∧ isTabs ℓ.q (env[g]?) = true ∧
  ∀ H2 O2 v, Stt X.K B H2 σ (env.set i (some (.own ((xs ++ [v]).map fun v => .frz (.opq v))))) O2 → Frm O H [] O2 H2 → LamRs X (fun a => B a ∨ a ∈ O2) H2 (ks ++ [ℓ]) (xs ++ [v]) → Q .non H2
theorem pe_appL {x : Str} {npos apos cpos : Pos} (L : LamTx X ℓ b t) (hN : X.N[i]? = some x) (hv : Vis X.env.scope x) (hgi : g ≠ i) (hk : ks.length < 1000 := by decide) (hd : (x == ("__debug__" : Str)) = false := by decide) (hcd : (x == ("__classdict__" : Str)) = false := by decide)
    (hbase : attributeBase (.Name x npos) "append" X.env (eval (.Name x npos) X.env) = eval (.Name x npos) X.env := by rfl)
    (hfew : ((backTo cpos (starEach [Expr.Lambda t.params t.body t.scope lpos] X.env)).all (fun x => !x.1) && (backToKw cpos (keywordEach [] X.env)).all (fun x => x.1.isSome)
      && decide ([Expr.Lambda t.params t.body t.scope lpos].length + ([] : List Keyword).length + (if ([] : List Keyword).isEmpty then 0 else 1) < 30)) = true := by rfl)
    (hline : (apos.endLine == cpos.line) = true := by rfl) (hs : starEach [Expr.Lambda t.params t.body t.scope lpos] X.env = (false, eval (.Lambda t.params t.body t.scope lpos) X.env) :: starEach [] X.env := by rfl) (hplain : (backTo cpos (starEach [] X.env)).any (·.1) = false := by rfl) :
    PE X (.Call (.Attribute (.Name x npos) "append" apos) [.Lambda t.params t.body t.scope lpos] [] cpos) (tAppL X i g ℓ ks) :=
  (pe_bm PySem.F.plainAttrs_list PySem.F.slot_list_append PySem.F.type_list_append mt_append (pe_var (i := i) hN hv hd hcd) (pa_cons (pe_lamX (g := g) L) pa_nil hs) hbase hfew hline hs hplain).imp fun σ H Q h => by
    obtain ⟨B, env, O, xs, st, lr, lt, ht, h⟩ := h
    have e0 : (env.set i (some (.own (xs.map fun v => .frz (.opq v)))))[i]? = some (some (.own (xs.map fun v => .frz (.opq v)))) := List.getElem?_set_self lt
    obtain ⟨a, xs0, A2, g1, g2, g3⟩ := st.ref0 (i := i) (l := xs.map fun v => .frz (.opq v)) (by unfold ownAt; rw [e0]; rfl)
    refine ⟨_, g1, .inl ⟨rfl, xs0, SqL.of g2⟩, B, _, O, st, by show isTabs ℓ.q _ = true; rw [List.getElem?_set_ne (Ne.symm hgi)]; exact ht, fun v H1 s1 f1 lv => ?_⟩
    have nn : ∀ {a}, a ∈ ([] : List Addr) → False := fun z => nomatch z
    obtain ⟨w0, a', xs', A2', m1, m2, m3, m4, m5, m6, m7⟩ := (s1.less (B' := fun a => B a ∨ a ∈ ([] : List Addr)) fun a z => z.elim id fun z => (nomatch z)).mut (js := []) .nil (fun _ z => (nomatch z)) f1 e0 rfl
    rw [g1] at m1
    cases m1
    have ea : V.ref a = .ref a' := m2
    cases ea
    have oq : ∀ {xs ys : List V} {A : List Addr} {W : Addr → Prop}, RepL X.K W H1 (xs.map fun v => .frz (.opq v)) ys A → ys = xs ∧ A = [] := by
      intro xs
      induction xs with
      | nil => intro ys A W z; exact z
      | cons x r ih =>
        intro ys A W z
        obtain ⟨y, zs, B1, B2, rfl, rfl, ⟨rfl, z1⟩, z2⟩ := z
        obtain ⟨rfl, rfl⟩ := ih z2
        exact ⟨by rw [show y = x from z1], rfl⟩
    obtain ⟨rfl, rfl⟩ := oq m4
    obtain ⟨O2, t1, t2, t3⟩ := m7 ((xs' ++ [v]).map fun v => .frz (.opq v)) (xs' ++ [v]) ([] ++ []) (by rw [List.map_append]; exact m4.append (RepL.one ⟨rfl, rfl⟩)) (List.nodup_nil) fun b hb => (nomatch hb)
    refine ⟨a, xs', v, rfl, rfl, m3, by rw [lr.length, sizeLine_eq]; omega, ?_⟩
    have sub : ∀ b, (B b ∨ b ∈ O2) → (B b ∨ b ∈ O) := fun b z => z.imp id fun z => (t3 b z).1.elim id fun z => (nomatch z)
    refine h _ O2 v ?_ t2 ?_
    · rw [List.set_set] at t1; exact t1
    · exact LamRs.snoc (LamRs.upd m3 sub lv) (LamRs.upd m3 sub (lr.kp fun b o hw e => ⟨(f1 b o (fun z => hw (.inr z)) e).1, hw⟩))
theorem ss_blkA {x : Str} {npos apos cpos : Pos} (L : LamTx X ℓ b t) (hN : X.N[i]? = some x) (hv : Vis X.env.scope x) (hgi : g ≠ i) (hr : PSs X rest (rdSB X w pn i g ℓ.q (ks ++ [ℓ]) f)) (hk : ks.length < 1000 := by decide) (hd : (x == ("__debug__" : Str)) = false := by decide) (hcd : (x == ("__classdict__" : Str)) = false := by decide)
    (hbase : attributeBase (.Name x npos) "append" X.env (eval (.Name x npos) X.env) = eval (.Name x npos) X.env := by rfl)
    (hfew : ((backTo cpos (starEach [Expr.Lambda t.params t.body t.scope lpos] X.env)).all (fun x => !x.1) && (backToKw cpos (keywordEach [] X.env)).all (fun x => x.1.isSome)
      && decide ([Expr.Lambda t.params t.body t.scope lpos].length + ([] : List Keyword).length + (if ([] : List Keyword).isEmpty then 0 else 1) < 30)) = true := by rfl)
    (hline : (apos.endLine == cpos.line) = true := by rfl) (hs : starEach [Expr.Lambda t.params t.body t.scope lpos] X.env = (false, eval (.Lambda t.params t.body t.scope lpos) X.env) :: starEach [] X.env := by rfl) (hplain : (backTo cpos (starEach [] X.env)).any (·.1) = false := by rfl)
    (hsw : swapsWith (.Call (.Attribute (.Name x npos) "append" apos) [.Lambda t.params t.body t.scope lpos] [] cpos) none pos.line X.env = pure false := by rfl) :
    PSs X (.Expr (.Call (.Attribute (.Name x npos) "append" apos) [.Lambda t.params t.body t.scope lpos] [] cpos) pos :: rest) (rdSB X w pn i g ℓ.q ks f) :=
  (pss_cons (ps_expr (pe_appL (g := g) (ks := ks) L hN hv hgi hk hd hcd hbase hfew hline hs hplain) hsw) hr).imp fun D σ H h => by
    obtain ⟨B, env, O, xs, st, lr, hi, ht, h⟩ := h
    have lt : i < env.length := by
      by_cases q : i < env.length
      · exact q
      · rw [List.getElem?_eq_none (by omega)] at hi; cases hi
    exact ⟨B, env, O, xs, st, lr, lt, ht, fun H2 O2 v s2 f2 l2 => ⟨B, env, O2, xs ++ [v], s2, l2, hi, ht, h.later f2 Pin.refl⟩⟩
/-- the list stands in slot i; the slots know nothing of it -/
def preL (X : Cx) (i : Nat) (ks : List LamId) : Pre := fun _ B O σ H => ∃ a xs, σ[i]? = some (some (.ref a)) ∧ H a = some (.lst xs) ∧ ¬ (B a ∨ a ∈ O) ∧ LamRs X (fun a => B a ∨ a ∈ O) H ks xs
theorem ss_blkE {q : Str} (hr : PSs X rest (rdSP X w pn (preL X i ks) f)) : PSs X rest (rdSB X w pn i g q ks f) := hr.imp fun D σ H h => by
  obtain ⟨B, env, O, xs, st, lr, hi, ht, h⟩ := h
  have lt : i < env.length := by
    by_cases q : i < env.length
    · exact q
    · rw [List.getElem?_eq_none (by omega)] at hi; cases hi
  have e0 : (env.set i (some (.own (xs.map fun v => .frz (.opq v)))))[i]? = some (some (.own (xs.map fun v => .frz (.opq v)))) := List.getElem?_set_self lt
  obtain ⟨o, A1, A2, A3, g1, rfl, ⟨x0, rfl, ⟨a, ys, A2t, rfl, rfl, ha, hl⟩⟩, put⟩ := RepE.at st.rep e0
  have oq : ∀ {xs ys : List V} {A : List Addr} {W : Addr → Prop}, RepL X.K W H (xs.map fun v => .frz (.opq v)) ys A → ys = xs ∧ A = [] := by
    intro xs
    induction xs with
    | nil => intro ys A W z; exact z
    | cons x r ih =>
      intro ys A W z
      obtain ⟨y, zs, B1, B2, rfl, rfl, ⟨rfl, z1⟩, z2⟩ := z
      obtain ⟨rfl, rfl⟩ := ih z2
      exact ⟨by rw [show y = x from z1], rfl⟩
  obtain ⟨rfl, rfl⟩ := oq hl
  have nd := st.nd
  have n1 := List.nodup_append.mp nd
  have n2 := List.nodup_append.mp n1.2.1
  have sub : ∀ b, b ∈ A1 ++ A3 → b ∈ A1 ++ ([a] ++ A3) := fun b z => by simp at z ⊢; rcases z with z | z <;> simp [z]
  have na : a ∉ A1 ++ A3 := fun z => by
    rcases List.mem_append.mp z with z | z
    · exact n1.2.2 a z a (by simp) rfl
    · exact n2.2.2 a (by simp) a z rfl
  have r2 := put (fun b => B b ∨ b ∈ A1 ++ A3) H none (some (.ref a)) [] (Kp.less fun b z => z.imp id (sub b)) (fun _ _ _ e => e) rfl
  rw [List.set_set, set_same hi, set_same g1] at r2
  refine ⟨B, env, A1 ++ A3, ⟨by simpa using r2, List.nodup_append.mpr ⟨n1.1, n2.2.1, fun x hx y hy e => n1.2.2 x hx y (by simp [hy]) e⟩, fun x hx => st.dj x (sub x hx), st.tr⟩, ⟨a, ys, g1, ha, fun z => z.elim (st.dj a (by simp)) na, lr.kp (Kp.less fun b z => z.imp id (sub b))⟩, h.later (fun b o hw e => ⟨e, fun z => z.elim (fun z => nomatch z) fun z => hw (sub b z)⟩) Pin.refl⟩
theorem pe_nameL {x : Str} {p : Pos} (hN : X.N[i]? = some x) (hv : Vis X.env.scope x) (hd : (x == ("__debug__" : Str)) = false := by decide) (hcd : (x == ("__classdict__" : Str)) = false := by decide) : PE X (.Name x p) (tLX X (preL X i ks) false ks) :=
  (pe_var (i := i) hN hv hd hcd).imp fun σ H Q h => by
    obtain ⟨B, env, O, st, ⟨a, xs, h1, h2, h3, h4⟩, h⟩ := h
    exact ⟨_, h1, h _ H st (fun x o hw hx => ⟨hx, fun z => z.elim (fun z => nomatch z) hw⟩) ⟨a, xs, rfl, h2, h3, h4⟩⟩
end
end PL
namespace PL
open PySem PySem.Spec PyProof.Rows L2
def outT (X : Cx) (w : WX) (B : Addr → Prop) (O : List Addr) (σ : L2.St) (H : Hp) (Q : Bool → Hp → Prop) : Out Bool → Prop
  | .ok b env' => ∀ H' O', Stt X.K B H' σ env' O' → Frm O H [] O' H' → Q b H'
  | .err x env' => ∀ cls d H' O', XRes X.K X.mg B O H σ x env' cls d H' O' → w cls d σ H'
  | .no => False
def rdTP (X : Cx) (w : WX) (pre : Pre) (f : M Bool) : TT := fun σ H Q => ∃ B env O, Stt X.K B H σ env O ∧ pre env B O σ H ∧ outT X w B O σ H Q (f env)
section
variable {X : Cx} {w : WX} {pn : List Nat} {H : Hp} {σ : L2.St} {pre : Pre} {e a b c : Expr} {f g : M C} {s t : M Bool} {pos : Pos} {rest : List Expr} {st : Stmt} {ss : List Stmt}
theorem tp_val (h : PE X e (rdEP X w pre f)) (he : ∀ whole, isTrue e X.env whole = (do let v ← whole; standAt e.pos; holding [v] (truthy v)) := by intro _; rfl) : PT X e (rdTP X w pre (tOfE f)) := (pt_val h he).imp fun σ H Q h => by
  obtain ⟨B, env, O, st, hp, h⟩ := h
  refine ⟨B, env, O, st, hp, ?_⟩
  unfold tOfE at h
  cases ef : f env with
  | no => rw [ef] at h; exact h.elim
  | err x e => rw [ef] at h; exact h
  | ok c e1 =>
    rw [ef] at h
    simp only [Out.bind] at h
    intro v H' A O' r
    cases c with
    | frz d =>
      cases d with
      | bl b =>
        obtain ⟨eA, hv⟩ := r.rep
        subst eA
        exact ⟨b, hv, h H' O' (r.stt.less fun a z => .inl z) r.frm⟩
      | _ => exact h.elim
    | _ => exact h.elim
theorem rdTP_then {k : Bool → M Bool} {Q : Bool → Hp → Prop} (h : rdTP X w pre (fun env => (s env).bind fun b e1 => k b e1) σ H Q) : rdTP X w pre s σ H fun c H1 => rdT X w (k c) σ H1 Q := by
  obtain ⟨B, env, O, st, hp, h⟩ := h
  refine ⟨B, env, O, st, hp, ?_⟩
  simp only [] at h
  cases es : s env with
  | no => rw [es] at h; exact h.elim
  | err x e => rw [es] at h; exact h
  | ok c e1 =>
    rw [es] at h
    simp only [Out.bind] at h
    intro H1 O1 s1 f1
    refine ⟨B, e1, O1, s1, ?_⟩
    cases ek : k c e1 with
    | no => rw [ek] at h; exact h.elim
    | err x e =>
      rw [ek] at h
      intro cls d H' O' x2
      exact h cls d H' O' ⟨x2.cls, x2.fs, x2.stt, f1.seq' x2.frm⟩
    | ok c2 e2 =>
      rw [ek] at h
      intro H2 O2 s2 f2
      exact h H2 O2 s2 (f1.seq' f2)
theorem rdTP_imp {Q Q' : Bool → Hp → Prop} (h : rdTP X w pre s σ H Q) (i : ∀ b H, Q b H → Q' b H) : rdTP X w pre s σ H Q' := by
  obtain ⟨B, env, O, st, hp, h⟩ := h
  refine ⟨B, env, O, st, hp, ?_⟩
  cases es : s env with
  | no => rw [es] at h; exact h
  | err x e => rw [es] at h; exact h
  | ok c e1 =>
    rw [es] at h
    intro H' O' s1 f1
    exact i _ _ (h H' O' s1 f1)
theorem tp_not (ha : PT X a (rdTP X w pre s)) : PT X (.UnaryOp .Not a pos) (rdTP X w pre (tNot s)) := (pt_not ha).imp fun σ H Q h => rdTP_imp (rdTP_then (k := fun b e1 => .ok (!b) e1) h) fun c H1 h3 => rdT_ok h3
theorem rdTP_s {k : Bool → Slots → SOut} {D : Ends} {Q : Bool → Hp → Prop} {B : Addr → Prop} {env : Slots} {O : List Addr} (st : Stt X.K B H σ env O) (hp : pre env B O σ H) (h : SPost X w pn D B O σ H (sOf (s env) k))
    (i : ∀ c e H' O', Stt X.K B H' σ e O' → Frm O H [] O' H' → SPost X w pn D B O σ H (k c e) → Q c H') : rdTP X w pre s σ H Q := by
  refine ⟨B, env, O, st, hp, ?_⟩
  unfold sOf at h
  cases ef : s env with
  | no => rw [ef] at h; exact h
  | err x e => rw [ef] at h; exact fun cls d H' O' x => h σ cls d H' O' x Pin.refl
  | ok c e => rw [ef] at h; exact fun H' O' s' f' => i c e H' O' s' f' h
theorem sp_if {c : Expr} {a b : List Stmt} {f g : SS} (hc : PT X c (rdTP X w pre s)) (ha : SsOk X w pn a f) (hb : SsOk X w pn b g) : PS X (.If c a b pos) (rdSP X w pn pre (sIf s f g)) := (ps_if hc ha hb).imp fun D σ H h => by
  obtain ⟨B, env, O, st, hp, h⟩ := h
  refine rdTP_s st hp h fun c e H' O' s' f' h => ?_
  cases c with
  | true => exact iteT ⟨B, e, O', s', SPost.later f' Pin.refl h⟩
  | false => exact iteF ⟨B, e, O', s', SPost.later f' Pin.refl h⟩
theorem sp_ret (he : PE X e (rdEP X w pre f)) : PS X (.Return (some e) pos) (rdSP X w pn pre (sRet f)) := (ps_ret he).imp fun D σ H h => by
  obtain ⟨B, env, O, st, hp, h⟩ := h
  refine ⟨B, env, O, st, hp, ?_⟩
  unfold sRet sOf at h
  cases ef : f env with
  | no => rw [ef] at h; exact h
  | err x e => rw [ef] at h; exact fun cls d H' O' x => h σ cls d H' O' x Pin.refl
  | ok c e => rw [ef] at h; exact fun v H' A O' r => h σ v H' A O' r Pin.refl
theorem ssp_one {f : SS} (h : PS X st (rdSP X w pn pre f)) : PSs X [st] (rdSP X w pn pre f) := pss_one h
theorem ssp_cons {f g : SS} (h1 : PS X st (rdSP X w pn pre f)) (h2 : SsOk X w pn ss g) : PSs X (st :: ss) (rdSP X w pn pre (sSeq f g)) := (pss_cons h1 h2).imp fun D σ H h => by
  obtain ⟨B, env, O, s, hp, h⟩ := h
  exact ⟨B, env, O, s, hp, h.seq⟩
/-- .. where the slots tell all that is asked -/
def eTab (g : Nat) (q : Str) (f : M C) : M C := fun env => if isTabs q (env[g]?) = true then f env else .no
theorem e_tab {g : Nat} {q : Str} (h : PE X e (rdEP X w (preT g q) f)) : EOk X w e (eTab g q f) := h.imp fun σ H Q h => by
  obtain ⟨B, env, O, st, h⟩ := h
  unfold eTab at h
  by_cases ht : isTabs q (env[g]?) = true
  · rw [if_pos ht] at h
    refine ⟨B, env, O, st, ht, ?_⟩
    cases ef : f env with
    | no => rw [ef] at h; exact h
    | err x e => rw [ef] at h; exact h
    | ok c e => rw [ef] at h; exact h
  · rw [if_neg ht] at h; exact h.elim
end
end PL
namespace PL
open PySem PySem.Spec PyProof.Rows L2
abbrev Cl := Value × Option Nat × (Addr → Value → Option Addr → TS)
/-- the ends behind a clause with a name: its slot is emptied -/
def endsAs (D : Ends) : Option Nat → Ends
  | none => D
  | some i => { nx := fun σ' H' => D.nx (σ'.set i none) H', rt := D.rt, bk := fun σ' H' => D.bk (σ'.set i none) H', ct := fun σ' H' => D.ct (σ'.set i none) H' }
def setAs (a : Addr) (σ : L2.St) : Option Nat → L2.St
  | none => σ
  | some i => σ.set i (some (.ref a))
def wCl (K : PySem.W.Frag) (W : WX) (D : Ends) : List Cl → WX
  | [] => W
  | (c, oi, ts) :: r => fun cls d σ H => ∃ b, PySem.W.exmOne K cls c = some b ∧ (b = true → ∀ a, H a = none → ts a cls d (endsAs D oi) (setAs a σ oi) H) ∧ (b = false → wCl K W D r cls d σ H)
/-- a clause's suite -/
abbrev SuOk (X : Cx) (suite : List Stmt) (ts : Addr → Value → Option Addr → TS) : Prop := ∀ (a : Addr) (oe : Obj) (cls : Value) (d : Option Addr) (pn : List (Addr × Obj)), Zc cls d oe → (∃ vs, oe.data = .fields vs) → PSs (X.suite a ((a, oe) :: pn)) suite (ts a cls d)
inductive ClsOk (X : Cx) : List ExceptHandler → List Cl → Prop
  | nil : ClsOk X [] []
  | bare {x : Str} {c : Value} {ts : Addr → Value → Option Addr → TS} {s0 : Stmt} {su : List Stmt} {np p : Pos} {hds : List ExceptHandler} {l : List Cl} (hc : Names X x c) (hsu : SuOk X (s0 :: su) ts) (r : ClsOk X hds l) :
      ClsOk X (.ExceptHandler (some (.Name x np)) none (s0 :: su) p :: hds) ((c, none, ts) :: l)
  | named {x n : Str} {i : Nat} {c : Value} {ts : Addr → Value → Option Addr → TS} {s0 : Stmt} {su : List Stmt} {np p : Pos} {hds : List ExceptHandler} {l : List Cl} (hc : Names X x c) (hi : X.N[i]? = some n) (hn : X.env.kindOf n = some .local) (hsu : SuOk X (s0 :: su) ts) (r : ClsOk X hds l) :
      ClsOk X (.ExceptHandler (some (.Name x np)) (some n) (s0 :: su) p :: hds) ((c, some i, ts) :: l)
section
variable {X : Cx} {body : List Stmt} {hd : ExceptHandler} {hds : List ExceptHandler} {l : List Cl} {pos : Pos} {tb : WX → TS} {Wo : WX}
theorem ps_tryC (hs : X.stack = X.env :: X.outer) (hf : X.env.frame = some X.env.locals) (hN : X.N.Nodup) (tk : Takes X Wo)
    (hb : ∀ (W : WX) (pn : List (Addr × Obj)) (xe : Value → Shared → Prop), Takes (X.tr pn xe) W → PassesOwn (model X.prog X.w) X.A X.env xe → PSs (X.tr pn xe) body (tb W)) (hh : ClsOk X (hd :: hds) l) :
    PS X (.Try body (hd :: hds) [] [] pos) (fun D σ H => tb (wCl X.K Wo D l) D σ H) := by
  refine ⟨fun pins s σ H D I h => ?_⟩
  have ok := I.ok
  have fr0 : X.A.frames = some (X.env :: X.outer) := by rw [ok.frames, hs]
  let xe : Value → Shared → Prop := fun e s₁ => wpAny (model X.prog X.w) X.A (noteFrame e X.env) (fun _ s₂ => wpAny (model X.prog X.w) X.A (setFlight e none) (fun _ s₃ => wpAny (model X.prog X.w) X.A (handleBy e X.env (hd :: hds)) (SP X pins D) X.xe s₃) X.xe s₂) X.xe s₁
  have run := (hb (wCl X.K Wo D l) (X.pn ++ pins) xe (fun u s' xx => ?_) PassesOwn.looking).run [] s σ H D (I.toTry _) h
  · refine wpAny_Try_except (wpAny_mono run (fun f s1 hsp => ?_) fun e s1 he => he)
    cases f with
    | next =>
      obtain ⟨τ, H1, J, q⟩ := hsp
      exact wpAny_execs_nil ⟨τ, H1, J.ofTry ok, q⟩
    | brk =>
      obtain ⟨τ, H1, J, q⟩ := hsp
      exact ⟨τ, H1, J.ofTry ok, q⟩
    | cont =>
      obtain ⟨τ, H1, J, q⟩ := hsp
      exact ⟨τ, H1, J.ofTry ok, q⟩
    | ret u =>
      obtain ⟨v, τ, H1, J, r, q⟩ := hsp
      exact ⟨v, τ, H1, J.ofTry ok, r, q⟩
  · obtain ⟨a, B, sI, pins1, τ, H1, cls, d, rfl, J1, nb, up, sky, na, os, ag, want⟩ := xx
    have J : Inv X pins τ H1 sI := J1.ofTry ok
    have sk : Sky B (X.env :: X.outer) a (Zc cls d) X.env.locals s'.heap := by rw [← hs]; exact sky
    show wpAny (model X.prog X.w) X.A (noteFrame (.ref a) X.env) _ _ _
    refine Sky.land Zc.steady fr0 hf sk fun h3 fl3 up3 => ?_
    have J3 : Inv X pins τ H1 { s' with heap := h3 } := J.landed nb fl3.1 (up.trans up3) os ag
    obtain ⟨o3, v3, ho3, hz3, hd3⟩ := fl3.there
    have nfr : a ∉ frs (X.env :: X.outer) := fun hm => by
      obtain ⟨_, o', e', hnf⟩ := fl3.2.2.1.mem hm
      rw [ho3] at e'; cases e'
      exact hnf _ hd3
    have nL : a ≠ X.env.locals := fun z => nfr (List.mem_filterMap.mpr ⟨X.env, List.mem_cons_self, by rw [hf, z]⟩)
    have nF : a ∉ X.fs := fun hm => by
      obtain ⟨e, he, q⟩ := List.mem_filterMap.mp hm
      exact nfr (List.mem_filterMap.mpr ⟨e, List.mem_cons_of_mem _ he, q⟩)
    have S3 := J3.suite ho3 hd3 na nL nF
    have LT : PySem.W.Looks (model X.prog X.w) h3 (typeOf (.ref a)) cls := fun A Q E s k q => wpAny_typeOf_ref (k _ _ ho3) (by rw [hz3.1]; exact q)
    have look : ∀ {x : Str} {c : Value} {np : Pos} {Q E : Value → Shared → Prop}, Names X x c → Q c { s' with heap := h3 } → wpAny (model X.prog X.w) (X.A.mark (some (.ref a))) (eval (.Name x np) X.env) Q E { s' with heap := h3 } := fun {x c np Q E} hc q => by
      obtain ⟨hg, hdb, hm | ⟨hm, hv, hnn⟩⟩ := hc
      · exact ld_glob (X := X.suite a ((a, o3) :: (X.pn ++ pins))) S3 hg hm q hdb
      · exact ld_blt (X := X.suite a ((a, o3) :: (X.pn ++ pins))) S3 hg hm hv q hnn hdb
    have all : ∀ {hds' : List ExceptHandler} {l' : List Cl}, ClsOk X hds' l' → wCl X.K Wo D l' cls d τ H1 → wpAny (model X.prog X.w) X.A (handleBy (.ref a) X.env hds') (SP X pins D) X.xe { s' with heap := h3 } := by
      intro hds' l' hk
      induction hk with
      | nil =>
        intro want
        refine wpAny_handleBy_nil ?_
        obtain ⟨_, _, _, o4, v4, T, _, _, ho4, _, hd4, ht4, _⟩ := id fl3
        unfold PySem.passOn
        refine wpAny_bind (wpAny_field ho4 hd4 ht4 ?_)
        rw [if_neg (show ¬ ((Value.ref T == Value.none) = true) from by simp)]
        have fin : wpAny (model X.prog X.w) X.A (setFlight (.ref a) X.env.frame) (fun _ s4 => wpAny (model X.prog X.w) X.A (throw (.ref a) : Sem Flow) (SP X pins D) X.xe s4) X.xe { s' with heap := h3 } := by
          rw [hf]
          refine HandSPX.setFlight_upZ fl3 fun h4 hh4 up4 => wpAny_throw (tk _ _ ?_)
          exact ⟨a, B, sI, pins, τ, H1, cls, d, rfl, J, nb, (up.trans up3).trans up4, .inr (.inr (by rw [hs]; exact hh4)), na, os, ag, want⟩
        first
          | exact wpAny_bind (wpAny_pure (wpAny_bind fin))
          | exact wpAny_bind fin
      | bare hc hsu r ih =>
        rintro ⟨b, hb1, yes, no⟩
        refine wpAny_handleBy_cons (codeAny_handlers_test (look hc ((PySem.W.exm_one (M := model X.prog X.w) (J3.kIn) LT hb1).here ?_))) (by intro q; cases q)
        cases b with
        | false => exact ih (no rfl)
        | true =>
          refine codeAny_handlers_suite (HandSPX.lands_againZ fl3 fun h4 fl4 up4 => ?_)
          have J4 : Inv X pins τ H1 { s' with heap := h4 } := J.landed nb fl4.1 ((up.trans up3).trans up4) os ag
          obtain ⟨o4, v4, ho4, hz4, hd4⟩ := fl4.there
          refine wpAny_mono ((hsu a o4 cls d (X.pn ++ pins) hz4 ⟨_, hd4⟩).run [] _ _ H1 _ (J4.suite ho4 hd4 na nL nF) (yes rfl a na)) (fun f s6 hsp => ?_) fun _ _ z => False.elim z
          cases f with
          | next => obtain ⟨τ6, H6, S6, q6⟩ := hsp; exact ⟨_, _, S6.unsuite ok, q6⟩
          | brk => obtain ⟨τ6, H6, S6, q6⟩ := hsp; exact ⟨_, _, S6.unsuite ok, q6⟩
          | cont => obtain ⟨τ6, H6, S6, q6⟩ := hsp; exact ⟨_, _, S6.unsuite ok, q6⟩
          | ret u => obtain ⟨v6, τ6, H6, S6, r6, q6⟩ := hsp; exact ⟨_, _, _, S6.unsuite ok, r6, q6⟩
      | named hc hi hn hsu r ih =>
        rintro ⟨b, hb1, yes, no⟩
        refine wpAny_handleBy_cons (codeAny_handlers_test (look hc ((PySem.W.exm_one (M := model X.prog X.w) (J3.kIn) LT hb1).here ?_))) (by intro q; cases q)
        cases b with
        | false => exact ih (no rfl)
        | true =>
          refine codeAny_handlers_suite_as (HandSPX.lands_againZ fl3 fun h4 fl4 up4 => ?_)
          have J4 : Inv X pins τ H1 { s' with heap := h4 } := J.landed nb fl4.1 ((up.trans up3).trans up4) os ag
          obtain ⟨o4, v4, ho4, hz4, hd4⟩ := fl4.there
          refine store_ok (X := X.suite a ((a, o4) :: (X.pn ++ pins))) (v := .ref a) (J4.suite ho4 hd4 na nL nF) hN hi (.inl hn) rfl (fun s5 S5 => ?_) (.inr hn)
          refine wpAny_mono ((hsu a o4 cls d (X.pn ++ pins) hz4 ⟨_, hd4⟩).run [] s5 _ H1 _ S5 (yes rfl a na)) (fun f s6 hsp => ?_) fun _ _ z => False.elim z
          cases f with
          | next => obtain ⟨τ6, H6, S6, q6⟩ := hsp; exact gone_ok (S6.unsuite ok) hN hi hn fun s7 J7 => ⟨_, _, J7, q6⟩
          | brk => obtain ⟨τ6, H6, S6, q6⟩ := hsp; exact gone_ok (S6.unsuite ok) hN hi hn fun s7 J7 => ⟨_, _, J7, q6⟩
          | cont => obtain ⟨τ6, H6, S6, q6⟩ := hsp; exact gone_ok (S6.unsuite ok) hN hi hn fun s7 J7 => ⟨_, _, J7, q6⟩
          | ret u => obtain ⟨v6, τ6, H6, S6, r6, q6⟩ := hsp; exact gone_ok (S6.unsuite ok) hN hi hn fun s7 J7 => ⟨_, _, _, J7, r6, q6⟩
    exact all hh want
end
end PL
namespace PL
open PySem PySem.Spec PyProof.Rows L2
/-- the clauses, one after the other (mro: the classes that the exception's class comes from) -/
def runH (mro : List Str) (x : Exn) : List (Str × (Exn → SS)) → SS
  | [] => fun e => .err x e
  | (c, h) :: r => fun e => if mro.contains c = true then h x e else runH mro x r e
def sTry (tbl : List (Str × List Str)) (f : SS) (hs : List (Str × (Exn → SS))) : SS := fun env => match f env with
  | .err x e => match tbl.lookup x.cls with
    | some mro => runH mro x hs e
    | none => .no
  | o => o
/-- a clause whose name has slot i -/
def hAs (i : Nat) (h : Exn → SS) : Exn → SS := fun x e => match h x (e.set i none) with
  | .nx e' => .nx (e'.set i none)
  | .rt c e' => .rt c e'
  | _ => .no
/-- a clause without name -/
def hBare (h : SS) : Exn → SS := fun _ e => match h e with
  | .nx e' => .nx e'
  | .rt c e' => .rt c e'
  | _ => .no
section
variable {X : Cx} {w : WX} {pn : List Nat} {H : Hp} {σ : L2.St} {B : Addr → Prop} {O : List Addr} {env : Slots}
/-- what a suite knows: the exception x lies at a (slot i), its class is cls, its dict d -/
def PreX (X : Cx) (tbl : List (Str × List Str)) (a : Addr) (x : Exn) (cls : Value) (d : Option Addr) (oi : Option Nat) (env : Slots) (B : Addr → Prop) (O : List Addr) (σ : L2.St) (H : Hp) : Prop :=
  (∃ m, (x.cls, m) ∈ tbl) ∧ X.mg x.cls = some cls ∧ XFs X.K (fun a => B a ∨ a ∈ O) H x d ∧ match oi with
    | none => True
    | some i => σ[i]? = some (some (.ref a)) ∧ env[i]? = some none
def tsH (X : Cx) (tbl : List (Str × List Str)) (pn : List Nat) (oi : Option Nat) (h : Exn → SS) (a : Addr) (cls : Value) (d : Option Addr) : TS := fun D σ H => ∃ B env O x, Stt X.K B H σ env O ∧ PreX X tbl a x cls d oi env B O σ H ∧ SPost X (fun _ _ _ _ => False) pn D B O σ H (h x env)
/-- the clauses' texts -/
inductive ClsS (X : Cx) (pn : List Nat) (tbl : List (Str × List Str)) : List ExceptHandler → List (Str × (Exn → SS)) → Prop
  | nil : ClsS X pn tbl [] []
  | bare {c : Str} {cv : Value} {h : SS} {s0 : Stmt} {su : List Stmt} {np p : Pos} {hds : List ExceptHandler} {hs : List (Str × (Exn → SS))} (hc : Names X c cv) (ht : ∀ y ∈ tbl, ∃ xv, X.mg y.1 = some xv ∧ PySem.W.exmOne X.K xv cv = some (y.2.contains c))
      (hsu : SuOk X (s0 :: su) (tsH X tbl pn none fun _ => h)) (r : ClsS X pn tbl hds hs) : ClsS X pn tbl (.ExceptHandler (some (.Name c np)) none (s0 :: su) p :: hds) ((c, hBare h) :: hs)
  | named {c n : Str} {i : Nat} {cv : Value} {h : Exn → SS} {s0 : Stmt} {su : List Stmt} {np p : Pos} {hds : List ExceptHandler} {hs : List (Str × (Exn → SS))} (hc : Names X c cv) (ht : ∀ y ∈ tbl, ∃ xv, X.mg y.1 = some xv ∧ PySem.W.exmOne X.K xv cv = some (y.2.contains c))
      (hi : X.N[i]? = some n) (hn : X.env.kindOf n = some .local) (hp : i ∉ pn) (hsu : SuOk X (s0 :: su) (tsH X tbl pn (some i) h)) (r : ClsS X pn tbl hds hs) : ClsS X pn tbl (.ExceptHandler (some (.Name c np)) (some n) (s0 :: su) p :: hds) ((c, hAs i h) :: hs)
theorem lookup_mem {tbl : List (Str × List Str)} {x : Str} {m : List Str} (h : tbl.lookup x = some m) : (x, m) ∈ tbl := PySem.mem_of_lookup h
/-- a slot emptied -/
theorem Stt.drop {i : Nat} {o : Option V} {K : PySem.W.Frag} (s : Stt K B H σ env O) (hi : i < env.length) : ∃ O', Stt K B H (σ.set i o) (env.set i none) O' ∧ ∀ a, a ∈ O' → a ∈ O := by
  obtain ⟨o1, A1, A2, A3, g1, rfl, g3, put⟩ := RepE.at s.rep (List.getElem?_eq_getElem hi)
  have n1 := List.nodup_append.mp s.nd
  have n2 := List.nodup_append.mp n1.2.1
  have sub : ∀ b, b ∈ A1 ++ A3 → b ∈ A1 ++ (A2 ++ A3) := fun b z => by simp at z ⊢; rcases z with z | z <;> simp [z]
  have r := put (fun b => B b ∨ b ∈ A1 ++ A3) H none o [] (Kp.less fun b z => z.imp id (sub b)) (fun _ _ _ e => e) rfl
  exact ⟨A1 ++ A3, ⟨by simpa using r, List.nodup_append.mpr ⟨n1.1, n2.2.1, fun x hx y hy e => n1.2.2 x hx y (by simp [hy]) e⟩, fun x hx => s.dj x (sub x hx), s.tr⟩, sub⟩
theorem Frm.of_sub {O' : List Addr} (h : ∀ a, a ∈ O' → a ∈ O) : Frm O H [] O' H := fun a o hw e => ⟨e, fun z => z.elim (fun z => nomatch z) fun z => hw (h a z)⟩
theorem clsS_ok {D : Ends} {tbl : List (Str × List Str)} : ∀ {hds : List ExceptHandler} {hs : List (Str × (Exn → SS))}, ClsS X pn tbl hds hs → ∃ l, ClsOk X hds l ∧
    ∀ (D : Ends) (B : Addr → Prop) (O : List Addr) (σ : L2.St) (H : Hp) (x : Exn) (m : List Str) (e : Slots) (cls : Value) (d : Option Addr), (x.cls, m) ∈ tbl → X.N.length = e.length → Stt X.K B H σ e O → X.mg x.cls = some cls → XFs X.K (fun a => B a ∨ a ∈ O) H x d → SPost X w pn D B O σ H (runH m x hs e) → wCl X.K w D l cls d σ H := by
  intro hds hs h
  induction h with
  | nil =>
    refine ⟨[], .nil, fun D B O σ H x m e cls d hm hl s hc hx h => ?_⟩
    exact h σ cls d H O (XRes.mk' hc hx s Frm.refl) Pin.refl
  | @bare c cv h s0 su np p hds hs hc ht hsu r ih =>
    obtain ⟨l, h1, h2⟩ := ih
    refine ⟨(cv, none, tsH X tbl pn none fun _ => h) :: l, .bare hc hsu h1, fun D B O σ H x m e cls d hm hl s hcl hx hp => ?_⟩
    obtain ⟨xv, k1, k2⟩ := ht _ hm
    rw [hcl] at k1; cases k1
    refine ⟨_, k2, fun y a na => ?_, fun y => ?_⟩
    · unfold runH at hp
      rw [if_pos y] at hp
      refine ⟨B, e, O, x, s, ⟨⟨_, hm⟩, hcl, hx, trivial⟩, ?_⟩
      unfold hBare at hp
      show SPost X (fun _ _ _ _ => False) pn D B O σ H (h e)
      cases eh : h e with
      | nx e' => rw [eh] at hp; exact hp
      | rt c e' => rw [eh] at hp; exact hp
      | bk e' => rw [eh] at hp; exact hp.elim
      | ct e' => rw [eh] at hp; exact hp.elim
      | err x e' => rw [eh] at hp; exact hp.elim
      | no => rw [eh] at hp; exact hp
    · unfold runH at hp
      rw [if_neg (by rw [y]; exact Bool.false_ne_true)] at hp
      exact h2 D B O σ H x m e cls d hm hl s hcl hx hp
  | @named c n i cv h s0 su np p hds hs hc ht hi hn hpn hsu r ih =>
    obtain ⟨l, h1, h2⟩ := ih
    refine ⟨(cv, some i, tsH X tbl pn (some i) h) :: l, .named hc hi hn hsu h1, fun D B O σ H x m e cls d hm hl s hcl hx hp => ?_⟩
    obtain ⟨xv, k1, k2⟩ := ht _ hm
    rw [hcl] at k1; cases k1
    refine ⟨_, k2, fun y a na => ?_, fun y => ?_⟩
    · unfold runH at hp
      rw [if_pos y] at hp
      have lt : i < e.length := by rw [← hl]; exact lt_of_N hi
      have ltσ : i < σ.length := by rw [s.len]; exact lt
      obtain ⟨O1, s1, sub⟩ := s.drop (i := i) (o := some (.ref a)) lt
      refine ⟨B, e.set i none, O1, x, s1, ⟨⟨_, hm⟩, hcl, hx.less fun b z => z.imp id (sub b), List.getElem?_set_self ltσ, List.getElem?_set_self lt⟩, ?_⟩
      have f0 : Frm O H [] O1 H := Frm.of_sub sub
      unfold hAs at hp
      have pin : ∀ {τ : L2.St} {o : Option V}, Pin pn (σ.set i (some (.ref a))) τ → Pin pn σ (τ.set i o) := fun {τ o} q => by
        refine ⟨by rw [List.length_set, q.1, List.length_set], fun j hj => ?_⟩
        have : i ≠ j := fun z => hpn (z ▸ hj)
        rw [List.getElem?_set_ne this, q.2 j hj, List.getElem?_set_ne this]
      have pin' : ∀ {τ : L2.St}, Pin pn (σ.set i (some (.ref a))) τ → Pin pn σ τ := fun {τ} q => by
        refine ⟨by rw [q.1, List.length_set], fun j hj => ?_⟩
        have : i ≠ j := fun z => hpn (z ▸ hj)
        rw [q.2 j hj, List.getElem?_set_ne this]
      show SPost X (fun _ _ _ _ => False) pn (endsAs D (some i)) B O1 (σ.set i (some (.ref a))) H (h x (e.set i none))
      cases eh : h x (e.set i none) with
      | nx e' =>
        rw [eh] at hp
        intro τ H' O2 s2 f2 q
        have lt2 : i < e'.length := by rw [← s2.len, q.1, List.length_set]; exact ltσ
        obtain ⟨O3, s3, sub3⟩ := s2.drop (i := i) (o := none) lt2
        exact hp _ H' O3 s3 ((f0.seq' f2).sub sub3) (pin q)
      | rt c e' =>
        rw [eh] at hp
        intro τ v H' A O2 r q
        have lt2 : i < e'.length := by rw [← r.stt.len, q.1, List.length_set]; exact ltσ
        exact hp τ v H' A O2 ⟨r.rep, r.stt, r.nd, r.dj, f0.seq' r.frm⟩ (pin' q)
      | bk e' => rw [eh] at hp; exact hp.elim
      | ct e' => rw [eh] at hp; exact hp.elim
      | err x e' => rw [eh] at hp; exact hp.elim
      | no => rw [eh] at hp; exact hp
    · unfold runH at hp
      rw [if_neg (by rw [y]; exact Bool.false_ne_true)] at hp
      exact h2 D B O σ H x m e cls d hm hl s hcl hx hp
theorem s_try {tbl : List (Str × List Str)} {body : List Stmt} {hd : ExceptHandler} {hds : List ExceptHandler} {hs : List (Str × (Exn → SS))} {f : SS} {pos : Pos} (hst : X.stack = X.env :: X.outer) (hfr : X.env.frame = some X.env.locals) (hN : X.N.Nodup) (tk : Takes X w)
    (hb : ∀ (W : WX) (pnn : List (Addr × Obj)) (xe : Value → Shared → Prop), Takes (X.tr pnn xe) W → PSs (X.tr pnn xe) body (rdS X W pn f)) (hh : ClsS X pn tbl (hd :: hds) hs) : SOk X w pn (.Try body (hd :: hds) [] [] pos) (sTry tbl f hs) := by
  obtain ⟨l, h1, h2⟩ := clsS_ok (w := w) (D := ⟨fun _ _ => True, fun _ _ => True, fun _ _ => True, fun _ _ => True⟩) hh
  refine ⟨fun pins s σ H D I h => ?_⟩
  refine (ps_tryC hst hfr hN tk (fun W pnn xe t _ => hb W pnn xe t) h1).run pins s σ H D I ?_
  obtain ⟨B, env, O, st, h⟩ := h
  refine ⟨B, env, O, st, ?_⟩
  unfold sTry at h
  cases ef : f env with
  | nx e => rw [ef] at h; exact h
  | rt c e => rw [ef] at h; exact h
  | bk e => rw [ef] at h; exact h
  | ct e => rw [ef] at h; exact h
  | no => rw [ef] at h; exact h
  | err x e =>
    rw [ef] at h
    simp only [] at h
    intro τ cls d H' O' r q
    cases em : tbl.lookup x.cls with
    | none => rw [em] at h; exact h.elim
    | some m =>
      rw [em] at h
      have hl : X.N.length = e.length := by rw [← r.stt.len, q.1, I.len]
      exact h2 D B O' τ H' x m e cls d (lookup_mem em) hl r.stt r.cls r.xfs (h.later r.frm q)
end
end PL
namespace PL
open PySem PySem.Spec PySem.Calls PyProof.Rows PySem.W
theorem ans_true {K : Frag} {x t c : Value} {P : Heap → Prop} (ty : ∀ (M : Model) (h : Heap), K.In h → P h → Looks M h (typeOf x) t) (e : kitOne K t c = some true) : Answers (fun s => K.In s.heap ∧ P s.heap) x c true := by
  intro dep tk prog w A R s hs
  obtain ⟨hp, gs, dr, ts, oss⟩ := s
  obtain ⟨⟨XK, p⟩, fin⟩ := hs
  have look := ty (model prog w) hp XK p
  unfold Builtin.«isinstance.nested»
  refine wpAny_bind (look.at ?_)
  unfold kitOne at e
  by_cases same : (t == c) = true
  · rw [if_pos same]
    first
      | ((repeat lk); exact fin ts)
      | exact wpAny_bind (wpAny_rule (fin ts))
      | exact wpAny_bind (wpAny_rule (wpAny_pure (fin ts)))
  · rw [if_neg same] at e ⊢
    obtain ⟨k1, k2, k3⟩ := kit_cls (M := model prog w) XK e
    have sub : Looks (model prog w) hp (isInstance x c) true := look.andThen k3
    refine wpAny_bind (k1.at ?_)
    rw [if_pos (by decide)]
    k_delta "plainIsInstance"
    refine wpAny_bind (wpAny_bind (k2.at ?_))
    simp only [Bool.not_true, Bool.false_eq_true, if_false]
    refine wpAny_bind (sub.at ?_)
    first
      | exact wpAny_pure (wpAny_pure (fin ts))
      | (simp only [if_true]; first | exact wpAny_pure (wpAny_pure (fin ts)) | exact wpAny_pure (fin ts) | exact wpAny_bind (wpAny_pure (wpAny_pure (fin ts))))
theorem isi_true {K : Frag} {x t c : Value} {P : Heap → Prop} {prog : Program} {w : World} {A : Around} {E : Value → Shared → Prop} {s : Shared} {Q : Value → Shared → Prop} (ty : ∀ (M : Model) (h : Heap), K.In h → P h → Looks M h (typeOf x) t) (e : kitOne K t c = some true) (XK : K.In s.heap) (p : P s.heap)
    (hx : x ≠ .builtin "__main__.__loader__#opaque") (h : ∀ tk, Q (.bool true) { s with toks := tk }) : wpAny (model prog w) A (call (.builtin "isinstance") [x, c]) Q E s :=
  call_isinstance (S := fun _ R s => (K.In s.heap ∧ P s.heap) ∧ ∀ tk, R (.ok (.ret (.bool true))) { s with toks := tk }) (fun prog w A R s hs => isinstance_outer (ans_true ty e 0 _ prog w A R s hs) hx) ⟨⟨XK, p⟩, h⟩
end PL
namespace PL
open PySem PySem.Spec PyProof.Rows L2
section
variable {X : Cx} {tbl : List (Str × List Str)} {pn : List Nat} {a : Addr} {oe : Obj} {cls : Value} {d : Option Addr} {pnn : List (Addr × Obj)} {oi : Option Nat} {e e' : Expr} {es rest : List Expr} {p q : Exn → Option D} {ps : Exn → Option (List D)} {pos pp : Pos} {H : Hp} {σ : L2.St}
def rdX (X : Cx) (tbl : List (Str × List Str)) (a : Addr) (cls : Value) (d : Option Addr) (oi : Option Nat) (p : Exn → Option D) : TE := fun σ H Q => ∃ B env O x, Stt X.K B H σ env O ∧ PreX X tbl a x cls d oi env B O σ H ∧ ∃ dd, p x = some dd ∧ ∀ v H', Grw H H' → Is X.K (fun b => B b ∨ b ∈ O) H' dd v → Q v H'
def rdXs (X : Cx) (tbl : List (Str × List Str)) (a : Addr) (cls : Value) (d : Option Addr) (oi : Option Nat) (ps : Exn → Option (List D)) : TA := fun σ H Q => ∃ B env O x, Stt X.K B H σ env O ∧ PreX X tbl a x cls d oi env B O σ H ∧ ∃ dd, ps x = some dd ∧ ∀ v H', Grw H H' → IsL X.K (fun b => B b ∨ b ∈ O) H' dd v → Q v H'
abbrev XPk (X : Cx) (tbl : List (Str × List Str)) (a : Addr) (oe : Obj) (cls : Value) (d : Option Addr) (pnn : List (Addr × Obj)) (oi : Option Nat) (e : Expr) (p : Exn → Option D) : Prop := PE (X.suite a ((a, oe) :: pnn)) e (rdX X tbl a cls d oi p)
abbrev XAk (X : Cx) (tbl : List (Str × List Str)) (a : Addr) (oe : Obj) (cls : Value) (d : Option Addr) (pnn : List (Addr × Obj)) (oi : Option Nat) (es : List Expr) (ps : Exn → Option (List D)) : Prop := PA (X.suite a ((a, oe) :: pnn)) es (rdXs X tbl a cls d oi ps)
theorem PreX.grw {x : Exn} {env : Slots} {B : Addr → Prop} {O : List Addr} {H' : Hp} (g : Grw H H') (h : PreX X tbl a x cls d oi env B O σ H) : PreX X tbl a x cls d oi env B O σ H' :=
  ⟨h.1, h.2.1, h.2.2.1.kp fun b o w e => ⟨g b o e, w⟩, h.2.2.2⟩
def xK (dd : D) : Exn → Option D := fun _ => some dd
theorem xp_C {v : V} {dd : D} (h : PE (X.suite a ((a, oe) :: pnn)) e (tC v)) (hi : ∀ K W H, Is K W H dd v) : XPk X tbl a oe cls d pnn oi e (xK dd) := h.imp fun σ H Q h => by
  obtain ⟨B, env, O, x, s, hx, d0, hp, h⟩ := h
  cases hp
  exact h v H Grw.refl (hi _ _ _)
def xNil : Exn → Option (List D) := fun _ => some []
def xCons (p : Exn → Option D) (ps : Exn → Option (List D)) : Exn → Option (List D) := fun x => (p x).bind fun d => (ps x).map fun l => d :: l
theorem xa_nil : XAk X tbl a oe cls d pnn oi [] xNil := pa_nil.imp fun σ H Q h => by
  obtain ⟨B, env, O, x, s, hx, d0, hp, h⟩ := h
  cases hp
  exact h [] H Grw.refl rfl
theorem xa_cons (ha : XPk X tbl a oe cls d pnn oi e p) (hr : XAk X tbl a oe cls d pnn oi es ps) (hs : starEach (e :: es) X.env = (false, eval e X.env) :: starEach es X.env := by rfl) : XAk X tbl a oe cls d pnn oi (e :: es) (xCons p ps) := (pa_cons ha hr hs).imp fun σ H Q h => by
  obtain ⟨B, env, O, x, s, hx, dd, hp, h⟩ := h
  unfold xCons at hp
  cases e1 : p x with
  | none => rw [e1] at hp; cases hp
  | some d1 =>
    rw [e1] at hp
    simp only [Option.bind_some, Option.map_eq_some_iff] at hp
    obtain ⟨l, e2, rfl⟩ := hp
    exact ⟨B, env, O, x, s, hx, d1, e1, fun v H1 g1 hv => ⟨B, env, O, x, s.grw g1, hx.grw g1, l, e2, fun vs H2 g2 hvs => h (v :: vs) H2 (g1.trans g2) ⟨v, vs, rfl, hv.grw g2, hvs⟩⟩⟩
def xLst (ps : Exn → Option (List D)) : Exn → Option D := fun x => (ps x).bind fun l => if l.length ≤ 100000 then some (.lst l) else none
theorem is_fresh {B : Addr → Prop} {O : List Addr} {env : Slots} {b : Addr} {H' : Hp} (s : Stt X.K B H σ env O) (g : Grw H H') (hb : H' b = none) : ¬ (B b ∨ b ∈ O) := fun z => by
  obtain ⟨u, e⟩ := (s.grw g).trk b z
  rw [hb] at e; cases e
theorem xp_lst (h : XAk X tbl a oe cls d pnn oi es ps) : XPk X tbl a oe cls d pnn oi (.List es pos) (xLst ps) := (pe_lst h).imp fun σ H Q h => by
  obtain ⟨B, env, O, x, s, hx, dd, hp, h⟩ := h
  unfold xLst at hp
  cases e1 : ps x with
  | none => rw [e1] at hp; cases hp
  | some l =>
    rw [e1] at hp
    simp only [Option.bind_some] at hp
    split at hp
    · rename_i hl
      cases hp
      exact ⟨B, env, O, x, s, hx, l, e1, fun vs H1 g1 hv => ⟨by rw [hv.length, sizeLine_eq]; omega, fun b hb => h _ _ (g1.trans fun c o z => by rw [upd_ne (ne_of_none z hb)]; exact z) ⟨b, vs, rfl, upd_same, is_fresh s g1 hb, IsL.kp (fun c o w z => ⟨by rw [upd_ne (ne_of_none z hb)]; exact z, w⟩) _ _ hv⟩⟩⟩
    · cases hp
def xFld (f : Str) : Exn → Option D := fun x => x.fs.bind fun l => l.lookup f
/-- the classes of the table, whose instances are asked for f -/
def FldOk (K : PySem.W.Frag) (mg : Str → Option Value) (tbl : List (Str × List Str)) (f : Str) : Prop := ∀ y ∈ tbl, ∃ C, mg y.1 = some (.ref C) ∧ XfC K C ∧ PySem.W.findIn K (.ref C) f = some none
theorem IsX.look {K : PySem.W.Frag} {W : Addr → Prop} {H : Hp} {f : Str} {dd : D} : ∀ {l : List (Str × D)} {xs : List (Str × V)}, IsX K W H l xs → l.lookup f = some dd → ∃ v, xs.lookup f = some v ∧ Is K W H dd v
  | [], xs, _, h => by cases h
  | (k, d0) :: r, xs, hx, h => by
    obtain ⟨x, ys, rfl, h1, h2⟩ := hx
    rw [List.lookup] at h ⊢
    cases e : f == k with
    | true => rw [e] at h; cases h; exact ⟨x, rfl, h1⟩
    | false => rw [e] at h; exact IsX.look h2 h
theorem xp_fld {i : Nat} {n f : Str} {np : Pos} (hz : Zc cls d oe) (hf : ∃ vs, oe.data = .fields vs) (F : FldOk X.K X.mg tbl f) (hi : X.N[i]? = some n) (hv : Vis X.env.scope n) (hd : (n == ("__debug__" : Str)) = false := by decide) (hcd : (n == ("__classdict__" : Str)) = false := by decide)
    (hb : attributeBase (.Name n np) f X.env (eval (.Name n np) X.env) = eval (.Name n np) X.env := by rfl) : XPk X tbl a oe cls d pnn (some i) (.Attribute (.Name n np) f pos) (xFld f) := by
  refine ⟨fun pins s σ H Q I h => ?_⟩
  obtain ⟨B, env, O, x, st, ⟨⟨m, hm⟩, hc, hx, hσ, _⟩, dd, hp, h⟩ := h
  obtain ⟨C, k1, k2, k3⟩ := F _ hm
  rw [hc] at k1; cases k1
  refine (pe_xf (X := X) (a := a) (pn := pnn) k2 k3 hz hf (pe_var (i := i) (pos := np) hi hv hd hcd) hb).run pins s σ H Q I ?_
  unfold xFld at hp
  unfold XFs at hx
  cases ef : x.fs with
  | none => rw [ef] at hp; cases hp
  | some fl =>
    rw [ef] at hp hx
    obtain ⟨da, vs, rfl, h1, h2, h3⟩ := hx
    obtain ⟨v, h4, h5⟩ := h3.look (by simpa using hp)
    exact ⟨.ref a, hσ, rfl, rfl, da, vs, v, rfl, h1, h4, h v H Grw.refl h5⟩
def xIsi (tbl : List (Str × List Str)) (c : Str) : Exn → Option D := fun x => (tbl.lookup x.cls).bind fun m => if m.contains c = true then some (.bl true) else none
def IsiOk (K : PySem.W.Frag) (mg : Str → Option Value) (tbl : List (Str × List Str)) (c : Str) (cv : Value) : Prop := ∀ y ∈ tbl, y.2.contains c = true → ∃ C, mg y.1 = some (.ref C) ∧ PySem.W.kitOne K (.ref C) cv = some true
theorem xp_isi {i : Nat} {n c : Str} {np cp : Pos} {cw : V} {cv : Value} (hz : Zc cls d oe) (F : IsiOk X.K X.mg tbl c cv) (hi : X.N[i]? = some n) (hv : Vis X.env.scope n) (hg : Gl X "isinstance") (hm : X.mg "isinstance" = none) (hc : PE (X.suite a ((a, oe) :: pnn)) (.Name c cp) (tC cw)) (hcv : ∀ u, RelV cw u → u = cv)
    (hd : (n == ("__debug__" : Str)) = false := by decide) (hcd : (n == ("__classdict__" : Str)) = false := by decide)
    (he : starEach [Expr.Name n np, .Name c cp] X.env = (false, eval (.Name n np) X.env) :: starEach [Expr.Name c cp] X.env := by rfl) (he2 : starEach [Expr.Name c cp] X.env = (false, eval (.Name c cp) X.env) :: starEach [] X.env := by rfl) (hpl : (backTo pos (starEach [Expr.Name c cp] X.env)).any (·.1) = false := by rfl) :
    XPk X tbl a oe cls d pnn (some i) (.Call (.Name "isinstance" pp) [.Name n np, .Name c cp] [] pos) (xIsi tbl c) := by
  have CR : CallR (X.suite a ((a, oe) :: pnn)) (.builtin "isinstance") (fun xs H Q => ∃ C, xs = [.ref a, cw] ∧ cls = .ref C ∧ PySem.W.kitOne X.K (.ref C) cv = some true ∧ Q (.bl true) H) := by
    intro pins s σ H xs us Q I r h
    obtain ⟨C, rfl, rfl, k, q⟩ := h
    cases r with
    | cons rx rr =>
      cases rr with
      | cons rt rr =>
        cases rr
        cases rx
        have ec := hcv _ rt
        subst ec
        obtain ⟨hget, _⟩ := I.pin (a, oe) (List.mem_append.mpr (.inl List.mem_cons_self))
        exact isi_true (P := fun h => h.get? a = some oe) (fun M h _ ho A Q E s k2 q2 => wpAny_typeOf_ref (k2 _ _ ho) (by rw [hz.1]; exact q2)) k I.kIn hget (fun z => nomatch z) fun tk => ⟨.bl true, H, I.kept (t' := tk) fun _ _ z => z, rfl, q⟩
  refine (pe_callB CR hg hm (by decide +kernel) (pa_cons (pe_var (i := i) (pos := np) hi hv hd hcd) (pa_cons hc pa_nil he2) he) (by decide) (by decide) he hpl).imp fun σ H Q h => ?_
  obtain ⟨B, env, O, x, st, ⟨⟨m0, hm0⟩, hcl, hx, hσ, _⟩, dd, hp, h⟩ := h
  unfold xIsi at hp
  cases em : tbl.lookup x.cls with
  | none => rw [em] at hp; cases hp
  | some m =>
    rw [em] at hp
    simp only [Option.bind_some] at hp
    split at hp
    · rename_i hb
      cases hp
      obtain ⟨C, k1, k2⟩ := F _ (lookup_mem em) hb
      rw [hcl] at k1
      exact ⟨.ref a, hσ, C, rfl, Option.some.inj k1, k2, h (.bl true) H Grw.refl rfl⟩
    · cases hp
def xAnd (p q : Exn → Option D) : Exn → Option D := fun x => (p x).bind fun d => match d with
  | .bl true => q x
  | _ => none
theorem xp_one {op} (h : XPk X tbl a oe cls d pnn oi e p) : XPk X tbl a oe cls d pnn oi (.BoolOp op [e] pos) p := pe_one h
theorem xp_and (ha : XPk X tbl a oe cls d pnn oi e p) (hb : XPk X tbl a oe cls d pnn oi (.BoolOp .And (e' :: rest) pos) q) : XPk X tbl a oe cls d pnn oi (.BoolOp .And (e :: e' :: rest) pos) (xAnd p q) := (pe_and ha hb).imp fun σ H Q h => by
  obtain ⟨B, env, O, x, s, hx, dd, hp, h⟩ := h
  unfold xAnd at hp
  cases e1 : p x with
  | none => rw [e1] at hp; cases hp
  | some d1 =>
    rw [e1] at hp
    simp only [Option.bind_some] at hp
    split at hp
    · exact ⟨B, env, O, x, s, hx, _, e1, fun v H1 g1 hv => ⟨true, hv, iteT ⟨B, env, O, x, s.grw g1, hx.grw g1, dd, hp, fun v2 H2 g2 hv2 => h v2 H2 (g1.trans g2) hv2⟩⟩⟩
    · cases hp
def xRepr (p : Exn → Option D) : Exn → Option D := fun x => (p x).bind fun d => (reprF2 [d]).map ofV
theorem call_repr2u {X : Cx} (hu : X.A.units + 64 < cLine) (hg : X.A.guards = some []) (hsys : SysD X.base) : CallR X (.builtin "repr") (rRepr2 X.K) := by
  intro pins s σ H xs us Q I r h
  obtain ⟨x, dd, y, rfl, hd, h0, h1, h3, h4, q⟩ := h
  obtain ⟨u, rfl, ru⟩ := r.one
  have fin : ∀ t tk, EP X pins σ Q (.str y.shown t) { s with toks := tk } := fun t tk => ⟨.str y.shown, H, I.tok tk, ⟨t, rfl⟩, q⟩
  have hs : SysD s.heap := hsys.keeps I.bk
  have big : ∀ a, u = .ref a → wpAny (model X.prog X.w) X.A (call (.builtin "repr") [u]) (EP X pins σ Q) X.xe s := fun a e => by
    subst e
    obtain ⟨as, rr, ns⟩ := Is.rd I hs dd x _ y hd h0 ru
    exact repr_of_reads' rr h1 (fun _ => ns) hg (by omega) (fun _ _ e => e) (fun h' u tk hk => ⟨.str _, H, I.kept (t' := tk) hk, ⟨u, rfl⟩, q⟩) h4
  cases dd with
  | non => cases h0; cases (show x = _ from hd); cases ru; exact PySem.P.repr_of_none (fin _ _)
  | bl b => cases h0; cases (show x = _ from hd); cases ru; exact PySem.P.repr_of_bool (fin _ _)
  | int i =>
    cases h0
    cases (show x = _ from hd)
    obtain ⟨t, rfl⟩ := ru
    exact PySem.P.repr_of_int (by simpa [PyData.showable] using h1) (fin _ _)
  | str z =>
    cases h0
    cases (show x = _ from hd)
    obtain ⟨t, rfl⟩ := ru
    exact PySem.P.repr_of_str (fin _ _) h4
  | lst l => obtain ⟨a, _, rfl, _⟩ := id hd; cases ru; exact big a rfl
  | tup l => obtain ⟨a, _, rfl, _⟩ := id hd; cases ru; exact big a rfl
  | dct l => obtain ⟨a, _, rfl, _⟩ := id hd; cases ru; exact big a rfl
  | _ => cases h0
theorem xp_repr {k : Nat} (hr : Room k X.A) (hgd : X.A.guards = some []) (hsys : SysD X.base) (hm : X.mg "repr" = none) (ha : XPk X tbl a oe cls d pnn oi e p) (hg : Gl X "repr" := by rfl) (he : starEach [e] X.env = (false, eval e X.env) :: starEach [] X.env := by rfl) (hpl : (backTo pos (starEach [] X.env)).any (·.1) = false := by rfl) :
    XPk X tbl a oe cls d pnn oi (.Call (.Name "repr" pp) [e] [] pos) (xRepr p) :=
  (pe_callB (call_repr2u (X := X.suite a ((a, oe) :: pnn)) hr.units hgd hsys) hg hm (by decide +kernel) (pa_cons ha pa_nil he) (by decide) (by decide) he hpl).imp fun σ H Q h => by
    obtain ⟨B, env, O, x, s, hx, dd, hp, h⟩ := h
    unfold xRepr at hp
    cases e1 : p x with
    | none => rw [e1] at hp; cases hp
    | some d1 =>
      rw [e1] at hp
      simp only [Option.bind_some, Option.map_eq_some_iff] at hp
      obtain ⟨v, hv, rfl⟩ := hp
      exact ⟨B, env, O, x, s, hx, d1, e1, fun v1 H1 g1 hv1 => cal_repr2 (X := X) H1 [v1] [d1] v Q ⟨v1, [], rfl, hv1.noW, rfl⟩ hv (h v H1 g1 (ofV_is _ _ _ v))⟩
def hRet (p : Exn → Option D) : Exn → SS := fun x env => match p x with
  | some dd => .rt (.frz dd) env
  | none => .no
theorem frm_grw {O : List Addr} {H' : Hp} (g : Grw H H') : Frm O H [] O H' := fun b o hw e => ⟨g b o e, fun z => z.elim (fun z => nomatch z) hw⟩
theorem su_ret (h : ∀ (a : Addr) (oe : Obj) (cls : Value) (d : Option Addr) (pnn : List (Addr × Obj)), Zc cls d oe → (∃ vs, oe.data = .fields vs) → XPk X tbl a oe cls d pnn oi e p) : SuOk X [.Return (some e) pos] (tsH X tbl pn oi (hRet p)) := fun a oe cls d pnn hz hf =>
  (pss_one (ps_ret (h a oe cls d pnn hz hf))).imp fun D σ H h => by
    obtain ⟨B, env, O, x, s, hx, h⟩ := h
    unfold hRet at h
    cases e1 : p x with
    | none => rw [e1] at h; exact h.elim
    | some dd =>
      rw [e1] at h
      exact ⟨B, env, O, x, s, hx, dd, e1, fun v H' g hv => h σ v H' [] O (Res.new (s.grw g) (frm_grw g) (New.of_is hv)) Pin.refl⟩
end
end PL
namespace PL
open PySem PySem.Spec PySem.W PyProof.Rows L2
/-- the empty tables at the head -/
structure TabHdL (K : Frag) (h : Heap) (qs : List Str) (cs : List (Addr × Addr)) : Prop where
  tab : ∀ p ∈ cs, h.get? p.2 = some { cls := .none, data := .fields #[] }
  out : ∀ p ∈ cs, K.lookup p.2 = none
  code : ∀ p ∈ cs, CodeHd h p.1 p.2
  nd : (cs.map (·.2)).Nodup
  name : qs.map (tabP K) = cs.map fun p => some p.2
theorem tabs_empty {K : Frag} {W : Addr → Prop} {H : Hp} : ∀ {qs : List Str} {cs : List (Addr × Addr)}, qs.map (tabP K) = cs.map (fun p => some p.2) → (∀ p ∈ cs, H p.2 = some (.tbl #[])) → TabsAt K W H qs (cs.map (·.2))
  | [], [], _, _ => rfl
  | [], _ :: _, h, _ => by simp at h
  | _ :: _, [], h, _ => by simp at h
  | q :: r, p :: cs, h, hH => by
    simp only [List.map_cons, List.cons.injEq] at h
    exact ⟨p.2, cs.map (·.2), #[], rfl, h.1, hH p (by simp), True.intro, (fun pos cv e => by
      have z : codeAmong pos [] = some cv := e
      simp [codeAmong] at z), tabs_empty h.2 fun x hx => hH x (by simp [hx])⟩
theorem law_callTG {P : Program} {w : World} {K : Frag} {mg mb : Str → Option Value} {k : Nat} {fa sa : Addr} {fd : FuncData} {x : Str} {m : List C → Out C} {s0 : Shared} {vs : List Value} {ns : List Int} {c : C} {outs : Slots} {qs : List Str} {cs : List (Addr × Addr)}
    (KX : K.In s0.heap) (hns : s0.heap.Ns mainGlobals mg) (hb : s0.heap.Ns builtinsNs mb) (hbb : ∀ x : Str, x ≠ "__name__" → mb x = bootBuiltins x) (hlim : s0.heap.NoLimit) (hg : s0.gens = #[]) (T : TabHdL K s0.heap qs cs)
    (hbm : ∃ (bm : Addr) (ob : Obj), mg "__builtins__" = some (.ref bm) ∧ bm ≠ builtinsNs ∧ s0.heap.get? bm = some ob ∧ ob.cls = .type "module" ∧ ob.dict = some builtinsNs ∧ ob.data = .plain)
    (hs : s0.heap.get? sa = some { cls := .type "list", data := .seq vs.toArray }) (hi : IntsAre vs ns) (hl : ns.length ≤ sizeLine) (hr : Room k PySem.callerA)
    (hsys : SysD s0.heap) (F : ∀ base : Heap, K.In base → base.Ns mainGlobals mg → SysD base → (∀ p ∈ cs, LamX.TabB base mg p.1 p.2) → FnG P w K mg base k fa fd [x] (spT K mg 1 m)) (hbind : ∀ (s : Shared) (u : Value), BindsTo s fd ⟨[u], []⟩ [(x, u)])
    (hm : m [.tabs qs, .frz (.ro ns)] = .ok c outs) (hc : c.toD = .bl true) :
    codeAny (model P w) PySem.callerA (.call (.ref fa) ⟨[.ref sa], []⟩) (fun r s' => r = .ok (.ret (.bool true)) ∧ OldK s0.heap s'.heap ∧ s'.os = s0.os ∧ AllBare s'.gens) s0 := by
  have rv := vals_ints hi
  have lv := hi.length
  have isT : ∀ {b : Addr}, b ∈ cs.map (·.2) → s0.heap.get? b = some { cls := .none, data := .fields #[] } := fun {b} hb => by
    obtain ⟨p, hp, rfl⟩ := List.mem_map.mp hb
    exact T.tab p hp
  have sT : sa ∉ cs.map (·.2) := fun z => by
    have q := isT z
    rw [hs] at q
    exact absurd (congrArg Obj.data (Option.some.inj q)) (fun z => nomatch z)
  have main : ∀ H : Hp, (∀ p ∈ cs, H p.2 = some (.tbl #[])) → (∀ b, H b = none ∨ b ∈ cs.map (·.2) ∨ ∃ o xs, H b = some (.frz o (.lst xs))) → SqL K H sa (ns.map V.int) → HOk P w H s0.heap → (∀ b, H b ≠ none → b = sa ∨ b ∈ cs.map (·.2)) → (H sa ≠ none → K.lookup sa = none) →
      codeAny (model P w) PySem.callerA (.call (.ref fa) ⟨[.ref sa], []⟩) (fun r s' => r = .ok (.ret (.bool true)) ∧ OldK s0.heap s'.heap ∧ s'.os = s0.os ∧ AllBare s'.gens) s0 := by
    intro H hH hO hS hok only noK
    have base : ∀ {b : Addr} {o : Obj}, s0.heap.get? b = some o → H b = none → (hidT s0.heap H).get? b = some o := fun e n => hidT_get e n
    have free : ∀ {b : Addr} {o : Obj}, s0.heap.get? b = some o → (∀ ws n, o.data ≠ .seq ws n) → o.data ≠ .fields #[] → H b = none := fun {b o} e n1 n2 => by
      cases q : H b with
      | none => rfl
      | some u =>
        rcases only b (by rw [q]; exact fun z => nomatch z) with z | z
        · rw [z, hs] at e; cases e
          exact (n1 _ _ rfl).elim
        · rw [isT z] at e; cases e
          exact (n2 rfl).elim
    have dct : ∀ {b : Addr} {o : Obj} {es : Array DictEntry} {ep : Nat}, s0.heap.get? b = some o → o.data = .dict es ep → H b = none := fun {b o es ep} e d => free e (fun _ _ z => by rw [d] at z; cases z) fun z => by rw [d] at z; cases z
    have nsB : ∀ {b : Addr} {f : Str → Option Value}, s0.heap.Ns b f → (hidT s0.heap H).Ns b f := fun ⟨o, es, ep, e, d, r⟩ => ⟨o, es, ep, base e (dct e d), d, r⟩
    have kB : K.In (hidT s0.heap H) := fun b o e => base (KX b o e) (by
      cases q : H b with
      | none => rfl
      | some u =>
        rcases only b (by rw [q]; exact fun z => nomatch z) with z | z
        · subst z
          rw [noK (by rw [q]; exact fun z => nomatch z)] at e; cases e
        · obtain ⟨p, hp, rfl⟩ := List.mem_map.mp z
          rw [T.out p hp] at e; cases e)
    have md : Mod K mg (hidT s0.heap H) := ⟨kB, nsB hns, ⟨mb, nsB hb, hbb⟩, let ⟨mc, q1, q2⟩ := hlim; ⟨mc, nsB q1, q2⟩⟩
    have ev : Env0 P w K mg (hidT s0.heap H) PySem.callerA [] s0 H := ⟨rfl, md, fun b o e => of_hidT e, Nat.le_of_eq (hidT_size _ _), trivial, fun b z => (nomatch z), hok, .of_eq hg⟩
    have sysB : SysD (hidT s0.heap H) := let ⟨o, es, ep, e, d⟩ := hsys; ⟨o, es, ep, base e (dct e d), d⟩
    have TB : ∀ p ∈ cs, LamX.TabB (hidT s0.heap H) mg p.1 p.2 := fun p hp => by
      have tp := T.tab p hp
      refine ⟨?_, ?_, fun z => ?_⟩
      · obtain ⟨o, us, fi, tf, fl, tg, inF, tx, tt, e1, r1, r2, r3, rest⟩ := T.code p hp
        refine ⟨o, us, fi, tf, fl, tg, inF, tx, tt, base e1 (free e1 (fun _ _ z => by rw [r2] at z; cases z) fun z => ?_), r1, r2, r3, rest⟩
        rw [r2] at z; cases z
        simp at r3
      · obtain ⟨bm, ob, b1, b2, b3, b4, b5, b6⟩ := hbm
        refine ⟨bm, ob, b1, b2, fun q => ?_, fun q => ?_, base b3 (free b3 (fun _ _ z => by rw [b6] at z; cases z) fun z => by rw [b6] at z; cases z), b4, b5, b6⟩
        · obtain ⟨o, es, ep, e, hd, _⟩ := hns
          rw [q, e] at b3; cases b3
          rw [hd] at b6; cases b6
        · rw [q, tp] at b3; cases b3
          cases b6
      · obtain ⟨o, es, ep, e, hd, _⟩ := hns
        rw [z, tp] at e; cases e
        cases hd
    have want : spT K mg 1 m [.ref sa] H (fun v _ => v = .bl true) fun _ _ _ => False := by
      refine ⟨rfl, fun _ => False, [.tabs qs, .frz (.ro ns)], cs.map (·.2), ⟨⟨some .non, [some (.ref sa)], cs.map (·.2), [], rfl, by simp, ⟨.non, rfl, rfl, tabs_empty T.name hH⟩, some (.ref sa), [], [], [], rfl, rfl, ⟨.ref sa, rfl, rfl, sa, rfl, ?_⟩, rfl, rfl⟩, T.nd, fun _ _ z => z, fun _ z => z.elim⟩, ?_⟩
      · exact hS.imp (fun z => ⟨z, fun y => y.elim id sT⟩) id
      · rw [hm]
        intro u H' A O' r
        have q := r.is
        rw [hc] at q
        exact q
    refine codeAny_mono ((F _ kB (nsB hns) sysB TB).run PySem.callerA [] s0 H ⟨[.ref sa], []⟩ [.ref sa] [.ref sa] _ _ rfl hr ev (hbind s0 (.ref sa)) (.cons rfl .nil) want) fun r s' h => ?_
    cases r with
    | error e =>
      obtain ⟨_, _, _, _, _, _, _, _, _, _, _, _, z⟩ := h
      exact z.elim
    | ok fl =>
      cases fl with
      | next => exact h.elim
      | brk => exact h.elim
      | cont => exact h.elim
      | ret u =>
        obtain ⟨v, H', q1, q2, un, q4, q5, q6⟩ := h
        cases (show v = .bl true from q6)
        cases (show u = Value.bool true from q5)
        have kp : ∀ b o, b ∉ cs.map (·.2) → s0.heap.get? b = some o → s'.heap.get? b = some o := fun b o nb e => by
          cases q : H b with
          | none => exact un.keep b o e q (fun z => nomatch z) (by simp)
          | some u =>
            rcases hO b with z | z | ⟨ob, xs, z⟩
            · rw [q] at z; cases z
            · exact absurd z nb
            · obtain ⟨e1, _⟩ := hok b _ z
              obtain ⟨e2, _⟩ := q4 b _ (un.frzs b ob _ z)
              rw [e] at e1; cases e1
              exact e2
        have gr : ∀ p ∈ cs, ∃ more : Array Value, s'.heap.get? p.2 = some { cls := .none, data := .fields more } := fun p hp => by
          obtain ⟨more, z⟩ := un.tbls p.2 #[] (hH p hp)
          exact ⟨_, q4 p.2 _ z⟩
        refine ⟨rfl, ⟨fun b o e => ?_, fun b o e => ?_⟩, q1, q2⟩ <;> by_cases nb : b ∈ cs.map (·.2)
        · obtain ⟨p, hp, rfl⟩ := List.mem_map.mp nb
          obtain ⟨more, hmore⟩ := gr p hp
          rw [T.tab p hp] at e; cases e
          exact .inr (.inl ⟨((T.code p hp).tab (T.tab p hp)).isCodeTable, rfl, #[], more, rfl, by rw [Array.empty_append]; exact hmore⟩)
        · exact .inl (kp b o nb e)
        · obtain ⟨p, hp, rfl⟩ := List.mem_map.mp nb
          obtain ⟨more, hmore⟩ := gr p hp
          exact ⟨_, hmore⟩
        · exact ⟨o, kp b o nb e⟩
  cases hk : K.lookup sa with
  | some o =>
    have e := KX sa o hk
    rw [hs] at e; cases e
    refine main (fun b => if b ∈ cs.map (·.2) then some (.tbl #[]) else none) (fun p hp => if_pos (List.mem_map.mpr ⟨p, hp, rfl⟩)) (fun b => ?_) (.inr ⟨_, vs.toArray, _, hk, rfl, rfl, rfl, by rw [List.size_toArray, lv]; exact hl, by simpa using rv⟩) (fun b u z => ?_) (fun b z => ?_) fun z => absurd (if_neg sT) z
    · by_cases q : b ∈ cs.map (·.2)
      · exact .inr (.inl q)
      · exact .inl (if_neg q)
    · by_cases q : b ∈ cs.map (·.2)
      · cases (if_pos q).symm.trans z
        exact isT q
      · cases (if_neg q).symm.trans z
    · by_cases q : b ∈ cs.map (·.2)
      · exact .inr q
      · exact absurd (if_neg q) z
  | none =>
    refine main (fun b => if b = sa then some (.frz { cls := .type "list", data := .seq vs.toArray } (.lst (ns.map V.int))) else if b ∈ cs.map (·.2) then some (.tbl #[]) else none)
      (fun p hp => (if_neg (fun (z : p.2 = sa) => sT (z ▸ List.mem_map.mpr ⟨p, hp, rfl⟩))).trans (if_pos (List.mem_map.mpr ⟨p, hp, rfl⟩))) (fun b => ?_) (.inl (.inr ⟨{ cls := .type "list", data := .seq vs.toArray }, if_pos rfl⟩)) (fun b u z => ?_) (fun b z => ?_) fun _ => hk
    · by_cases q : b = sa
      · exact .inr (.inr ⟨_, _, if_pos q⟩)
      · by_cases q2 : b ∈ cs.map (·.2)
        · exact .inr (.inl q2)
        · exact .inl ((if_neg q).trans (if_neg q2))
    · by_cases q : b = sa
      · cases (if_pos q).symm.trans z
        subst q
        exact ⟨hs, by rw [List.length_map]; exact hl, vs, _, rv, hs⟩
      · have z1 := (if_neg q).symm.trans z
        by_cases q2 : b ∈ cs.map (·.2)
        · cases (if_pos q2).symm.trans z1
          exact isT q2
        · cases (if_neg q2).symm.trans z1
    · by_cases q : b = sa
      · exact .inl q
      · by_cases q2 : b ∈ cs.map (·.2)
        · exact .inr q2
        · exact absurd ((if_neg q).trans (if_neg q2)) z
theorem walk_ofTG {l : PySem.W.OpenLaw} {n k : Nat} {q : Program} {loose : List Str} {XP : (Str → Option Value) → Heap → Prop} {YP : World → Heap → Prop} {d : PySem.DefRec} {K : PySem.Params → Frag} {x : Str}
    (hn : l.most = some n) (hn2 : n ≤ sizeLine) (hdf : d.params.defaults = []) (hr : Room k PySem.callerA)
    (hq : PyProof.Rows.importsNone q = true) (hY : ∀ (w : World) (h : Heap), YP w h → (K w.params).In h)
    (F : ∀ (w : World) (mg : Str → Option Value) (fa : Addr) (h : Heap), YP w h → (K w.params).In h → h.Ns mainGlobals mg → mg d.name = some (.ref fa) →
      ∃ (fd : FuncData) (m : List C → Out C) (qs : List Str) (cs : List (Addr × Addr)), (∀ (s : Shared) (u : Value), BindsTo s fd ⟨[u], []⟩ [(x, u)]) ∧ TabHdL (K w.params) h qs cs ∧
        (∀ base : Heap, (K w.params).In base → base.Ns mainGlobals mg → SysD base → (∀ p ∈ cs, LamX.TabB base mg p.1 p.2) → FnG l.prog w (K w.params) mg base k fa fd [x] (spT (K w.params) mg 1 m)) ∧
        ∀ ns : List Int, ns.length ≤ n → (∀ z ∈ ns, Builtin.Int.intBits z ≤ 1048576) → ∃ c outs, m [.tabs qs, .frz (.ro ns)] = .ok c outs ∧ c.toD = .bl true) :
    PySem.W.WalkO q loose XP YP l.row.toRowW d [] (fun f vs => PySem.call f vs) := by
  refine Att.attach_callB hn hdf fun w s0 s1 mg mb fa o pm cd doc a vs ns G Y ho hd hcd hmg hobj hints hlen hbits hg => ?_
  obtain ⟨fd, m, qs, cs, hb, hT, hF, hm⟩ := F w mg fa _ Y (hY w _ Y) G.T.g hmg
  obtain ⟨c, outs, e1, e2⟩ := hm ns hlen hbits
  exact law_callTG (hY w _ Y) G.T.g G.T.b G.T.builtins G.T.nolimit hg hT G.T.bmain hobj hints (Nat.le_trans hlen hn2) hr (.of (G.T.seer hq)) hF hb e1 e2
/-- the def x's own code object and table -/
structure TabFn (K : Frag) (mg : Str → Option Value) (base : Heap) (x : Str) : Prop where
  ex : ∃ (f : Addr) (oc : Value) (od : Option Addr) (fd : FuncData) (osl : Array (Option Value)) (c P : Addr), mg x = some (.ref f) ∧ K.lookup f = some ⟨oc, od, .func fd, osl⟩ ∧ fd.code = .ref c ∧ tabP K x = some P ∧ LamX.TabB base mg c P
/-- cdv is its code object -/
def TabCd (K : Frag) (mg : Str → Option Value) (base : Heap) (x : Str) (cdv : Value) : Prop := ∃ c P, cdv = .ref c ∧ tabP K x = some P ∧ LamX.TabB base mg c P
def BdOkT (Pr : Program) (w : World) (K : Frag) (mg : Str → Option Value) (base : Heap) (k : Nat) (x : Str) (st : Stmt) (N : List Str) (pn : List Nat) (g : SS) : Prop := ∀ (f : Addr) (cdv : Value) (A : Around) (outer : List Env) (s : Shared) (H : Hp) (E : XK), TabCd K mg base x cdv → A.guards = some [] → Room k (A.deeper (envOfC x (defScope st) s.heap.objs.size f cdv)) →
  SsOk (cxOf (CY Pr w) Pr w K mg base N x (defScope st) f cdv A outer s H E) (fun cls d _ H' => E cls d H') pn (defBody st) g
theorem FnT.byT {Pr : Program} {w : World} {K : Frag} {mg : Str → Option Value} {base : Heap} {k : Nat} {x : Str} {st : Stmt} {N ps : List Str} {pn : List Nat} {g : Nat} {y : Str} {r : SS} (F : DefAt K mg x st) (T : TabFn K mg base x) (S : FnScope N ps (defScope st))
    (hy : N[g]? = some y) (hvy : ¬ Vis (defScope st) y) (hga : ps.length ≤ g) (hb : BdOkT Pr w K mg base k x st N (g :: pn) r) :
    FnT Pr w K mg base (k + 1) x st ps (bodyT N.length g pn ps.length r) := by
  obtain ⟨f, oc, od, kV, doc, pm, an, cdv, ct, osl, h1, h2, h3, h4⟩ := F.ex
  obtain ⟨f', _, _, fd, _, c, P, g1, g2, g3, g4, g5⟩ := T.ex
  rw [h1] at g1; cases g1
  rw [h3] at g2; cases g2
  exact ⟨f, kV, doc, pm, an, cdv, ct, h1, h2, fnT_of h3 h4 S hy hvy hga fun A outer s H E hg hr => hb f cdv A outer s H E ⟨c, P, g3, g4, g5⟩ hg hr⟩
theorem lamHd_of {Pr : Program} {w : World} {K : Frag} {mg : Str → Option Value} {base : Heap} {x : Str} {cdv : Value} {N : List Str} {sc : Scope} {f : Addr} {A : Around} {outer : List Env} {s : Shared} {H : Hp} {E : XK} (T : TabCd K mg base x cdv) : LamHd (cxOf (CY Pr w) Pr w K mg base N x sc f cdv A outer s H E) x := by
  obtain ⟨c, P, rfl, h1, h2⟩ := T
  exact ⟨⟨c, P, rfl, h1, h2⟩, rfl⟩
end PL
namespace PL
open PySem PySem.Spec PyProof.Rows L2
section
variable {X : Cx} {w : WX} {H : Hp} {σ : L2.St} {e : Expr} {es : List Expr} {ps : List P} {pos pp : Pos}
def eFnKP (m : List C → Out C) (js : List Nat) (ps : List P) : M C := fun env => match evPs ps env with
  | some ds => match m ((pick js ds).map .frz) with
    | .ok c _ => .ok (.frz c.toD) env
    | .err x _ => .err x env
    | .no => .no
  | none => .no
theorem e_fnKP {k : Nat} {x : Str} {st : Stmt} {qs ks : List Str} {js : List Nat} {m : List C → Out C} {kws : List Keyword} (F : FnM X.prog X.w X.K X.mg X.base k x st qs m) (bd : BindK x st qs ks js) (hg : X.A.guards = some []) (hr : Room k X.A) (tk : Takes X w) (gl : Gl X x)
    (ha : KDk X kws ps) (hl : ps.length = ks.length := by rfl) (hall : (backToKw pos (keywordEach kws X.env)).all (·.1.isSome) = true := by rfl) (hks : (backToKw pos (keywordEach kws X.env)).filterMap (·.1) = ks := by rfl) (hdb : (x == ("__debug__" : Str)) = false := by decide)
    (hpl : ((backTo pos (starEach [] X.env)).any (·.1) || (backToKw pos (keywordEach kws X.env)).any (·.1.isNone)) = false := by rfl) (hj : ∀ ds : List D, ds.length = ks.length → (pick js ds).length = qs.length := by intro ds h; match ds, h with | [_], _ => rfl | [_, _], _ => rfl | [_, _, _], _ => rfl) :
    EOk X w (.Call (.Name x pp) [] kws pos) (eFnKP m js ps) := by
  obtain ⟨f, kV, doc, pm, an, cdv, ct, hm, kp, G⟩ := F.ex
  refine ⟨fun pins s σ H Q I h => ?_⟩
  obtain ⟨B, env, O, st, h⟩ := h
  unfold eFnKP at h
  cases e1 : evPs ps env with
  | none => rw [e1] at h; exact h.elim
  | some ds =>
    rw [e1] at h
    simp only [] at h
    have want : rdD X ps σ H fun vs H1 => vs.length = ks.length ∧ spM X.K X.mg qs.length m (pick js vs) H1 Q (EofW w σ) := by
      refine ⟨B, env, O, st, ds, e1, fun vs H1 g1 hv => ⟨by rw [hv.length, evPs_len e1]; exact hl, ?_⟩⟩
      have hp := pick_is hv js
      have s1 := st.grw g1
      refine ⟨hp.length.trans (hj ds (by rw [evPs_len e1]; exact hl)), fun a => B a ∨ a ∈ O, (pick js ds).map .frz, [], hp.stt s1, ?_⟩
      cases em : m ((pick js ds).map .frz) with
      | no => rw [em] at h; exact h
      | ok c outs =>
        rw [em] at h
        intro u H' A O' r
        have g : Grw H H' := fun a o z => (r.frm a o (fun z => nomatch z) (g1 a o z)).1
        exact h u H' [] O (Res.new (st.grw g) (frm_grw g) (New.of_is (Is.kp (Kp.less fun a z => .inl z) _ _ r.is)))
      | err y outs =>
        rw [em] at h
        intro cls d H' O' r
        have g : Grw H H' := fun a o z => (r.frm a o (fun z => nomatch z) (g1 a o z)).1
        exact h cls d H' O (XRes.mk' r.cls (r.xfs.less fun a z => .inl z) (st.grw g) (frm_grw g))
    refine wpAny_Call_Name_kw (ld_glob I gl hm ?_ hdb)
    refine PySem.W.callWith_KW0 (h₀ := X.base) I.ok.mod.kin kp hall (thn (ha.run pos pins s σ H _ I want) ?_) hpl
    rintro us s1 ⟨vs, H1, I1, r1, q0, q1⟩
    rw [hks]
    exact ⟨I1.kIn, run_G G hg hr (fun e s' c => tk e s' (XE.of_call I1 (fun _ _ _ z => z) c)) (.of_eq (bd kV doc pm an cdv ct us (r1.length.symm.trans q0))) I1 (pick_vals r1 js) q1⟩
end
theorem ltab_nil {P : Str × List Nat × M C → Prop} : ∀ (j : Nat) (x : Str × List Nat × M C), ([] : LTab)[j]? = some x → P x := fun j x h => by simp at h
theorem ltab_cons {P : Str × List Nat × M C → Prop} {a : Str × List Nat × M C} {l : LTab} (h : P a) (r : ∀ (j : Nat) (x : Str × List Nat × M C), l[j]? = some x → P x) : ∀ (j : Nat) (x : Str × List Nat × M C), (a :: l : LTab)[j]? = some x → P x
  | 0, x, e => by simp at e; exact e ▸ h
  | j + 1, x, e => r j x (by simpa using e)
theorem ls_nil {P : LamId × List Nat → Prop} : ∀ x ∈ ([] : List (LamId × List Nat)), P x := fun x h => nomatch h
theorem ls_cons {P : LamId × List Nat → Prop} {a : LamId × List Nat} {l : List (LamId × List Nat)} (h : P a) (r : ∀ x ∈ l, P x) : ∀ x ∈ a :: l, P x := List.forall_mem_cons.mpr ⟨h, r⟩
abbrev FreeOkS (sc : Scope) (t : LamSite) : Prop := ∀ y ∈ t.scope.names, y.2 = .free → sc.names.lookup y.1 = some .cell ∨ sc.names.lookup y.1 = some .free
/-- a lambda's text, closed facts -/
structure SiteF (sc : Scope) (N : List Str) (b : List Stmt) (p : List Nat) (js : List Nat) (t : LamSite) : Prop where
  at_ : lamAt b p = some t
  js : js.map (fun j => N[j]?) = (freeN t.scope.names []).map some
  cap : ∀ y ∈ freeN t.scope.names [], sc.names.lookup y = some .cell ∨ sc.names.lookup y = some .free
  fr : FreeOkS sc t
  sc : LamSc t.scope
theorem SiteF.site {X : Cx} {ℓ : LamId} {js : List Nat} {b : List Stmt} {t : LamSite} (F : SiteF X.env.scope X.N b ℓ.p js t) (hb : BodyK X.K ℓ.q b) : SiteX X ℓ js b t := ⟨hb, F.at_, F.js, F.sc.nd, F.cap⟩
theorem SiteF.tx {X : Cx} {ℓ : LamId} {js : List Nat} {b : List Stmt} {t : LamSite} (F : SiteF X.env.scope X.N b ℓ.p js t) (hb : BodyK X.K ℓ.q b) (hd : LamHd X ℓ.q) (df : defaultsOf t.params X.env = ([], [])) : LamTx X ℓ b t := ⟨hb, F.at_, hd, df, F.fr⟩
/-- what K tells of the class x of exceptions with an __init__ at st, over the built-in B -/
def ClsK (K : PySem.W.Frag) (x : Str) (newId : String) (bmB : List Value) (st : Stmt) (fl : List Str) : Prop := ∃ (C fI : Addr) (kV doc pm : Value) (an : Option Addr) (cdv ct oc : Value) (od : Option Addr) (osl : Array (Option Value)),
  PySem.W.nsIn K mainGlobals x = some (some (.ref C)) ∧ (∃ nm q N bs bm sn sub ab col dd k0 k1 k2 k3 k5, K.lookup C = some (excClassObj nm q C N bs bm true sn sub ab col dd k0 k1 k2 k3 k5 newId) ∧ PySem.W.excTail bmB bm = true) ∧
  PySem.W.findIn K (.ref C) "__setattr__" = some (some (.builtin "object.__setattr__")) ∧ PySem.W.subIn K (.ref C) (.type "BaseException") = some true ∧ PySem.W.typeIn K (.ref C) = some (.type "type") ∧ PySem.W.keepIn K (.ref C) = true ∧
  PySem.W.findIn K (.ref C) "__init__" = some (some (.ref fI)) ∧ PySem.W.typeIn K (.ref fI) = some (.type "function") ∧ K.lookup fI = some ⟨oc, od, .func (PySem.W.fnOf "__init__" (x ++ ".__init__") (defArgs st) (defBody st) (defScope st) .none kV doc pm an cdv ct), osl⟩ ∧ PySem.W.codeIn K cdv (x ++ ".__init__") = true ∧
  ∀ f ∈ fl, PySem.W.findIn K (.ref C) f = some none
theorem clsAt_of {K : PySem.W.Frag} {h : Heap} {mg : Str → Option Value} {x : Str} {B newId initId : String} {bmB : List Value} {st : Stmt} {fl : List Str} (XK : K.In h) (G : h.Ns mainGlobals mg) (b : PySem.ExcBaseFacts B newId initId bmB) (s : PySem.StoreFacts B bmB "object.__setattr__" "object") (D : ClsK K x newId bmB st fl) : ClsAt K mg x B newId initId bmB st fl := by
  obtain ⟨C, fI, kV, doc, pm, an, cdv, ct, oc, od, osl, h0, h1, h2, h3, h4, h5, h6, h7, h8, h9, h10⟩ := D
  exact ⟨C, fI, kV, doc, pm, an, cdv, ct, oc, od, osl, PySem.W.mg_of XK G h0, ⟨b, s, h1, h2, h3, h4, h5⟩, h6, h7, h8, h9, h10⟩
end PL
namespace PL
open PySem PySem.Spec PyProof.Rows L2
end PL
namespace PL
open PySem PySem.Spec PySem.W PyProof.Rows L2
/-- what K tells of the makers qs, their code objects and tables cs (all in ts) -/
structure TabK (K : Frag) (ts : List Addr) (qs : List Str) (cs : List (Addr × Addr)) : Prop where
  nd : (cs.map (·.2)).Nodup
  name : qs.map (tabP K) = cs.map fun p => some p.2
  all : ∀ p ∈ cs, codeHdIn K p.1 p.2 = true ∧ K.lookup p.2 = none ∧ p.2 ∈ ts
  fn : ∀ (i : Nat) (q : Str) (p : Addr × Addr), qs[i]? = some q → cs[i]? = some p → ∃ (f : Addr) (oc : Value) (od : Option Addr) (fd : FuncData) (osl : Array (Option Value)), nsIn K mainGlobals q = some (some (.ref f)) ∧ K.lookup f = some ⟨oc, od, .func fd, osl⟩ ∧ fd.code = .ref p.1
theorem tabP_of {K : Frag} {q : Str} {f c P : Addr} {oc oC : Value} {od dC : Option Addr} {fd : FuncData} {osl sC : Array (Option Value)} {vs : Array Value} (h1 : nsIn K mainGlobals q = some (some (.ref f))) (h2 : K.lookup f = some ⟨oc, od, .func fd, osl⟩) (h3 : fd.code = .ref c) (h4 : K.lookup c = some ⟨oC, dC, .fields vs, sC⟩) (h5 : vs[11]? = some (.ref P)) :
    tabP K q = some P := by
  unfold tabP
  rw [h1]
  simp only [h2, h3, h4, h5]
/-- what K tells of a maker -/
def MkP (K : Frag) (ts : List Addr) (q : Str) (p : Addr × Addr) : Prop := ∃ (f : Addr) (oc : Value) (od : Option Addr) (fd : FuncData) (osl : Array (Option Value)) (oC : Value) (dC : Option Addr) (vs : Array Value) (sC : Array (Option Value)),
  nsIn K mainGlobals q = some (some (.ref f)) ∧ K.lookup f = some ⟨oc, od, .func fd, osl⟩ ∧ fd.code = .ref p.1 ∧ K.lookup p.1 = some ⟨oC, dC, .fields vs, sC⟩ ∧ vs[11]? = some (.ref p.2) ∧ codeHdIn K p.1 p.2 = true ∧ K.lookup p.2 = none ∧ p.2 ∈ ts
inductive MkPs (K : Frag) (ts : List Addr) : List Str → List (Addr × Addr) → Prop
  | nil : MkPs K ts [] []
  | cons {q : Str} {p : Addr × Addr} {qs : List Str} {cs : List (Addr × Addr)} (h : MkP K ts q p) (r : MkPs K ts qs cs) : MkPs K ts (q :: qs) (p :: cs)
theorem MkPs.tab {K : Frag} {ts : List Addr} {qs : List Str} {cs : List (Addr × Addr)} (h : MkPs K ts qs cs) (nd : (cs.map (·.2)).Nodup) : TabK K ts qs cs := by
  have name : qs.map (tabP K) = cs.map fun p => some p.2 := by
    clear nd
    induction h with
    | nil => rfl
    | cons h r ih =>
      obtain ⟨f, oc, od, fd, osl, oC, dC, vs, sC, h1, h2, h3, h4, h5, _⟩ := h
      rw [List.map_cons, List.map_cons, ih, tabP_of h1 h2 h3 h4 h5]
  refine ⟨nd, name, fun p hp => ?_, fun i q p hq hp => ?_⟩
  · clear nd name
    induction h with
    | nil => simp at hp
    | cons h r ih =>
      rcases List.mem_cons.mp hp with z | z
      · obtain ⟨f, oc, od, fd, osl, oC, dC, vs, sC, h1, h2, h3, h4, h5, h6, h7, h8⟩ := h
        rw [z]; exact ⟨h6, h7, h8⟩
      · exact ih z
  · clear nd name
    induction h generalizing i with
    | nil => simp at hq
    | cons h r ih =>
      cases i with
      | zero =>
        simp at hq hp
        subst hq hp
        obtain ⟨f, oc, od, fd, osl, oC, dC, vs, sC, h1, h2, h3, _⟩ := h
        exact ⟨f, oc, od, fd, osl, h1, h2, h3⟩
      | succ i => exact ih i (by simpa using hq) (by simpa using hp)
theorem TabK.hd {K : Frag} {h : Heap} {ts : List Addr} {qs : List Str} {cs : List (Addr × Addr)} (T : TabK K ts qs cs) (X : K.In h) (e : ∀ P ∈ ts, h.get? P = some { cls := .none, data := .fields #[] }) : TabHdL K h qs cs :=
  ⟨fun p hp => e _ (T.all p hp).2.2, fun p hp => (T.all p hp).2.1, fun p hp => codeHd_of_K X (T.all p hp).1, T.nd, T.name⟩
theorem TabK.at {K : Frag} {h base : Heap} {mg : Str → Option Value} {ts : List Addr} {qs : List Str} {cs : List (Addr × Addr)} {q : Str} (T : TabK K ts qs cs) (X : K.In h) (G : h.Ns mainGlobals mg) (B : ∀ p ∈ cs, LamX.TabB base mg p.1 p.2) (i : Nat) (hq : qs[i]? = some q) : TabFn K mg base q := by
  have hn : (qs.map (tabP K))[i]? = some (tabP K q) := by rw [List.getElem?_map, hq]; rfl
  rw [T.name, List.getElem?_map] at hn
  cases hp : cs[i]? with
  | none => rw [hp] at hn; cases hn
  | some p =>
    rw [hp] at hn
    obtain ⟨f, oc, od, fd, osl, h1, h2, h3⟩ := T.fn i q p hq hp
    exact ⟨f, oc, od, fd, osl, p.1, p.2, mg_of X G h1, h2, h3, (Option.some.inj hn).symm, B p (List.mem_of_getElem? hp)⟩
theorem law_endT {Pr : Program} {w : World} {K : Frag} {mg : Str → Option Value} {k n gi : Nat} {x y : Str} {st : Stmt} {N : List Str} {r : SS} {fa : Addr} {h : Heap} {ts : List Addr} {qs : List Str} {cs : List (Addr × Addr)} (F : DefAt K mg "law" st) (S : FnScope N [x] (defScope st)) (bd : BindP "law" st [x])
    (hy : N[gi]? = some y) (hvy : ¬ Vis (defScope st) y) (hga : 1 ≤ gi) (T : TabK K ts qs cs) (X : K.In h) (e : ∀ P ∈ ts, h.get? P = some { cls := .none, data := .fields #[] })
    (hb : ∀ base, SysD base → (∀ p ∈ cs, LamX.TabB base mg p.1 p.2) → BdOk Pr w K mg base k "law" st N (gi :: []) r)
    (hfa : mg "law" = some (.ref fa)) (hm : ∀ ns : List Int, ns.length ≤ n → (∀ z ∈ ns, Builtin.Int.intBits z ≤ 1048576) → ∃ c outs, bodyT N.length gi [] 1 r [.tabs qs, .frz (.ro ns)] = .ok c outs ∧ c.toD = .bl true) :
    ∃ (fd : FuncData) (m : List C → Out C) (qs : List Str) (cs : List (Addr × Addr)), (∀ (s : Shared) (u : Value), BindsTo s fd ⟨[u], []⟩ [(x, u)]) ∧ TabHdL K h qs cs ∧
        (∀ base : Heap, K.In base → base.Ns mainGlobals mg → SysD base → (∀ p ∈ cs, LamX.TabB base mg p.1 p.2) → FnG Pr w K mg base (k + 1) fa fd [x] (spT K mg 1 m)) ∧
        ∀ ns : List Int, ns.length ≤ n → (∀ z ∈ ns, Builtin.Int.intBits z ≤ 1048576) → ∃ c outs, m [.tabs qs, .frz (.ro ns)] = .ok c outs ∧ c.toD = .bl true := by
  obtain ⟨f, oc, od, kV, doc, pm, an, cdv, ct, osl, h1, h2, h3, h4⟩ := F.ex
  rw [hfa] at h1
  cases h1
  refine ⟨_, _, qs, cs, fun s u => .of_eq (bd kV doc pm an cdv ct [u] rfl), T.hd X e, fun base KB GB hS TB => ?_, hm⟩
  exact fnT_of h3 h4 S hy hvy hga fun A outer s H E hg hr => hb base hS TB fa cdv A outer s H E hg hr
end PL
namespace PL
open PySem PySem.Spec PyProof.Rows L2
end PL
namespace PL
open PySem PySem.Spec PyProof.Rows L2
/-- the class x, over the built-in B, with no __init__ of its own -/
structure Cls0At (K : PySem.W.Frag) (mg : Str → Option Value) (x : Str) (B newId initId : String) (bmB : List Value) : Prop where
  ex : ∃ C, mg x = some (.ref C) ∧ PySem.ExcBaseFacts B newId initId bmB ∧ PySem.W.excIn K C bmB newId = true ∧ PySem.W.keepIn K (.ref C) = true ∧ PySem.W.subIn K (.ref C) (.type "BaseException") = some true ∧ PySem.W.typeIn K (.ref C) = some (.type "type")
/-- what K tells of it -/
def Cls0K (K : PySem.W.Frag) (x : Str) (newId : String) (bmB : List Value) : Prop := ∃ C, PySem.W.nsIn K mainGlobals x = some (some (.ref C)) ∧ PySem.W.excIn K C bmB newId = true ∧ PySem.W.keepIn K (.ref C) = true ∧ PySem.W.subIn K (.ref C) (.type "BaseException") = some true ∧ PySem.W.typeIn K (.ref C) = some (.type "type")
theorem cls0At_of {K : PySem.W.Frag} {h : Heap} {mg : Str → Option Value} {x : Str} {B newId initId : String} {bmB : List Value} (XK : K.In h) (G : h.Ns mainGlobals mg) (b : PySem.ExcBaseFacts B newId initId bmB) (D : Cls0K K x newId bmB) : Cls0At K mg x B newId initId bmB := by
  obtain ⟨C, h0, h1, h2, h3, h4⟩ := D
  exact ⟨C, PySem.W.mg_of XK G h0, b, h1, h2, h3, h4⟩
section
variable {X : Cx} {w : WX} {pn : List Nat} {B newId initId : String} {bmB : List Value} {C : Addr} {x : Str} {pp pos pos' : Pos}
theorem pmk_own0 (F : ExcBaseFacts B newId initId bmB) (q : PySem.W.excIn X.K C bmB newId = true) (gC : X.mg x = some (.ref C)) (kC : PySem.W.keepIn X.K (.ref C) = true) (r : Raises X (.ref C)) (hg : Gl X x)
    (hdb : (x == ("__debug__" : Str)) = false := by decide) : PMk X (.Call (.Name x pp) [] [] pos) (fun _ H Q => Q (.ref C) none H) := by
  intro pins s σ H Q I h
  refine wpAny_Call_Name_kw (ld_glob I hg gC ?_ hdb)
  refine PySem.W.callWith_K0 I.kIn kC ?_
  show wpAny _ _ (call (.ref C) []) _ _ _
  obtain ⟨bm, N, nm, qn, bs, hdct, sn, sub, ab, col, dd, k0, k1, k2, k3, k5, mN, hC, hN, hni, T⟩ := exc_obj I.kIn q
  refine wpAny_call_exc_subT F T hC hN hni (fun h' e hm => ?_) (by show 0 ≤ sizeLine; omega)
  exact mk_of I hm r h (I.hok.gone hm.new)
def sErr0 (x : Str) : SS := fun env => .err ⟨x, none⟩ env
theorem s_raise0 (hc : X.calm = true) (tk : Takes X w) (CA : Cls0At X.K X.mg x B newId initId bmB) (hg : Gl X x) (hdb : (x == ("__debug__" : Str)) = false := by decide) : SOk X w pn (.Raise (some (.Call (.Name x pp) [] [] pos)) none pos') (sErr0 x) := by
  obtain ⟨C, h1, h2, h3, h4, h5, h6⟩ := CA.ex
  refine (ps_raise hc tk (pmk_own0 h2 h3 h1 h4 (raises_own h5 h6) hg hdb)).imp fun D σ H h => ?_
  obtain ⟨Bs, env, O, s, h⟩ := h
  exact h σ _ none H O ⟨h1, rfl, s, Frm.refl⟩ Pin.refl
end
end PL
namespace PL
open PySem PySem.Spec PyProof.Rows L2
def BindPK (x : Str) (st : Stmt) (ps ks : List Str) (a : Nat) (js : List Nat) : Prop := ∀ (kV doc pm : Value) (an : Option Addr) (cdv ct : Value) (us ws : List Value), us.length = a → ws.length = ks.length →
  bindArgs (PySem.W.fnOf x x (defArgs st) (defBody st) (defScope st) .none kV doc pm an cdv ct) ⟨us, ks.zip ws⟩ = pure (ps.zip (pick js (us ++ ws)))
section
variable {X : Cx} {w : WX} {H : Hp} {σ : L2.St} {e : Expr} {es : List Expr} {ps kp : List P} {pos pp : Pos}
def eFnPK (m : List C → Out C) (js : List Nat) (ps kp : List P) : M C := fun env => match evPs ps env with
  | some d1 => match evPs kp env with
    | some d2 => match m ((pick js (d1 ++ d2)).map .frz) with
      | .ok c _ => .ok (.frz c.toD) env
      | .err x _ => .err x env
      | .no => .no
    | none => .no
  | none => .no
theorem isL_app {K : PySem.W.Frag} {W : Addr → Prop} {H : Hp} : ∀ {d1 d2 : List D} {v1 v2 : List V}, IsL K W H d1 v1 → IsL K W H d2 v2 → IsL K W H (d1 ++ d2) (v1 ++ v2)
  | [], d2, v1, v2, h1, h2 => by rw [show v1 = [] from h1]; exact h2
  | d :: r, d2, v1, v2, h1, h2 => by
    obtain ⟨x, ys, rfl, h3, h4⟩ := h1
    exact ⟨x, ys ++ v2, rfl, h3, isL_app h4 h2⟩
theorem e_fnPK {k a : Nat} {x : Str} {st : Stmt} {qs ks : List Str} {js : List Nat} {m : List C → Out C} {kws : List Keyword} (F : FnM X.prog X.w X.K X.mg X.base k x st qs m) (bd : BindPK x st qs ks a js) (hg : X.A.guards = some []) (hr : Room k X.A) (tk : Takes X w) (gl : Gl X x)
    (ha : ADk X (e :: es) ps) (hk : KDk X kws kp) (hl : ps.length = a := by rfl) (hlk : kp.length = ks.length := by rfl) (hall : (backToKw pos (keywordEach kws X.env)).all (·.1.isSome) = true := by rfl) (hks : (backToKw pos (keywordEach kws X.env)).filterMap (·.1) = ks := by rfl) (hdb : (x == ("__debug__" : Str)) = false := by decide)
    (hpl : ((backTo pos (starEach (e :: es) X.env)).any (·.1) || (backToKw pos (keywordEach kws X.env)).any (·.1.isNone)) = false := by rfl) (he : starEach (e :: es) X.env = (false, eval e X.env) :: starEach es X.env := by rfl)
    (hj : ∀ ds : List D, ds.length = a + ks.length → (pick js ds).length = qs.length) :
    EOk X w (.Call (.Name x pp) (e :: es) kws pos) (eFnPK m js ps kp) := by
  obtain ⟨f, kV, doc, pm, an, cdv, ct, hm, kpp, G⟩ := F.ex
  refine ⟨fun pins s σ H Q I h => ?_⟩
  obtain ⟨B, env, O, st, h⟩ := h
  unfold eFnPK at h
  cases e1 : evPs ps env with
  | none => rw [e1] at h; exact h.elim
  | some d1 =>
    rw [e1] at h
    simp only [] at h
    cases e2 : evPs kp env with
    | none => rw [e2] at h; exact h.elim
    | some d2 =>
      rw [e2] at h
      simp only [] at h
      have want : rdD X ps σ H fun us H1 => rdD X kp σ H1 fun ws H2 => us.length = a ∧ ws.length = ks.length ∧ spM X.K X.mg qs.length m (pick js (us ++ ws)) H2 Q (EofW w σ) := by
        refine ⟨B, env, O, st, d1, e1, fun us H1 g1 hu => ⟨B, env, O, st.grw g1, d2, e2, fun ws H2 g2 hw => ⟨by rw [hu.length, evPs_len e1]; exact hl, by rw [hw.length, evPs_len e2]; exact hlk, ?_⟩⟩⟩
        have hp := pick_is (isL_app (hu.grw g2) hw) js
        have s1 := st.grw (g1.trans g2)
        refine ⟨hp.length.trans (hj _ (by rw [List.length_append, evPs_len e1, evPs_len e2, hl, hlk])), fun a => B a ∨ a ∈ O, (pick js (d1 ++ d2)).map .frz, [], hp.stt s1, ?_⟩
        have g12 := g1.trans g2
        cases em : m ((pick js (d1 ++ d2)).map .frz) with
        | no => rw [em] at h; exact h
        | ok c outs =>
          rw [em] at h
          intro u H' A O' r
          have g : Grw H H' := fun a o z => (r.frm a o (fun z => nomatch z) (g12 a o z)).1
          exact h u H' [] O (Res.new (st.grw g) (frm_grw g) (New.of_is (Is.kp (Kp.less fun a z => .inl z) _ _ r.is)))
        | err y outs =>
          rw [em] at h
          intro cls d H' O' r
          have g : Grw H H' := fun a o z => (r.frm a o (fun z => nomatch z) (g12 a o z)).1
          exact h cls d H' O (XRes.mk' r.cls (r.xfs.less fun a z => .inl z) (st.grw g) (frm_grw g))
      refine wpAny_Call_Name_kw (ld_glob I gl hm ?_ hdb)
      refine PySem.W.callWith_KW (h₀ := X.base) I.ok.mod.kin kpp hall (thn (ha.run pos pins s σ H _ I want) ?_) hpl he
      rintro us s1 ⟨vs, H1, I1, r1, q⟩
      refine thn (hk.run pos pins s1 σ H1 _ I1 q) ?_
      rintro ws s2 ⟨zs, H2, I2, r2, q1, q2, q3⟩
      rw [hks]
      exact ⟨I2.kIn, run_G G hg hr (fun e s' c => tk e s' (XE.of_call I2 (fun _ _ _ z => z) c)) (.of_eq (bd kV doc pm an cdv ct us ws (r1.length.symm.trans q1) (r2.length.symm.trans q2))) I2 (pick_vals (r1.append r2) js) q3⟩
end
end PL
namespace k10
open PySem PySem.Spec PyProof.Rows L2 PL
def is_integer_b : SS := sRet (eP (pAnd (pCall isiF [pV 0, pK (.opq (.ty "int"))]) (pNot (pCall isiF [pV 0, pK (.opq (.ty "bool"))]))))
def is_integer_m : List C → Out C := bodyM 1 [] 1 is_integer_b
def is_list_b : SS := sRet (eP (pCall isiF [pV 0, pTup [pK (.opq (.ty "list")), pK (.opq (.ty "tuple"))]]))
def is_list_m : List C → Out C := bodyM 1 [] 1 is_list_b
def divisor_of_b : SS := sSeq (sPar [2, 3] [eP (pCall absF [pV 0]), eP (pCall absF [pV 1])]) (sSeq (sWhF 500 (tP (qOf (pOp neV' (pV 3) (pK (.int 0))))) (sPar [2, 3] [eP (pV 3), eP (pOp subI (pV 2) (pOp mulI (pOp fdivI (pV 2) (pV 3)) (pV 3)))])) (sRet (eP (pV 2))))
def divisor_of_m : List C → Out C := bodyM 4 [] 2 divisor_of_b
def power_by_b : SS := sSeq (sSet 2 (eP (pK (.int 1)))) (sSeq (sFor (rngM [eP (pV 1)]) (gV false 3) (sSet 2 (eP (pOp mulI (pV 2) (pV 0))))) (sRet (eP (pV 2))))
def power_by_m : List C → Out C := bodyM 4 [] 2 power_by_b
def square_root_b : SS := sSeq (sIf (tP (qOf (pOp (cmpI iLt) (pV 0) (pK (.int 0))))) (sRet (eP (pK .non))) (sNx)) (sSeq (sSet 1 (eP (pOp addI (pV 0) (pK (.int 1))))) (sWhF 500 (tP (qOf (pK (.bl true)))) (sSeq (sIf (tP (qOf (pOp eqV' (pV 1) (pK (.int 0))))) (sRet (eP (pK (.int 0)))) (sNx)) (sSeq (sSet 2 (eP (pOp fdivI (pOp addI (pV 1) (pOp fdivI (pV 0) (pV 1))) (pK (.int 2))))) (sSeq (sIf (tP (qOf (pOp (cmpI iGe) (pV 2) (pV 1)))) (sRet (eP (pIf (qOf (pOp eqV' (pOp mulI (pV 1) (pV 1)) (pV 0))) (pV 1) (pK .non)))) (sNx)) (sSet 1 (eP (pV 2))))))))
def square_root_m : List C → Out C := bodyM 3 [] 1 square_root_b
def has_divisor_b : SS := sSeq (sSet 1 (eP (pK (.int 2)))) (sSeq (sWhF 500 (tP (qOf (pOp (cmpI iLe) (pOp mulI (pV 1) (pV 1)) (pV 0)))) (sSeq (sIf (tP (qOf (pOp eqV' (pOp mulI (pOp fdivI (pV 0) (pV 1)) (pV 1)) (pV 0)))) (sRet (eP (pK (.bl true)))) (sNx)) (sSet 1 (eP (pOp addI (pV 1) (pK (.int 1))))))) (sRet (eP (pK (.bl false)))))
def has_divisor_m : List C → Out C := bodyM 2 [] 1 has_divisor_b
def trimmed_b : SS := sSeq (sSet 1 (eP (pCall lenF [pV 0]))) (sSeq (sWhF 500 (tP (qAnd (qOf (pOp (cmpI iGt) (pV 1) (pK (.int 0)))) (qOf (pOp eqV' (pIx (pV 0) (pOp subI (pV 1) (pK (.int 1)))) (pK (.int 0)))))) (sSet 1 (eP (pOp subI (pV 1) (pK (.int 1)))))) (sRet (eP (pF (fSq (pF (fSl (lP (pV 0)) none (some (pV 1)))))))))
def trimmed_m : List C → Out C := bodyM 2 [] 1 trimmed_b
def scaled_line_b : SS := sRet (eIf (tP (qOf (pOp neV' (pV 1) (pK (.int 0))))) (eF (fComp [2] (gV true 2) (fun _ => some true) (pOp mulI (pV 1) (pV 2)) (fSq (pV 0)))) (eF (evPs [])))
def scaled_line_m : List C → Out C := bodyM 3 [] 2 scaled_line_b
def times_lines_b : SS := sSeq (sIf (tP (qOr (qOf (pOp eqV' (pCall lenF [pV 0]) (pK (.int 0)))) (qOf (pOp eqV' (pCall lenF [pV 1]) (pK (.int 0)))))) (sRet (eP (pF (evPs [])))) (sNx)) (sSeq (sSet 2 (eF (fRep (evPs [pK (.int 0)]) (pOp subI (pOp addI (pCall lenF [pV 0]) (pCall lenF [pV 1])) (pK (.int 1)))))) (sSeq (sFor (mP (enumS (pV 0))) (gTupD 2 (gsCons (gV false 3) (gsCons (gV false 4) gsNil))) (sIf (tP (qOf (pOp neV' (pV 4) (pK (.int 0))))) (sFor (mP (enumS (pV 1))) (gTupD 2 (gsCons (gV false 5) (gsCons (gV false 6) gsNil))) (sAugIx addI 2 (paV 2) (pOp addI (pV 3) (pV 5)) (pOp mulI (pV 4) (pV 6)))) (sNx))) (sRet (eV 2))))
def times_lines_m : List C → Out C := bodyM 7 [] 2 times_lines_b
def value_at_b : SS := sSeq (sSet 2 (eP (pK (.int 0)))) (sSeq (sFor (mSq (eP (pF (fRev (lP (pV 0)))))) (gV false 3) (sSet 2 (eP (pOp addI (pOp mulI (pV 2) (pV 1)) (pV 3))))) (sRet (eP (pV 2))))
def value_at_m : List C → Out C := bodyM 4 [] 2 value_at_b
def slope_of_b : SS := sRet (eP (pF (fSl (fComp [1, 2] (gTupD 2 (gsCons (gV true 1) (gsCons (gV true 2) gsNil))) (fun _ => some true) (pOp mulI (pV 1) (pV 2)) (enumS (pV 0))) (some (pK (.int 1))) none)))
def slope_of_m : List C → Out C := bodyM 3 [] 1 slope_of_b
def rest_by_b : SS := sRet (eP (pOp subI (pV 0) (pOp mulI (pOp fdivI (pV 0) (pV 1)) (pV 1))))
def rest_by_m : List C → Out C := bodyM 2 [] 2 rest_by_b
def _law_pot_b : SS := sSeq (sSet 2 (eP (pIf (qOf (pOp (cmpI iLt) (pV 1) (pCall lenF [pV 0]))) (pCall absF [pIx (pV 0) (pV 1)]) (pOp addI (pOp mulI (pK (.int 541)) (pV 1)) (pK (.int 491)))))) (sRet (eF (evPs [pCall maxF [pK (.int 0), pOp subI (pV 2) (pOp powI (pK (.int 10)) (pK (.int 18)))], pOp addI (pOp modI (pCall intF [pOp addI (pOp addI (pOp mulI (pOp modI (pCall intF [pV 2]) (pK (.int 2147483549))) (pK (.int 40939))) (pOp mulI (pK (.int 4021)) (pV 1))) (pK (.int 503))]) (pK (.int 2147483563))) (pK (.int 1))])))
def _law_pot_m : List C → Out C := bodyM 3 [] 2 _law_pot_b
def _law_draw_b : SS := sSeq (sIf (tP (qOf (pOp (cmpI iGt) (bKf (kIx (kV 0) (pK (.int 0)))) (pK (.int 0))))) (sSeq (sAsg (eP (pDm (bKf (kIx (kV 0) (pK (.int 0)))) (pV 1))) (gTupD 2 (gsCons (gIx 0 (paV 0) (pK (.int 0))) (gsCons (gV false 2) gsNil)))) (sRet (eP (pV 2)))) (sNx)) (sSeq (sAsg (eP (pOp modI (pCall intF [pOp addI (pOp mulI (bKf (kIx (kV 0) (pK (.int 1)))) (pK (.int 40014))) (pK (.int 1109))]) (pK (.int 2147483563)))) (gIx 0 (paV 0) (pK (.int 1)))) (sRet (eP (pOp modI (pCall intF [pOp fdivI (pOp modI (pCall intF [pOp mulI (bKf (kIx (kV 0) (pK (.int 1)))) (bKf (kIx (kV 0) (pK (.int 1))))]) (pK (.int 2147483587))) (pK (.int 21))]) (pV 1)))))
def _law_draw_m : List C → Out C := bodyM 3 [0] 2 _law_draw_b
def greatest_of_b : SS := sSeq (sSet 1 (eP (pK (.int 0)))) (sSeq (sFor (mSq (eP (pV 0))) (gV false 2) (sSet 1 (eP (pFn divisor_of_m [pV 1, pV 2])))) (sRet (eP (pV 1))))
def greatest_of_m : List C → Out C := bodyM 3 [] 1 greatest_of_b
def plus_lines_b : SS := sSeq (sAsg (eP (pIf (qOf (pOp (cmpI iGe) (pCall lenF [pV 0]) (pCall lenF [pV 1]))) (pTup [pV 0, pV 1]) (pTup [pV 1, pV 0]))) (gTupD 2 (gsCons (gV false 2) (gsCons (gV false 3) gsNil)))) (sRet (eP (pFn trimmed_m [pF (fCat (fComp [4] (gV true 4) (fun _ => some true) (pOp addI (pIx (pV 2) (pV 4)) (pIx (pV 3) (pV 4))) (rngP [pCall lenF [pV 3]])) (fSq (pF (fSl (lP (pV 2)) (some (pCall lenF [pV 3])) none))))])))
def plus_lines_m : List C → Out C := bodyM 5 [] 2 plus_lines_b
def line_in_b : SS := sSeq (sIf (tP (qOr (qNot (qOf (pFn is_list_m [pV 0]))) (qOr (qOf (pOp (cmpI iGt) (pCall lenF [pV 0]) (pOp addI (pK (.int 12)) (pK (.int 1))))) (qNot (qOf (pCall allF [pF (fComp [1] (gV true 1) (fun _ => some true) (pFn is_integer_m [pV 1]) (fSq (pV 0)))])))))) (sRet (eP (pK .non))) (sNx)) (sRet (eP (pIf (qOr (qOf (pOp eqV' (pCall lenF [pV 0]) (pK (.int 0)))) (qOf (pOp neV' (pIx (pV 0) (pNeg (pK (.int 1)))) (pK (.int 0))))) (pF (fSq (pV 0))) (pK .non))))
def line_in_m : List C → Out C := bodyM 2 [] 1 line_in_b
def fit_prime_b : SS := sSeq (sPar [1, 2] [eP (pK (.int 1)), eP (pFn slope_of_m [pV 0])]) (sWhF 500 (tP (qOf (pK (.bl true)))) (sSeq (sSet 1 (eP (pOp addI (pV 1) (pK (.int 1))))) (sIf (tP (qNot (qOf (pFn has_divisor_m [pV 1])))) (sSeq (sSet 3 (eFrz (eF (fComp [4] (gV true 4) (qOf (pOp eqV' (pFn rest_by_m [pFn value_at_m [pV 0, pV 4], pV 1]) (pK (.int 0)))) (pV 4) (rngP [pV 1]))))) (sIf (tP (qOf (pCall allF [pF (fComp [4] (gV true 4) (fun _ => some true) (pOp neV' (pFn rest_by_m [pFn value_at_m [pV 2, pV 4], pV 1]) (pK (.int 0))) (fSq (pV 3)))]))) (sRet (eP (pTup [pV 1, pV 3]))) (sNx))) (sNx))))
def fit_prime_m : List C → Out C := bodyM 5 [] 1 fit_prime_b
def undone_by_b : SS := sRet (eP (pIx (pF (fComp [2] (gV true 2) (qOf (pOp eqV' (pFn rest_by_m [pOp mulI (pV 2) (pV 0), pV 1]) (pK (.int 1)))) (pV 2) (rngP [pK (.int 1), pV 1]))) (pK (.int 0))))
def undone_by_m : List C → Out C := bodyM 3 [] 2 undone_by_b
def want_at_most_b : SS := sIf (tP (qOf (pOp (cmpI iGt) (pV 2) (pV 1)))) (sErr "TooMany" ["what", "limit"] [pV 0, pV 1]) (sNx)
def want_at_most_m : List C → Out C := bodyM 3 [] 3 want_at_most_b
def want_number_b : SS := sIf (tP (qNot (qOf (pFn is_integer_m [pV 0])))) (sErr "InvalidNumber" ["value"] [pV 0]) (sNx)
def want_number_m : List C → Out C := bodyM 1 [] 1 want_number_b
def minus_lines_b : SS := sRet (eP (pFn plus_lines_m [pV 0, pFn scaled_line_m [pV 1, pNeg (pK (.int 1))]]))
def minus_lines_m : List C → Out C := bodyM 2 [] 2 minus_lines_b
def plain_of_b : SS := sSeq (sIf (tP (qOf (pOp eqV' (pCall lenF [pV 0]) (pK (.int 0))))) (sRet (eP (pF (evPs [])))) (sNx)) (sSeq (sSet 1 (eP (pFn greatest_of_m [pV 0]))) (sSeq (sIf (tP (qOf (pOp (cmpI iLt) (pIx (pV 0) (pNeg (pK (.int 1)))) (pK (.int 0))))) (sSet 1 (eP (pOp subI (pK (.int 0)) (pV 1)))) (sNx)) (sRet (eP (pF (fComp [2] (gV true 2) (fun _ => some true) (pOp fdivI (pV 2) (pV 1)) (fSq (pV 0))))))))
def plain_of_m : List C → Out C := bodyM 3 [] 1 plain_of_b
def want_line_b : SS := sSeq (sSet 1 (eP (pFn line_in_m [pV 0]))) (sSeq (sIf (tP (qOf (pOp isN (pV 1) (pK .non)))) (sErr "InvalidLine" ["value"] [pV 0]) (sNx)) (sRet (eP (pV 1))))
def want_line_m : List C → Out C := bodyM 2 [] 1 want_line_b
def lifted_root_b : SS := sSeq (sPar [4, 5] [eP (pFn slope_of_m [pV 0]), eP (pV 1)]) (sSeq (sSet 6 (eP (pFn undone_by_m [pFn rest_by_m [pFn value_at_m [pV 4, pV 2], pV 1], pV 1]))) (sSeq (sWhF 500 (tP (qOf (pOp (cmpI iLe) (pV 5) (pOp mulI (pK (.int 2)) (pV 3))))) (sSeq (sSet 5 (eP (pOp mulI (pV 5) (pV 5)))) (sSeq (sSet 2 (eP (pFn rest_by_m [pOp subI (pV 2) (pOp mulI (pFn value_at_m [pV 0, pV 2]) (pV 6)), pV 5]))) (sSet 6 (eP (pFn rest_by_m [pOp mulI (pV 6) (pOp subI (pK (.int 2)) (pOp mulI (pFn value_at_m [pV 4, pV 2]) (pV 6))), pV 5])))))) (sRet (eP (pIf (qOf (pOp (cmpI iLt) (pOp mulI (pK (.int 2)) (pV 2)) (pV 5))) (pV 2) (pOp subI (pV 2) (pV 5)))))))
def lifted_root_m : List C → Out C := bodyM 7 [] 4 lifted_root_b
def greatest_b : SS := sSeq (sDrop (eFn want_number_m [eP (pV 0)])) (sSeq (sDrop (eFn want_number_m [eP (pV 1)])) (sRet (eP (pFn divisor_of_m [pV 0, pV 1]))))
def greatest_m : List C → Out C := bodyM 2 [] 2 greatest_b
def parted_b : SS := sSeq (sPar [2, 3, 4] [eP (pK (.int 1)), eP (pF (fSq (pV 0))), eF (evPs [])]) (sSeq (sIf (tP (qOf (pOp (cmpI iGe) (pCall lenF [pV 0]) (pCall lenF [pV 1])))) (sSet 4 (eF (fRep (evPs [pK (.int 0)]) (pOp addI (pOp subI (pCall lenF [pV 0]) (pCall lenF [pV 1])) (pK (.int 1)))))) (sNx)) (sSeq (sWhF 500 (tP (qOf (pOp (cmpI iGe) (pCall lenF [pV 3]) (pCall lenF [pV 1])))) (sSeq (sPar [6, 7] [eP (pOp subI (pCall lenF [pV 3]) (pCall lenF [pV 1])), eP (pIx (pV 3) (pNeg (pK (.int 1))))]) (sSeq (sPar [2, 4] [eP (pOp mulI (pV 2) (pIx (pV 1) (pNeg (pK (.int 1))))), eFnO scaled_line_m [eV 4, eP (pIx (pV 1) (pNeg (pK (.int 1))))]]) (sSeq (sAugIx addI 4 (paV 4) (pV 6) (pV 7)) (sSeq (sSet 8 (eP (pF (fCat (fRep (evPs [pK (.int 0)]) (pV 6)) (lP (pFn scaled_line_m [pV 1, pV 7])))))) (sSet 3 (eP (pFn minus_lines_m [pFn scaled_line_m [pV 3, pIx (pV 1) (pNeg (pK (.int 1)))], pV 8])))))))) (sSeq (sSet 5 (eP (pFn greatest_of_m [pF (fCat (fCat (evPs [pV 2]) (lKf (kV 4))) (lP (pV 3)))]))) (sSeq (sIf (tP (qOf (pOp (cmpI iLt) (pV 2) (pK (.int 0))))) (sSet 5 (eP (pOp subI (pK (.int 0)) (pV 5)))) (sNx)) (sRet (eP (pTup [pOp fdivI (pV 2) (pV 5), pF (fComp [9] (gV true 9) (fun _ => some true) (pOp fdivI (pV 9) (pV 5)) (lKf (kV 4))), pF (fComp [9] (gV true 9) (fun _ => some true) (pOp fdivI (pV 9) (pV 5)) (fSq (pV 3)))])))))))
def parted_m : List C → Out C := bodyM 10 [] 2 parted_b
def two_lines_b : SS := sSeq (sSet 2 (eFn want_line_m [eP (pV 0)])) (sRet (eTup [eP (pV 2), eFn want_line_m [eP (pV 1)]]))
def two_lines_m : List C → Out C := bodyM 3 [] 2 two_lines_b
def degree_b : SS := sRet (eOp subI (eCall lenF [eFn want_line_m [eP (pV 0)]]) (eP (pK (.int 1))))
def degree_m : List C → Out C := bodyM 1 [] 1 degree_b
def line_value_b : SS := sSeq (sSet 2 (eFn want_line_m [eP (pV 0)])) (sSeq (sDrop (eFn want_number_m [eP (pV 1)])) (sRet (eP (pFn value_at_m [pV 2, pV 1]))))
def line_value_m : List C → Out C := bodyM 3 [] 2 line_value_b
def line_slope_b : SS := sRet (eFn slope_of_m [eFn want_line_m [eP (pV 0)]])
def line_slope_m : List C → Out C := bodyM 1 [] 1 line_slope_b
def plain_line_b : SS := sRet (eFn plain_of_m [eFn want_line_m [eP (pV 0)]])
def plain_line_m : List C → Out C := bodyM 1 [] 1 plain_line_b
def want_standing_b : SS := sSeq (sSet 1 (eFn want_line_m [eP (pV 0)])) (sSeq (sIf (tP (qOf (pOp eqV' (pCall lenF [pV 1]) (pK (.int 0))))) (sErr0 "ZeroLine") (sNx)) (sRet (eP (pV 1))))
def want_standing_m : List C → Out C := bodyM 2 [] 1 want_standing_b
def common_of_b : SS := sSeq (sPar [2, 3] [eP (pFn plain_of_m [pV 0]), eP (pFn plain_of_m [pV 1])]) (sSeq (sWhF 500 (tP (qOf (pOp (cmpI iGt) (pCall lenF [pV 3]) (pK (.int 0))))) (sPar [2, 3] [eP (pV 3), eP (pFn plain_of_m [pIx (pFn parted_m [pV 2, pV 3]) (pK (.int 2))])])) (sRet (eP (pV 2))))
def common_of_m : List C → Out C := bodyM 4 [] 2 common_of_b
def resultant_of_b : SS := sSeq (sAsg (eP (pTup [pV 0, pV 1, pK (.int 1), pK (.int 1)])) (gTupD 4 (gsCons (gV false 2) (gsCons (gV false 3) (gsCons (gV false 4) (gsCons (gV false 5) gsNil)))))) (sSeq (sWhF 500 (tP (qOf (pOp (cmpI iGt) (pCall lenF [pV 3]) (pK (.int 1))))) (sSeq (sAsg (eP (pFn parted_m [pV 2, pV 3])) (gTupD 3 (gsCons (gV false 6) (gsCons (gV false 7) (gsCons (gV false 8) gsNil))))) (sSeq (sIf (tP (qOf (pOp eqV' (pCall lenF [pV 8]) (pK (.int 0))))) (sRet (eP (pK (.int 0)))) (sNx)) (sSeq (sIf (tP (qOf (pOp eqV' (pOp subI (pOp mulI (pOp subI (pCall lenF [pV 2]) (pK (.int 1))) (pOp subI (pCall lenF [pV 3]) (pK (.int 1)))) (pOp mulI (pOp fdivI (pOp mulI (pOp subI (pCall lenF [pV 2]) (pK (.int 1))) (pOp subI (pCall lenF [pV 3]) (pK (.int 1)))) (pK (.int 2))) (pK (.int 2)))) (pK (.int 1))))) (sSet 4 (eP (pOp subI (pK (.int 0)) (pV 4)))) (sNx)) (sSeq (sSet 4 (eP (pOp mulI (pV 4) (pFn power_by_m [pIx (pV 3) (pNeg (pK (.int 1))), pOp subI (pCall lenF [pV 2]) (pCall lenF [pV 8])])))) (sSeq (sSet 5 (eP (pOp mulI (pV 5) (pFn power_by_m [pV 6, pOp subI (pCall lenF [pV 3]) (pK (.int 1))])))) (sPar [2, 3] [eP (pV 3), eP (pV 8)]))))))) (sRet (eP (pOp fdivI (pOp mulI (pV 4) (pFn power_by_m [pIx (pV 3) (pK (.int 0)), pOp subI (pCall lenF [pV 2]) (pK (.int 1))])) (pV 5)))))
def resultant_of_m : List C → Out C := bodyM 9 [] 2 resultant_of_b
def two_standing_b : SS := sSeq (sAsg (eFn two_lines_m [eP (pV 0), eP (pV 1)]) (gTupD 2 (gsCons (gV false 2) (gsCons (gV false 3) gsNil)))) (sSeq (sIf (tP (qOr (qOf (pOp eqV' (pCall lenF [pV 2]) (pK (.int 0)))) (qOf (pOp eqV' (pCall lenF [pV 3]) (pK (.int 0)))))) (sErr0 "ZeroLine") (sNx)) (sRet (eP (pTup [pV 2, pV 3]))))
def two_standing_m : List C → Out C := bodyM 4 [] 2 two_standing_b
def line_sum_b : SS := sSeq (sAsg (eFn two_lines_m [eP (pV 0), eP (pV 1)]) (gTupD 2 (gsCons (gV false 2) (gsCons (gV false 3) gsNil)))) (sRet (eP (pFn plus_lines_m [pV 2, pV 3])))
def line_sum_m : List C → Out C := bodyM 4 [] 2 line_sum_b
def line_less_b : SS := sSeq (sAsg (eFn two_lines_m [eP (pV 0), eP (pV 1)]) (gTupD 2 (gsCons (gV false 2) (gsCons (gV false 3) gsNil)))) (sRet (eP (pFn minus_lines_m [pV 2, pV 3])))
def line_less_m : List C → Out C := bodyM 4 [] 2 line_less_b
def line_times_b : SS := sSeq (sAsg (eFn two_lines_m [eP (pV 0), eP (pV 1)]) (gTupD 2 (gsCons (gV false 2) (gsCons (gV false 3) gsNil)))) (sSeq (sIf (tP (qAnd (qOf (pOp (cmpI iGt) (pCall lenF [pV 2]) (pK (.int 0)))) (qOf (pOp (cmpI iGt) (pCall lenF [pV 3]) (pK (.int 0)))))) (sDrop (eFn want_at_most_m [eP (pK (.str "degree")), eP (pK (.int 12)), eP (pOp subI (pOp addI (pCall lenF [pV 2]) (pCall lenF [pV 3])) (pK (.int 2)))])) (sNx)) (sRet (eP (pFn times_lines_m [pV 2, pV 3]))))
def line_times_m : List C → Out C := bodyM 4 [] 2 line_times_b
def line_divided_b : SS := sSeq (sAsg (eFn two_lines_m [eP (pV 0), eP (pV 1)]) (gTupD 2 (gsCons (gV false 2) (gsCons (gV false 3) gsNil)))) (sSeq (sIf (tP (qOf (pOp eqV' (pCall lenF [pV 3]) (pK (.int 0))))) (sErr0 "ZeroLine") (sNx)) (sRet (eP (pFn parted_m [pV 2, pV 3]))))
def line_divided_m : List C → Out C := bodyM 4 [] 2 line_divided_b
def line_common_b : SS := sSeq (sAsg (eFn two_lines_m [eP (pV 0), eP (pV 1)]) (gTupD 2 (gsCons (gV false 2) (gsCons (gV false 3) gsNil)))) (sRet (eP (pFn common_of_m [pV 2, pV 3])))
def line_common_m : List C → Out C := bodyM 4 [] 2 line_common_b
def resultant_b : SS := sSeq (sAsg (eFn two_standing_m [eP (pV 0), eP (pV 1)]) (gTupD 2 (gsCons (gV false 2) (gsCons (gV false 3) gsNil)))) (sRet (eP (pFn resultant_of_m [pV 2, pV 3])))
def resultant_m : List C → Out C := bodyM 4 [] 2 resultant_b
def plain_parts_of_b : SS := sSeq (sPar [1, 2, 3] [eF (evPs []), eP (pK (.int 1)), eP (pFn plain_of_m [pV 0])]) (sSeq (sSet 4 (eP (pFn common_of_m [pV 3, pFn slope_of_m [pV 3]]))) (sSeq (sSet 5 (eP (pIf (qOf (pOp (cmpI iGt) (pCall lenF [pV 4]) (pK (.int 0)))) (pFn plain_of_m [pIx (pFn parted_m [pV 3, pV 4]) (pK (.int 1))]) (pV 3)))) (sSeq (sWhF 500 (tP (qOf (pOp (cmpI iGt) (pCall lenF [pV 5]) (pK (.int 1))))) (sSeq (sSet 6 (eP (pFn common_of_m [pV 5, pV 4]))) (sSeq (sSet 7 (eP (pFn plain_of_m [pIx (pFn parted_m [pV 5, pV 6]) (pK (.int 1))]))) (sSeq (sIf (tP (qOf (pOp (cmpI iGt) (pCall lenF [pV 7]) (pK (.int 1))))) (sDrop (eApp 1 (eP (pTup [pV 7, pV 2])))) (sNx)) (sSeq (sSet 4 (eP (pFn plain_of_m [pIx (pFn parted_m [pV 4, pV 6]) (pK (.int 1))]))) (sPar [5, 2] [eP (pV 6), eP (pOp addI (pV 2) (pK (.int 1)))])))))) (sRet (eP (pF (fSort (lKf (kV 1)))))))))
def plain_parts_of_m : List C → Out C := bodyM 8 [] 1 plain_parts_of_b
def single_part_b : SS := sSeq (sSet 1 (eP (pFn plain_of_m [pV 0]))) (sRet (eP (pIf (qOf (pOp (cmpI iGt) (pCall lenF [pV 1]) (pK (.int 1)))) (pFn plain_of_m [pIx (pFn parted_m [pV 1, pFn common_of_m [pV 1, pFn slope_of_m [pV 1]]]) (pK (.int 1))]) (pV 1))))
def single_part_m : List C → Out C := bodyM 2 [] 1 single_part_b
def whole_roots_of_b : SS := sSeq (sSet 1 (eP (pFn single_part_m [pV 0]))) (sSeq (sIf (tP (qOf (pOp (cmpI iLt) (pCall lenF [pV 1]) (pK (.int 2))))) (sRet (eP (pF (evPs [])))) (sNx)) (sSeq (sAsg (eP (pFn fit_prime_m [pV 1])) (gTupD 2 (gsCons (gV false 2) (gsCons (gV false 3) gsNil)))) (sSeq (sSet 4 (eP (pOp addI (pCall maxF [pF (fComp [8] (gV true 8) (fun _ => some true) (pCall absF [pV 8]) (fSq (pV 1)))]) (pK (.int 1))))) (sSeq (sSet 5 (eFrz (eF (fComp [6] (gV true 6) (fun _ => some true) (pFn lifted_root_m [pV 1, pV 2, pV 6, pV 4]) (fSq (pV 3)))))) (sRet (eP (pF (fSort (fComp [7] (gV true 7) (qOf (pOp eqV' (pFn value_at_m [pV 1, pV 7]) (pK (.int 0)))) (pV 7) (fSq (pV 5)))))))))))
def whole_roots_of_m : List C → Out C := bodyM 9 [] 1 whole_roots_of_b
def plain_parts_b : SS := sRet (eFn plain_parts_of_m [eFn want_standing_m [eP (pV 0)]])
def plain_parts_m : List C → Out C := bodyM 1 [] 1 plain_parts_b
def two_quadratic_b : SS := sSeq (sAsg (eP (pF (fSl (lP (pV 0)) none (some (pK (.int 4)))))) (gSeqD 4 (gsCons (gV false 1) (gsCons (gV false 2) (gsCons (gV false 3) (gsCons (gV false 4) gsNil)))))) (sSeq (sSet 5 (eP (pF (evPs [pOp subI (pOp subI (pOp mulI (pOp mulI (pK (.int 4)) (pV 1)) (pV 3)) (pOp mulI (pV 2) (pV 2))) (pOp mulI (pOp mulI (pV 1) (pV 4)) (pV 4)), pOp subI (pOp mulI (pV 2) (pV 4)) (pOp mulI (pK (.int 4)) (pV 1)), pOp subI (pK (.int 0)) (pV 3), pK (.int 1)])))) (sSeq (sFor (mSq (eP (pFn whole_roots_of_m [pV 5]))) (gV false 6) (sSeq (sPar [7, 8] [eP (pFn square_root_m [pOp subI (pOp mulI (pV 6) (pV 6)) (pOp mulI (pK (.int 4)) (pV 1))]), eP (pFn square_root_m [pOp subI (pOp mulI (pV 4) (pV 4)) (pOp mulI (pK (.int 4)) (pOp subI (pV 3) (pV 6)))])]) (sIf (tP (qAnd (qOf (pOp notN (pV 7) (pK .non))) (qOf (pOp notN (pV 8) (pK .non))))) (sFor (mSq (eP (pTup [pV 8, pOp subI (pK (.int 0)) (pV 8)]))) (gV false 9) (sSeq (sPar [10, 11] [eP (pF (evPs [pOp fdivI (pOp addI (pV 6) (pV 7)) (pK (.int 2)), pOp fdivI (pOp addI (pV 4) (pV 9)) (pK (.int 2)), pK (.int 1)])), eP (pF (evPs [pOp fdivI (pOp subI (pV 6) (pV 7)) (pK (.int 2)), pOp fdivI (pOp subI (pV 4) (pV 9)) (pK (.int 2)), pK (.int 1)]))]) (sIf (tP (qOf (pOp eqV' (pOp addI (pOp mulI (pIx (pV 10) (pK (.int 1))) (pIx (pV 11) (pK (.int 0)))) (pOp mulI (pIx (pV 10) (pK (.int 0))) (pIx (pV 11) (pK (.int 1))))) (pV 2)))) (sRet (eP (pTup [pV 10, pV 11]))) (sNx)))) (sNx)))) (sRet (eP (pK .non)))))
def two_quadratic_m : List C → Out C := bodyM 12 [] 1 two_quadratic_b
def whole_roots_b : SS := sRet (eFn whole_roots_of_m [eFn want_standing_m [eP (pV 0)]])
def whole_roots_m : List C → Out C := bodyM 1 [] 1 whole_roots_b
def monic_parts_of_b : SS := sSeq (sPar [1, 2] [eF (evPs []), eP (pF (fSq (pV 0)))]) (sSeq (sFor (mSq (eP (pFn whole_roots_of_m [pV 0]))) (gV false 3) (sWhF 500 (tP (qAnd (qOf (pOp (cmpI iGt) (pCall lenF [pV 2]) (pK (.int 1)))) (qOf (pOp eqV' (pFn value_at_m [pV 2, pV 3]) (pK (.int 0)))))) (sSeq (sDrop (eApp 1 (eP (pF (evPs [pOp subI (pK (.int 0)) (pV 3), pK (.int 1)]))))) (sSet 2 (eP (pIx (pFn parted_m [pV 2, pF (evPs [pOp subI (pK (.int 0)) (pV 3), pK (.int 1)])]) (pK (.int 1)))))))) (sSeq (sSet 4 (eP (pIf (qOf (pOp eqV' (pCall lenF [pV 2]) (pK (.int 5)))) (pFn two_quadratic_m [pV 2]) (pK .non)))) (sSeq (sIf (tP (qOf (pOp notN (pV 4) (pK .non)))) (sDrop (eExt 1 (paV 1) (evPs [pIx (pV 4) (pK (.int 0)), pIx (pV 4) (pK (.int 1))]))) (sIf (tP (qOf (pOp (cmpI iGt) (pCall lenF [pV 2]) (pK (.int 1))))) (sDrop (eApp 1 (eP (pV 2)))) (sNx))) (sRet (eP (pF (fSort (lKf (kV 1)))))))))
def monic_parts_of_m : List C → Out C := bodyM 5 [] 1 monic_parts_of_b
def monic_parts_b : SS := sSeq (sSet 1 (eP (pFn line_in_m [pV 0]))) (sSeq (sIf (tP (qOr (qOf (pOp isN (pV 1) (pK .non))) (qOr (qNot (qOf (pChain (cmpI iLe) (cmpI iLe) (pK (.int 2)) (pCall lenF [pV 1]) (pOp addI (pK (.int 4)) (pK (.int 1)))))) (qOf (pOp neV' (pIx (pV 1) (pNeg (pK (.int 1)))) (pK (.int 1))))))) (sErr "InvalidLine" ["value"] [pV 0]) (sNx)) (sRet (eP (pFn monic_parts_of_m [pV 1]))))
def monic_parts_m : List C → Out C := bodyM 2 [] 1 monic_parts_b
def lam_0 : M C := eFn degree_m [eP (pV 0)]
def lam_1 : M C := eFn line_value_m [eP (pV 0), eP (pK .non)]
def lam_2 : M C := eFnKP line_slope_m [0] [pV 0]
def lam_3 : M C := eFn plain_line_m [eP (pV 0)]
def lam_4 : M C := eFn line_sum_m [eP (pV 0), eP (pK .non)]
def lam_5 : M C := eFnKP line_sum_m [1, 0] [pV 0, pV 1]
def lam_6 : M C := eFn line_less_m [eP (pV 0), eP (pV 1)]
def lam_7 : M C := eFn line_less_m [eP (pV 1), eP (pV 0)]
def lam_8 : M C := eFn line_times_m [eP (pV 0), eP (pV 1)]
def lam_9 : M C := eFnKP line_times_m [1, 0] [pV 0, pF (evPs [])]
def lam_10 : M C := eFn line_divided_m [eP (pV 0), eP (pF (evPs []))]
def lam_11 : M C := eFn line_divided_m [eP (pV 1), eP (pV 0)]
def lam_12 : M C := eFn line_common_m [eP (pV 0), eP (pV 1)]
def lam_13 : M C := eFnPK line_common_m [0, 1] [pV 1] [pV 0]
def lam_14 : M C := eFn resultant_m [eP (pV 0), eP (pF (evPs []))]
def lam_15 : M C := eFn resultant_m [eP (pF (evPs [])), eP (pV 0)]
def lam_16 : M C := eFn plain_parts_m [eP (pV 0)]
def lam_17 : M C := eFnKP whole_roots_m [0] [pV 0]
def lam_18 : M C := eFn monic_parts_m [eP (pV 0)]
def lam_19 : M C := eFn line_value_m [eP (pV 1), eP (pV 0)]
def lam_20 : M C := eFnKP line_value_m [1, 0] [pV 0, pF (evPs [])]
def lam_21 : M C := eFn greatest_m [eP (pV 0), eP (pK .non)]
def lam_22 : M C := eFnKP greatest_m [1, 0] [pV 0, pK (.int 4)]
def lam_23 : M C := eFn line_divided_m [eP (pV 0), eP (pF (evPs []))]
def lam_24 : M C := eFnKP line_divided_m [1, 0] [pTup [], pF (evPs [])]
def lam_25 : M C := eFn resultant_m [eP (pV 0), eP (pF (evPs []))]
def lam_26 : M C := eFn resultant_m [eP (pF (evPs [])), eP (pF (evPs [pK (.int 5)]))]
def lam_27 : M C := eFn plain_parts_m [eP (pF (evPs []))]
def lam_28 : M C := eFn whole_roots_m [eP (pTup [])]
def lam_29 : M C := eFn monic_parts_m [eP (pV 0)]
def lam_30 : M C := eFn line_times_m [eP (pV 0), eP (pV 1)]
def lam_31 : M C := eFnKP line_times_m [1, 0] [pF (fRep (evPs [pK (.int 1)]) (pK (.int 13))), pF (evPs [pK (.int 0), pK (.int 1)])]
def lam_32 : M C := eFn line_times_m [eP (pV 1), eP (pV 0)]
def lam_33 : M C := eFn line_times_m [eP (pF (fRep (evPs [pK (.int 1)]) (pK (.int 13)))), eP (pF (evPs []))]
def lam_34 : M C := eFn line_times_m [eP (pF (evPs [])), eP (pF (fRep (evPs [pK (.int 1)]) (pK (.int 13))))]
def lam_35 : M C := eFn line_divided_m [eP (pF (evPs [])), eP (pV 0)]
def lam_36 : M C := eFn resultant_m [eP (pF (evPs [pK (.int 2)])), eP (pF (evPs [pK (.int 3)]))]
def lams : LTab := ("_law_lines_right", [0, 0, 0], lam_0) :: ("_law_lines_right", [1, 0, 1], lam_1) :: ("_law_lines_right", [2, 0, 1], lam_2) :: ("_law_lines_right", [3, 0, 1], lam_3) :: ("_law_lines_right", [4, 0, 1], lam_4) :: ("_law_lines_right", [5, 0, 1], lam_5) :: ("_law_lines_right", [6, 0, 1], lam_6) :: ("_law_lines_right", [7, 0, 1], lam_7) :: ("_law_lines_right", [8, 0, 1], lam_8) :: ("_law_lines_right", [9, 0, 1], lam_9) :: ("_law_lines_right", [10, 0, 1], lam_10) :: ("_law_lines_right", [11, 0, 1], lam_11) :: ("_law_lines_right", [12, 0, 1], lam_12) :: ("_law_lines_right", [13, 0, 1], lam_13) :: ("_law_lines_right", [14, 0, 1], lam_14) :: ("_law_lines_right", [15, 0, 1], lam_15) :: ("_law_lines_right", [16, 0, 1], lam_16) :: ("_law_lines_right", [17, 0, 1], lam_17) :: ("_law_lines_right", [18, 0, 1], lam_18) :: ("_law_numbers_right", [0, 0, 0], lam_19) :: ("_law_numbers_right", [1, 0, 1], lam_20) :: ("_law_numbers_right", [2, 0, 1], lam_21) :: ("_law_numbers_right", [3, 0, 1], lam_22) :: ("_law_behind_right", [0, 0, 0], lam_23) :: ("_law_behind_right", [1, 0, 1], lam_24) :: ("_law_behind_right", [2, 0, 1], lam_25) :: ("_law_behind_right", [3, 0, 1], lam_26) :: ("_law_behind_right", [4, 0, 1], lam_27) :: ("_law_behind_right", [5, 0, 1], lam_28) :: ("_law_behind_right", [7, 1, 0, 0, 0, 1], lam_29) :: ("_law_behind_right", [10, 0, 0], lam_30) :: ("_law_behind_right", [11, 0, 1], lam_31) :: ("_law_behind_right", [13, 0, 0], lam_32) :: ("_law_behind_right", [14, 0, 1], lam_33) :: ("_law_behind_right", [15, 0, 1], lam_34) :: ("_law_behind_right", [16, 0, 1], lam_35) :: ("_law_behind_right", [17, 0, 1], lam_36) :: []
def _law_heard_b : SS := sSeq (sTry xtbl (sDrop (eAct lams 0)) [("InvalidLine", hAs 1 (hRet (xLst (xCons (xK (.str "line")) (xCons (xRepr (xFld "value")) (xCons (xAnd (xIsi xtbl "CurveError") (xIsi xtbl "ValueError")) (xNil))))))), ("InvalidNumber", hAs 1 (hRet (xLst (xCons (xK (.str "number")) (xCons (xRepr (xFld "value")) (xCons (xIsi xtbl "CurveError") (xNil))))))), ("ZeroLine", hAs 1 (hRet (xLst (xCons (xK (.str "zero")) (xCons (xIsi xtbl "StateError") (xNil)))))), ("TooMany", hAs 1 (hRet (xLst (xCons (xFld "what") (xCons (xFld "limit") (xCons (xIsi xtbl "LimitError") (xNil)))))))]) (sRet (eP (pF (evPs [pK (.str "let")]))))
def _law_heard_m : List C → Out C := bodyM 2 [] 1 _law_heard_b
def _law_are_b : SS := sRet (eP (pOp eqV' (pF (fComp [2] (gV true 2) (qOf (pOp neV' (pFn _law_heard_m [pV 2]) (pV 1))) (pV 2) (fSq (pV 0)))) (pF (evPs []))))
def _law_are_m : List C → Out C := bodyM 3 [] 2 _law_are_b
def _law_lines_right_b : SS := sBlk 3 2 "_law_lines_right" (sRet (eCallL _law_are_m false [(⟨0, "_law_lines_right", [0, 0, 0]⟩, [0]), (⟨1, "_law_lines_right", [1, 0, 1]⟩, [0]), (⟨2, "_law_lines_right", [2, 0, 1]⟩, [0]), (⟨3, "_law_lines_right", [3, 0, 1]⟩, [0]), (⟨4, "_law_lines_right", [4, 0, 1]⟩, [0]), (⟨5, "_law_lines_right", [5, 0, 1]⟩, [0, 1]), (⟨6, "_law_lines_right", [6, 0, 1]⟩, [0, 1]), (⟨7, "_law_lines_right", [7, 0, 1]⟩, [0, 1]), (⟨8, "_law_lines_right", [8, 0, 1]⟩, [0, 1]), (⟨9, "_law_lines_right", [9, 0, 1]⟩, [0]), (⟨10, "_law_lines_right", [10, 0, 1]⟩, [0]), (⟨11, "_law_lines_right", [11, 0, 1]⟩, [0, 1]), (⟨12, "_law_lines_right", [12, 0, 1]⟩, [0, 1]), (⟨13, "_law_lines_right", [13, 0, 1]⟩, [0, 1]), (⟨14, "_law_lines_right", [14, 0, 1]⟩, [0]), (⟨15, "_law_lines_right", [15, 0, 1]⟩, [0]), (⟨16, "_law_lines_right", [16, 0, 1]⟩, [0]), (⟨17, "_law_lines_right", [17, 0, 1]⟩, [0]), (⟨18, "_law_lines_right", [18, 0, 1]⟩, [0])] [eP (pF (evPs [pK (.str "line"), pCall reprF2 [pV 0], pK (.bl true)]))]))
def _law_lines_right_m : List C → Out C := bodyT 4 3 [] 2 _law_lines_right_b
def _law_numbers_right_b : SS := sBlk 3 2 "_law_numbers_right" (sRet (eCallL _law_are_m false [(⟨19, "_law_numbers_right", [0, 0, 0]⟩, [0, 1]), (⟨20, "_law_numbers_right", [1, 0, 1]⟩, [0]), (⟨21, "_law_numbers_right", [2, 0, 1]⟩, [0]), (⟨22, "_law_numbers_right", [3, 0, 1]⟩, [0])] [eP (pF (evPs [pK (.str "number"), pCall reprF2 [pV 0], pK (.bl true)]))]))
def _law_numbers_right_m : List C → Out C := bodyT 4 3 [] 2 _law_numbers_right_b
def _law_behind_right_b : SS := sBlk 8 2 "_law_behind_right" (sSeq (sIf (tNot (tOfE (eCallL _law_are_m false [(⟨23, "_law_behind_right", [0, 0, 0]⟩, [1]), (⟨24, "_law_behind_right", [1, 0, 1]⟩, []), (⟨25, "_law_behind_right", [2, 0, 1]⟩, [1]), (⟨26, "_law_behind_right", [3, 0, 1]⟩, []), (⟨27, "_law_behind_right", [4, 0, 1]⟩, []), (⟨28, "_law_behind_right", [5, 0, 1]⟩, [])] [eP (pF (evPs [pK (.str "zero"), pK (.bl true)]))]))) (sRet (eP (pK (.bl false)))) (sNx)) (sSeq (sFor (mSq (eP (pF (evPs [pF (evPs []), pF (evPs [pK (.int 1)]), pTup [pK (.int 7)], pF (evPs [pK (.int 1), pK (.int 2)]), pF (evPs [pK (.int 0), pK (.int 0), pK (.int 3)]), pF (evPs [pK (.int 1), pK (.int 0), pK (.int 0), pK (.int 0), pK (.int 0), pK (.int 1)]), pF (evPs [pK (.int 3), pK (.int 0), pNeg (pK (.int 1))]), pTup [pK (.int 1), pK (.int 1), pK (.int 1), pK (.int 1), pNeg (pK (.int 1))]])))) (gV false 3) (sIf (tOfE (eOp neV' (eTab 8 "_law_behind_right" (eCallL _law_heard_m true [(⟨29, "_law_behind_right", [7, 1, 0, 0, 0, 1]⟩, [3])] [])) (eP (pF (evPs [pK (.str "line"), pCall reprF2 [pV 3], pK (.bl true)]))))) (sRet (eP (pK (.bl false)))) (sNx))) (sSeq (sSet 4 (eOp addI (eP (pK (.int 1))) (eFnL _law_draw_m 0 [eP (pK (.int 12))]))) (sSeq (sPar [5, 6, 7] [eP (pF (fCat (fRep (evPs [pK (.int 0)]) (pV 4)) (evPs [pK (.int 1)]))), eP (pF (fCat (fRep (evPs [pK (.int 0)]) (pOp subI (pK (.int 12)) (pV 4))) (evPs [pNeg (pK (.int 2))]))), eP (pF (fCat (fRep (evPs [pK (.int 1)]) (pOp subI (pK (.int 13)) (pV 4))) (evPs [pK (.int 3)])))]) (sBlk 8 2 "_law_behind_right" (sSeq (sIf (tNot (tOfE (eCallL _law_are_m false [(⟨30, "_law_behind_right", [10, 0, 0]⟩, [5, 7]), (⟨31, "_law_behind_right", [11, 0, 1]⟩, [])] [eP (pF (evPs [pK (.str "degree"), pK (.int 12), pK (.bl true)]))]))) (sRet (eP (pK (.bl false)))) (sNx)) (sBlk 8 2 "_law_behind_right" (sRet (eCallL _law_are_m false [(⟨32, "_law_behind_right", [13, 0, 0]⟩, [6, 5]), (⟨33, "_law_behind_right", [14, 0, 1]⟩, []), (⟨34, "_law_behind_right", [15, 0, 1]⟩, []), (⟨35, "_law_behind_right", [16, 0, 1]⟩, [1]), (⟨36, "_law_behind_right", [17, 0, 1]⟩, [])] [eP (pF (evPs [pK (.str "let")]))])))))))))
def _law_behind_right_m : List C → Out C := bodyT 9 8 [0] 2 _law_behind_right_b
def _law_right_b : SS := sSeq (sSet 1 (eFrz (eLst [eOp subI (eFnL _law_draw_m 0 [eP (pK (.int 9))]) (eP (pK (.int 4))), eOp addI (eP (pK (.int 1))) (eFnL _law_draw_m 0 [eP (pK (.int 5))])]))) (sSeq (sFor (mSq (eP (pF (evPs [pK .non, pK (.int 0), pK (.int 7), pK (.bl true), pK (.str ""), pK (.str "12"), pK (.dct []), pF (evPs [pK (.int 0)]), pF (evPs [pK (.int 1), pK (.int 0)]), pTup [pK (.int 0)], pF (evPs [pK (.bl true)]), pF (evPs [pK (.int 1), pK (.bl false)]), pF (evPs [pK (.str "1")]), pF (evPs [pK (.int 1), pF (evPs [pK (.int 1)])]), pF (evPs [pK .non, pK (.int 1)]), pF (fRep (evPs [pK (.int 1)]) (pK (.int 14))), pF (evPs [pK (.int 1), pK (.int 2), pK .non]), pDisp [(pK (.int 1), pK (.int 1))]])))) (gV false 2) (sIf (tNot (tOfE (eFnT _law_lines_right_m 3 [eP (pV 2), eP (pV 1)]))) (sRet (eP (pK (.bl false)))) (sNx))) (sSeq (sFor (mSq (eP (pF (evPs [pK .non, pK (.bl true), pK (.bl false), pK (.str "4"), pF (evPs [pK (.int 4)]), pTup [], pK (.dct []), pF (evPs [pF (evPs [pK (.int 1)])])])))) (gV false 2) (sIf (tNot (tOfE (eFnT _law_numbers_right_m 3 [eP (pV 2), eP (pV 1)]))) (sRet (eP (pK (.bl false)))) (sNx))) (sRet (eFnT _law_behind_right_m 3 [eMv 0, eP (pV 1)]))))
def _law_right_m : List C → Out C := bodyT 4 3 [0] 1 _law_right_b
def law_b : SS := sRet (eFnT _law_right_m 1 [eFnO _law_pot_m [eP (pV 0), eP (pK (.int 0))]])
def law_m : List C → Out C := bodyT 2 1 [] 1 law_b
structure Txt (K : PySem.W.Frag) (mg : Str → Option Value) : Prop where
  z_abs : mg "abs" = none
  z_all : mg "all" = none
  z_bool : mg "bool" = none
  z_divmod : mg "divmod" = none
  z_enumerate : mg "enumerate" = none
  z_int : mg "int" = none
  z_isinstance : mg "isinstance" = none
  z_len : mg "len" = none
  z_list : mg "list" = none
  z_max : mg "max" = none
  z_range : mg "range" = none
  z_repr : mg "repr" = none
  z_sorted : mg "sorted" = none
  z_tuple : mg "tuple" = none
  g_MOST_DEGREE : ∃ t, mg "MOST_DEGREE" = some (.int 12 t)
  g_MOST_MONIC : ∃ t, mg "MOST_MONIC" = some (.int 4 t)
  d_is_integer : DefAt K mg "is_integer" st_is_integer
  d_is_list : DefAt K mg "is_list" st_is_list
  d_divisor_of : DefAt K mg "divisor_of" st_divisor_of
  d_power_by : DefAt K mg "power_by" st_power_by
  d_square_root : DefAt K mg "square_root" st_square_root
  d_has_divisor : DefAt K mg "has_divisor" st_has_divisor
  d_trimmed : DefAt K mg "trimmed" st_trimmed
  d_scaled_line : DefAt K mg "scaled_line" st_scaled_line
  d_times_lines : DefAt K mg "times_lines" st_times_lines
  d_value_at : DefAt K mg "value_at" st_value_at
  d_slope_of : DefAt K mg "slope_of" st_slope_of
  d_rest_by : DefAt K mg "rest_by" st_rest_by
  d__law_pot : DefAt K mg "_law_pot" st__law_pot
  d__law_draw : DefAt K mg "_law_draw" st__law_draw
  d_greatest_of : DefAt K mg "greatest_of" st_greatest_of
  d_plus_lines : DefAt K mg "plus_lines" st_plus_lines
  d_line_in : DefAt K mg "line_in" st_line_in
  d_fit_prime : DefAt K mg "fit_prime" st_fit_prime
  d_undone_by : DefAt K mg "undone_by" st_undone_by
  d_want_at_most : DefAt K mg "want_at_most" st_want_at_most
  d_want_number : DefAt K mg "want_number" st_want_number
  d_minus_lines : DefAt K mg "minus_lines" st_minus_lines
  d_plain_of : DefAt K mg "plain_of" st_plain_of
  d_want_line : DefAt K mg "want_line" st_want_line
  d_lifted_root : DefAt K mg "lifted_root" st_lifted_root
  d_greatest : DefAt K mg "greatest" st_greatest
  d_parted : DefAt K mg "parted" st_parted
  d_two_lines : DefAt K mg "two_lines" st_two_lines
  d_degree : DefAt K mg "degree" st_degree
  d_line_value : DefAt K mg "line_value" st_line_value
  d_line_slope : DefAt K mg "line_slope" st_line_slope
  d_plain_line : DefAt K mg "plain_line" st_plain_line
  d_want_standing : DefAt K mg "want_standing" st_want_standing
  d_common_of : DefAt K mg "common_of" st_common_of
  d_resultant_of : DefAt K mg "resultant_of" st_resultant_of
  d_two_standing : DefAt K mg "two_standing" st_two_standing
  d_line_sum : DefAt K mg "line_sum" st_line_sum
  d_line_less : DefAt K mg "line_less" st_line_less
  d_line_times : DefAt K mg "line_times" st_line_times
  d_line_divided : DefAt K mg "line_divided" st_line_divided
  d_line_common : DefAt K mg "line_common" st_line_common
  d_resultant : DefAt K mg "resultant" st_resultant
  d_plain_parts_of : DefAt K mg "plain_parts_of" st_plain_parts_of
  d_single_part : DefAt K mg "single_part" st_single_part
  d_whole_roots_of : DefAt K mg "whole_roots_of" st_whole_roots_of
  d_plain_parts : DefAt K mg "plain_parts" st_plain_parts
  d_two_quadratic : DefAt K mg "two_quadratic" st_two_quadratic
  d_whole_roots : DefAt K mg "whole_roots" st_whole_roots
  d_monic_parts_of : DefAt K mg "monic_parts_of" st_monic_parts_of
  d_monic_parts : DefAt K mg "monic_parts" st_monic_parts
  d__law_heard : DefAt K mg "_law_heard" st__law_heard
  d__law_are : DefAt K mg "_law_are" st__law_are
  d__law_lines_right : DefAt K mg "_law_lines_right" st__law_lines_right
  d__law_numbers_right : DefAt K mg "_law_numbers_right" st__law_numbers_right
  d__law_behind_right : DefAt K mg "_law_behind_right" st__law_behind_right
  d__law_right : DefAt K mg "_law_right" st__law_right
  d_law : DefAt K mg "law" st_law
  c_TooMany : ClsAt K mg "TooMany" "ArithmeticError" "ArithmeticError.__new__" "ArithmeticError.__init__" [.type "ArithmeticError", .type "Exception", .type "BaseException", .type "object"] st__TooMany ["what", "limit"]
  c_InvalidNumber : ClsAt K mg "InvalidNumber" "ValueError" "ValueError.__new__" "ValueError.__init__" [.type "ValueError", .type "Exception", .type "BaseException", .type "object"] st__InvalidNumber ["value"]
  c_InvalidLine : ClsAt K mg "InvalidLine" "ValueError" "ValueError.__new__" "ValueError.__init__" [.type "ValueError", .type "Exception", .type "BaseException", .type "object"] st__InvalidLine ["value"]
  c_ZeroLine : Cls0At K mg "ZeroLine" "RuntimeError" "RuntimeError.__new__" "RuntimeError.__init__" [.type "RuntimeError", .type "Exception", .type "BaseException", .type "object"]
  h_InvalidLine : ∃ cv, mg "InvalidLine" = some cv ∧ ∀ y ∈ xtbl, ∃ xv, mg y.1 = some xv ∧ PySem.W.exmOne K xv cv = some (y.2.contains "InvalidLine")
  h_InvalidNumber : ∃ cv, mg "InvalidNumber" = some cv ∧ ∀ y ∈ xtbl, ∃ xv, mg y.1 = some xv ∧ PySem.W.exmOne K xv cv = some (y.2.contains "InvalidNumber")
  h_ZeroLine : ∃ cv, mg "ZeroLine" = some cv ∧ ∀ y ∈ xtbl, ∃ xv, mg y.1 = some xv ∧ PySem.W.exmOne K xv cv = some (y.2.contains "ZeroLine")
  h_TooMany : ∃ cv, mg "TooMany" = some cv ∧ ∀ y ∈ xtbl, ∃ xv, mg y.1 = some xv ∧ PySem.W.exmOne K xv cv = some (y.2.contains "TooMany")
  i_CurveError : ∃ a, mg "CurveError" = some (.ref a) ∧ IsiOk K mg xtbl "CurveError" (.ref a)
  i_ValueError : mg "ValueError" = none ∧ IsiOk K mg xtbl "ValueError" (.type "ValueError")
  i_StateError : ∃ a, mg "StateError" = some (.ref a) ∧ IsiOk K mg xtbl "StateError" (.ref a)
  i_LimitError : ∃ a, mg "LimitError" = some (.ref a) ∧ IsiOk K mg xtbl "LimitError" (.ref a)
  f_value : FldOk K mg xtbl "value"
  f_what : FldOk K mg xtbl "what"
  f_limit : FldOk K mg xtbl "limit"
  m__law_lines_right : BodyK K "_law_lines_right" (defBody st__law_lines_right)
  m__law_numbers_right : BodyK K "_law_numbers_right" (defBody st__law_numbers_right)
  m__law_behind_right : BodyK K "_law_behind_right" (defBody st__law_behind_right)
structure TT (K : PySem.W.Frag) (mg : Str → Option Value) (base : Heap) : Prop where
  t__law_lines_right : TabFn K mg base "_law_lines_right"
  t__law_numbers_right : TabFn K mg base "_law_numbers_right"
  t__law_behind_right : TabFn K mg base "_law_behind_right"
theorem bpk_line_common_1_other : BindPK "line_common" st_line_common ["line", "other"] ["other"] 1 [0, 1] := fun _ _ _ _ _ _ us ws hl hk => match us, ws, hl, hk with | [_], [_], _, _ => rfl
theorem xi_TooMany {Pr : Program} {w : World} {K : PySem.W.Frag} {mg : Str → Option Value} {base : Heap} {B newId initId : String} {bmB : List Value} {k : Nat} (fI : Addr) (kV doc pm : Value) (an : Option Addr) (cdv ct oc : Value) (od : Option Addr) (osl : Array (Option Value)) (lk : K.lookup fI = some ⟨oc, od, .func (PySem.W.fnOf "__init__" (("TooMany" : Str) ++ ".__init__") (defArgs st__TooMany) (defBody st__TooMany) (defScope st__TooMany) .none kV doc pm an cdv ct), osl⟩) (cd : PySem.W.codeIn K cdv (("TooMany" : Str) ++ ".__init__") = true) :
    FnOk Pr w K mg base C8.CX0 (k + 1) fI (PySem.W.fnOf "__init__" (("TooMany" : Str) ++ ".__init__") (defArgs st__TooMany) (defBody st__TooMany) (defScope st__TooMany) .none kV doc pm an cdv ct) ["self", "what", "limit"] (spI2 K B newId initId bmB "what" "limit") ∧ L2.Binds K (PySem.W.fnOf "__init__" (("TooMany" : Str) ++ ".__init__") (defArgs st__TooMany) (defBody st__TooMany) (defScope st__TooMany) .none kV doc pm an cdv ct) ["self", "what", "limit"] [] :=
  ⟨fn_i2 lk cd ⟨rfl, rfl, rfl, by decide +kernel, rfl, by decide +kernel, by decide +kernel⟩ rfl (.inl rfl) (.inl rfl) (.inl rfl), Binds.all fun us hl => match us, hl with | [_, _, _], _ => rfl⟩
theorem xi_InvalidNumber {Pr : Program} {w : World} {K : PySem.W.Frag} {mg : Str → Option Value} {base : Heap} {B newId initId : String} {bmB : List Value} {k : Nat} (fI : Addr) (kV doc pm : Value) (an : Option Addr) (cdv ct oc : Value) (od : Option Addr) (osl : Array (Option Value)) (lk : K.lookup fI = some ⟨oc, od, .func (PySem.W.fnOf "__init__" (("InvalidNumber" : Str) ++ ".__init__") (defArgs st__InvalidNumber) (defBody st__InvalidNumber) (defScope st__InvalidNumber) .none kV doc pm an cdv ct), osl⟩) (cd : PySem.W.codeIn K cdv (("InvalidNumber" : Str) ++ ".__init__") = true) :
    FnOk Pr w K mg base C8.CX0 (k + 1) fI (PySem.W.fnOf "__init__" (("InvalidNumber" : Str) ++ ".__init__") (defArgs st__InvalidNumber) (defBody st__InvalidNumber) (defScope st__InvalidNumber) .none kV doc pm an cdv ct) ["self", "value"] (spI1 K B newId initId bmB "value") ∧ L2.Binds K (PySem.W.fnOf "__init__" (("InvalidNumber" : Str) ++ ".__init__") (defArgs st__InvalidNumber) (defBody st__InvalidNumber) (defScope st__InvalidNumber) .none kV doc pm an cdv ct) ["self", "value"] [] :=
  ⟨fn_i1 lk cd ⟨rfl, rfl, rfl, by decide +kernel, rfl, by decide +kernel, by decide +kernel⟩ rfl (.inl rfl) (.inl rfl), Binds.all fun us hl => match us, hl with | [_, _], _ => rfl⟩
theorem xi_InvalidLine {Pr : Program} {w : World} {K : PySem.W.Frag} {mg : Str → Option Value} {base : Heap} {B newId initId : String} {bmB : List Value} {k : Nat} (fI : Addr) (kV doc pm : Value) (an : Option Addr) (cdv ct oc : Value) (od : Option Addr) (osl : Array (Option Value)) (lk : K.lookup fI = some ⟨oc, od, .func (PySem.W.fnOf "__init__" (("InvalidLine" : Str) ++ ".__init__") (defArgs st__InvalidLine) (defBody st__InvalidLine) (defScope st__InvalidLine) .none kV doc pm an cdv ct), osl⟩) (cd : PySem.W.codeIn K cdv (("InvalidLine" : Str) ++ ".__init__") = true) :
    FnOk Pr w K mg base C8.CX0 (k + 1) fI (PySem.W.fnOf "__init__" (("InvalidLine" : Str) ++ ".__init__") (defArgs st__InvalidLine) (defBody st__InvalidLine) (defScope st__InvalidLine) .none kV doc pm an cdv ct) ["self", "value"] (spI1 K B newId initId bmB "value") ∧ L2.Binds K (PySem.W.fnOf "__init__" (("InvalidLine" : Str) ++ ".__init__") (defArgs st__InvalidLine) (defBody st__InvalidLine) (defScope st__InvalidLine) .none kV doc pm an cdv ct) ["self", "value"] [] :=
  ⟨fn_i1 lk cd ⟨rfl, rfl, rfl, by decide +kernel, rfl, by decide +kernel, by decide +kernel⟩ rfl (.inl rfl) (.inl rfl), Binds.all fun us hl => match us, hl with | [_, _], _ => rfl⟩
def ls_0 : LamSite := match lamAt (defBody st__law_lines_right) [0, 0, 0] with | some t => t | none => ⟨⟨[], [], none, [], [], none, []⟩, .Name "" ⟨0, 0, 0, 0⟩, (defScope st__law_lines_right)⟩
theorem site_0 : SiteF (defScope st__law_lines_right) ["odd", "line", "calls", "%t"] (defBody st__law_lines_right) [0, 0, 0] [0] ls_0 := ⟨rfl, rfl, by decide +kernel, by decide +kernel, ⟨rfl, rfl, rfl, by decide +kernel, by decide +kernel⟩⟩
def ls_1 : LamSite := match lamAt (defBody st__law_lines_right) [1, 0, 1] with | some t => t | none => ⟨⟨[], [], none, [], [], none, []⟩, .Name "" ⟨0, 0, 0, 0⟩, (defScope st__law_lines_right)⟩
theorem site_1 : SiteF (defScope st__law_lines_right) ["odd", "line", "calls", "%t"] (defBody st__law_lines_right) [1, 0, 1] [0] ls_1 := ⟨rfl, rfl, by decide +kernel, by decide +kernel, ⟨rfl, rfl, rfl, by decide +kernel, by decide +kernel⟩⟩
def ls_2 : LamSite := match lamAt (defBody st__law_lines_right) [2, 0, 1] with | some t => t | none => ⟨⟨[], [], none, [], [], none, []⟩, .Name "" ⟨0, 0, 0, 0⟩, (defScope st__law_lines_right)⟩
theorem site_2 : SiteF (defScope st__law_lines_right) ["odd", "line", "calls", "%t"] (defBody st__law_lines_right) [2, 0, 1] [0] ls_2 := ⟨rfl, rfl, by decide +kernel, by decide +kernel, ⟨rfl, rfl, rfl, by decide +kernel, by decide +kernel⟩⟩
def ls_3 : LamSite := match lamAt (defBody st__law_lines_right) [3, 0, 1] with | some t => t | none => ⟨⟨[], [], none, [], [], none, []⟩, .Name "" ⟨0, 0, 0, 0⟩, (defScope st__law_lines_right)⟩
theorem site_3 : SiteF (defScope st__law_lines_right) ["odd", "line", "calls", "%t"] (defBody st__law_lines_right) [3, 0, 1] [0] ls_3 := ⟨rfl, rfl, by decide +kernel, by decide +kernel, ⟨rfl, rfl, rfl, by decide +kernel, by decide +kernel⟩⟩
def ls_4 : LamSite := match lamAt (defBody st__law_lines_right) [4, 0, 1] with | some t => t | none => ⟨⟨[], [], none, [], [], none, []⟩, .Name "" ⟨0, 0, 0, 0⟩, (defScope st__law_lines_right)⟩
theorem site_4 : SiteF (defScope st__law_lines_right) ["odd", "line", "calls", "%t"] (defBody st__law_lines_right) [4, 0, 1] [0] ls_4 := ⟨rfl, rfl, by decide +kernel, by decide +kernel, ⟨rfl, rfl, rfl, by decide +kernel, by decide +kernel⟩⟩
def ls_5 : LamSite := match lamAt (defBody st__law_lines_right) [5, 0, 1] with | some t => t | none => ⟨⟨[], [], none, [], [], none, []⟩, .Name "" ⟨0, 0, 0, 0⟩, (defScope st__law_lines_right)⟩
theorem site_5 : SiteF (defScope st__law_lines_right) ["odd", "line", "calls", "%t"] (defBody st__law_lines_right) [5, 0, 1] [0, 1] ls_5 := ⟨rfl, rfl, by decide +kernel, by decide +kernel, ⟨rfl, rfl, rfl, by decide +kernel, by decide +kernel⟩⟩
def ls_6 : LamSite := match lamAt (defBody st__law_lines_right) [6, 0, 1] with | some t => t | none => ⟨⟨[], [], none, [], [], none, []⟩, .Name "" ⟨0, 0, 0, 0⟩, (defScope st__law_lines_right)⟩
theorem site_6 : SiteF (defScope st__law_lines_right) ["odd", "line", "calls", "%t"] (defBody st__law_lines_right) [6, 0, 1] [0, 1] ls_6 := ⟨rfl, rfl, by decide +kernel, by decide +kernel, ⟨rfl, rfl, rfl, by decide +kernel, by decide +kernel⟩⟩
def ls_7 : LamSite := match lamAt (defBody st__law_lines_right) [7, 0, 1] with | some t => t | none => ⟨⟨[], [], none, [], [], none, []⟩, .Name "" ⟨0, 0, 0, 0⟩, (defScope st__law_lines_right)⟩
theorem site_7 : SiteF (defScope st__law_lines_right) ["odd", "line", "calls", "%t"] (defBody st__law_lines_right) [7, 0, 1] [0, 1] ls_7 := ⟨rfl, rfl, by decide +kernel, by decide +kernel, ⟨rfl, rfl, rfl, by decide +kernel, by decide +kernel⟩⟩
def ls_8 : LamSite := match lamAt (defBody st__law_lines_right) [8, 0, 1] with | some t => t | none => ⟨⟨[], [], none, [], [], none, []⟩, .Name "" ⟨0, 0, 0, 0⟩, (defScope st__law_lines_right)⟩
theorem site_8 : SiteF (defScope st__law_lines_right) ["odd", "line", "calls", "%t"] (defBody st__law_lines_right) [8, 0, 1] [0, 1] ls_8 := ⟨rfl, rfl, by decide +kernel, by decide +kernel, ⟨rfl, rfl, rfl, by decide +kernel, by decide +kernel⟩⟩
def ls_9 : LamSite := match lamAt (defBody st__law_lines_right) [9, 0, 1] with | some t => t | none => ⟨⟨[], [], none, [], [], none, []⟩, .Name "" ⟨0, 0, 0, 0⟩, (defScope st__law_lines_right)⟩
theorem site_9 : SiteF (defScope st__law_lines_right) ["odd", "line", "calls", "%t"] (defBody st__law_lines_right) [9, 0, 1] [0] ls_9 := ⟨rfl, rfl, by decide +kernel, by decide +kernel, ⟨rfl, rfl, rfl, by decide +kernel, by decide +kernel⟩⟩
def ls_10 : LamSite := match lamAt (defBody st__law_lines_right) [10, 0, 1] with | some t => t | none => ⟨⟨[], [], none, [], [], none, []⟩, .Name "" ⟨0, 0, 0, 0⟩, (defScope st__law_lines_right)⟩
theorem site_10 : SiteF (defScope st__law_lines_right) ["odd", "line", "calls", "%t"] (defBody st__law_lines_right) [10, 0, 1] [0] ls_10 := ⟨rfl, rfl, by decide +kernel, by decide +kernel, ⟨rfl, rfl, rfl, by decide +kernel, by decide +kernel⟩⟩
def ls_11 : LamSite := match lamAt (defBody st__law_lines_right) [11, 0, 1] with | some t => t | none => ⟨⟨[], [], none, [], [], none, []⟩, .Name "" ⟨0, 0, 0, 0⟩, (defScope st__law_lines_right)⟩
theorem site_11 : SiteF (defScope st__law_lines_right) ["odd", "line", "calls", "%t"] (defBody st__law_lines_right) [11, 0, 1] [0, 1] ls_11 := ⟨rfl, rfl, by decide +kernel, by decide +kernel, ⟨rfl, rfl, rfl, by decide +kernel, by decide +kernel⟩⟩
def ls_12 : LamSite := match lamAt (defBody st__law_lines_right) [12, 0, 1] with | some t => t | none => ⟨⟨[], [], none, [], [], none, []⟩, .Name "" ⟨0, 0, 0, 0⟩, (defScope st__law_lines_right)⟩
theorem site_12 : SiteF (defScope st__law_lines_right) ["odd", "line", "calls", "%t"] (defBody st__law_lines_right) [12, 0, 1] [0, 1] ls_12 := ⟨rfl, rfl, by decide +kernel, by decide +kernel, ⟨rfl, rfl, rfl, by decide +kernel, by decide +kernel⟩⟩
def ls_13 : LamSite := match lamAt (defBody st__law_lines_right) [13, 0, 1] with | some t => t | none => ⟨⟨[], [], none, [], [], none, []⟩, .Name "" ⟨0, 0, 0, 0⟩, (defScope st__law_lines_right)⟩
theorem site_13 : SiteF (defScope st__law_lines_right) ["odd", "line", "calls", "%t"] (defBody st__law_lines_right) [13, 0, 1] [0, 1] ls_13 := ⟨rfl, rfl, by decide +kernel, by decide +kernel, ⟨rfl, rfl, rfl, by decide +kernel, by decide +kernel⟩⟩
def ls_14 : LamSite := match lamAt (defBody st__law_lines_right) [14, 0, 1] with | some t => t | none => ⟨⟨[], [], none, [], [], none, []⟩, .Name "" ⟨0, 0, 0, 0⟩, (defScope st__law_lines_right)⟩
theorem site_14 : SiteF (defScope st__law_lines_right) ["odd", "line", "calls", "%t"] (defBody st__law_lines_right) [14, 0, 1] [0] ls_14 := ⟨rfl, rfl, by decide +kernel, by decide +kernel, ⟨rfl, rfl, rfl, by decide +kernel, by decide +kernel⟩⟩
def ls_15 : LamSite := match lamAt (defBody st__law_lines_right) [15, 0, 1] with | some t => t | none => ⟨⟨[], [], none, [], [], none, []⟩, .Name "" ⟨0, 0, 0, 0⟩, (defScope st__law_lines_right)⟩
theorem site_15 : SiteF (defScope st__law_lines_right) ["odd", "line", "calls", "%t"] (defBody st__law_lines_right) [15, 0, 1] [0] ls_15 := ⟨rfl, rfl, by decide +kernel, by decide +kernel, ⟨rfl, rfl, rfl, by decide +kernel, by decide +kernel⟩⟩
def ls_16 : LamSite := match lamAt (defBody st__law_lines_right) [16, 0, 1] with | some t => t | none => ⟨⟨[], [], none, [], [], none, []⟩, .Name "" ⟨0, 0, 0, 0⟩, (defScope st__law_lines_right)⟩
theorem site_16 : SiteF (defScope st__law_lines_right) ["odd", "line", "calls", "%t"] (defBody st__law_lines_right) [16, 0, 1] [0] ls_16 := ⟨rfl, rfl, by decide +kernel, by decide +kernel, ⟨rfl, rfl, rfl, by decide +kernel, by decide +kernel⟩⟩
def ls_17 : LamSite := match lamAt (defBody st__law_lines_right) [17, 0, 1] with | some t => t | none => ⟨⟨[], [], none, [], [], none, []⟩, .Name "" ⟨0, 0, 0, 0⟩, (defScope st__law_lines_right)⟩
theorem site_17 : SiteF (defScope st__law_lines_right) ["odd", "line", "calls", "%t"] (defBody st__law_lines_right) [17, 0, 1] [0] ls_17 := ⟨rfl, rfl, by decide +kernel, by decide +kernel, ⟨rfl, rfl, rfl, by decide +kernel, by decide +kernel⟩⟩
def ls_18 : LamSite := match lamAt (defBody st__law_lines_right) [18, 0, 1] with | some t => t | none => ⟨⟨[], [], none, [], [], none, []⟩, .Name "" ⟨0, 0, 0, 0⟩, (defScope st__law_lines_right)⟩
theorem site_18 : SiteF (defScope st__law_lines_right) ["odd", "line", "calls", "%t"] (defBody st__law_lines_right) [18, 0, 1] [0] ls_18 := ⟨rfl, rfl, by decide +kernel, by decide +kernel, ⟨rfl, rfl, rfl, by decide +kernel, by decide +kernel⟩⟩
def ls_19 : LamSite := match lamAt (defBody st__law_numbers_right) [0, 0, 0] with | some t => t | none => ⟨⟨[], [], none, [], [], none, []⟩, .Name "" ⟨0, 0, 0, 0⟩, (defScope st__law_numbers_right)⟩
theorem site_19 : SiteF (defScope st__law_numbers_right) ["odd", "line", "calls", "%t"] (defBody st__law_numbers_right) [0, 0, 0] [0, 1] ls_19 := ⟨rfl, rfl, by decide +kernel, by decide +kernel, ⟨rfl, rfl, rfl, by decide +kernel, by decide +kernel⟩⟩
def ls_20 : LamSite := match lamAt (defBody st__law_numbers_right) [1, 0, 1] with | some t => t | none => ⟨⟨[], [], none, [], [], none, []⟩, .Name "" ⟨0, 0, 0, 0⟩, (defScope st__law_numbers_right)⟩
theorem site_20 : SiteF (defScope st__law_numbers_right) ["odd", "line", "calls", "%t"] (defBody st__law_numbers_right) [1, 0, 1] [0] ls_20 := ⟨rfl, rfl, by decide +kernel, by decide +kernel, ⟨rfl, rfl, rfl, by decide +kernel, by decide +kernel⟩⟩
def ls_21 : LamSite := match lamAt (defBody st__law_numbers_right) [2, 0, 1] with | some t => t | none => ⟨⟨[], [], none, [], [], none, []⟩, .Name "" ⟨0, 0, 0, 0⟩, (defScope st__law_numbers_right)⟩
theorem site_21 : SiteF (defScope st__law_numbers_right) ["odd", "line", "calls", "%t"] (defBody st__law_numbers_right) [2, 0, 1] [0] ls_21 := ⟨rfl, rfl, by decide +kernel, by decide +kernel, ⟨rfl, rfl, rfl, by decide +kernel, by decide +kernel⟩⟩
def ls_22 : LamSite := match lamAt (defBody st__law_numbers_right) [3, 0, 1] with | some t => t | none => ⟨⟨[], [], none, [], [], none, []⟩, .Name "" ⟨0, 0, 0, 0⟩, (defScope st__law_numbers_right)⟩
theorem site_22 : SiteF (defScope st__law_numbers_right) ["odd", "line", "calls", "%t"] (defBody st__law_numbers_right) [3, 0, 1] [0] ls_22 := ⟨rfl, rfl, by decide +kernel, by decide +kernel, ⟨rfl, rfl, rfl, by decide +kernel, by decide +kernel⟩⟩
def ls_23 : LamSite := match lamAt (defBody st__law_behind_right) [0, 0, 0] with | some t => t | none => ⟨⟨[], [], none, [], [], none, []⟩, .Name "" ⟨0, 0, 0, 0⟩, (defScope st__law_behind_right)⟩
theorem site_23 : SiteF (defScope st__law_behind_right) ["pot", "line", "calls", "odd", "short", "one", "other", "more", "%t"] (defBody st__law_behind_right) [0, 0, 0] [1] ls_23 := ⟨rfl, rfl, by decide +kernel, by decide +kernel, ⟨rfl, rfl, rfl, by decide +kernel, by decide +kernel⟩⟩
def ls_24 : LamSite := match lamAt (defBody st__law_behind_right) [1, 0, 1] with | some t => t | none => ⟨⟨[], [], none, [], [], none, []⟩, .Name "" ⟨0, 0, 0, 0⟩, (defScope st__law_behind_right)⟩
theorem site_24 : SiteF (defScope st__law_behind_right) ["pot", "line", "calls", "odd", "short", "one", "other", "more", "%t"] (defBody st__law_behind_right) [1, 0, 1] [] ls_24 := ⟨rfl, rfl, by decide +kernel, by decide +kernel, ⟨rfl, rfl, rfl, by decide +kernel, by decide +kernel⟩⟩
def ls_25 : LamSite := match lamAt (defBody st__law_behind_right) [2, 0, 1] with | some t => t | none => ⟨⟨[], [], none, [], [], none, []⟩, .Name "" ⟨0, 0, 0, 0⟩, (defScope st__law_behind_right)⟩
theorem site_25 : SiteF (defScope st__law_behind_right) ["pot", "line", "calls", "odd", "short", "one", "other", "more", "%t"] (defBody st__law_behind_right) [2, 0, 1] [1] ls_25 := ⟨rfl, rfl, by decide +kernel, by decide +kernel, ⟨rfl, rfl, rfl, by decide +kernel, by decide +kernel⟩⟩
def ls_26 : LamSite := match lamAt (defBody st__law_behind_right) [3, 0, 1] with | some t => t | none => ⟨⟨[], [], none, [], [], none, []⟩, .Name "" ⟨0, 0, 0, 0⟩, (defScope st__law_behind_right)⟩
theorem site_26 : SiteF (defScope st__law_behind_right) ["pot", "line", "calls", "odd", "short", "one", "other", "more", "%t"] (defBody st__law_behind_right) [3, 0, 1] [] ls_26 := ⟨rfl, rfl, by decide +kernel, by decide +kernel, ⟨rfl, rfl, rfl, by decide +kernel, by decide +kernel⟩⟩
def ls_27 : LamSite := match lamAt (defBody st__law_behind_right) [4, 0, 1] with | some t => t | none => ⟨⟨[], [], none, [], [], none, []⟩, .Name "" ⟨0, 0, 0, 0⟩, (defScope st__law_behind_right)⟩
theorem site_27 : SiteF (defScope st__law_behind_right) ["pot", "line", "calls", "odd", "short", "one", "other", "more", "%t"] (defBody st__law_behind_right) [4, 0, 1] [] ls_27 := ⟨rfl, rfl, by decide +kernel, by decide +kernel, ⟨rfl, rfl, rfl, by decide +kernel, by decide +kernel⟩⟩
def ls_28 : LamSite := match lamAt (defBody st__law_behind_right) [5, 0, 1] with | some t => t | none => ⟨⟨[], [], none, [], [], none, []⟩, .Name "" ⟨0, 0, 0, 0⟩, (defScope st__law_behind_right)⟩
theorem site_28 : SiteF (defScope st__law_behind_right) ["pot", "line", "calls", "odd", "short", "one", "other", "more", "%t"] (defBody st__law_behind_right) [5, 0, 1] [] ls_28 := ⟨rfl, rfl, by decide +kernel, by decide +kernel, ⟨rfl, rfl, rfl, by decide +kernel, by decide +kernel⟩⟩
def ls_29 : LamSite := match lamAt (defBody st__law_behind_right) [7, 1, 0, 0, 0, 1] with | some t => t | none => ⟨⟨[], [], none, [], [], none, []⟩, .Name "" ⟨0, 0, 0, 0⟩, (defScope st__law_behind_right)⟩
theorem site_29 : SiteF (defScope st__law_behind_right) ["pot", "line", "calls", "odd", "short", "one", "other", "more", "%t"] (defBody st__law_behind_right) [7, 1, 0, 0, 0, 1] [3] ls_29 := ⟨rfl, rfl, by decide +kernel, by decide +kernel, ⟨rfl, rfl, rfl, by decide +kernel, by decide +kernel⟩⟩
def ls_30 : LamSite := match lamAt (defBody st__law_behind_right) [10, 0, 0] with | some t => t | none => ⟨⟨[], [], none, [], [], none, []⟩, .Name "" ⟨0, 0, 0, 0⟩, (defScope st__law_behind_right)⟩
theorem site_30 : SiteF (defScope st__law_behind_right) ["pot", "line", "calls", "odd", "short", "one", "other", "more", "%t"] (defBody st__law_behind_right) [10, 0, 0] [5, 7] ls_30 := ⟨rfl, rfl, by decide +kernel, by decide +kernel, ⟨rfl, rfl, rfl, by decide +kernel, by decide +kernel⟩⟩
def ls_31 : LamSite := match lamAt (defBody st__law_behind_right) [11, 0, 1] with | some t => t | none => ⟨⟨[], [], none, [], [], none, []⟩, .Name "" ⟨0, 0, 0, 0⟩, (defScope st__law_behind_right)⟩
theorem site_31 : SiteF (defScope st__law_behind_right) ["pot", "line", "calls", "odd", "short", "one", "other", "more", "%t"] (defBody st__law_behind_right) [11, 0, 1] [] ls_31 := ⟨rfl, rfl, by decide +kernel, by decide +kernel, ⟨rfl, rfl, rfl, by decide +kernel, by decide +kernel⟩⟩
def ls_32 : LamSite := match lamAt (defBody st__law_behind_right) [13, 0, 0] with | some t => t | none => ⟨⟨[], [], none, [], [], none, []⟩, .Name "" ⟨0, 0, 0, 0⟩, (defScope st__law_behind_right)⟩
theorem site_32 : SiteF (defScope st__law_behind_right) ["pot", "line", "calls", "odd", "short", "one", "other", "more", "%t"] (defBody st__law_behind_right) [13, 0, 0] [6, 5] ls_32 := ⟨rfl, rfl, by decide +kernel, by decide +kernel, ⟨rfl, rfl, rfl, by decide +kernel, by decide +kernel⟩⟩
def ls_33 : LamSite := match lamAt (defBody st__law_behind_right) [14, 0, 1] with | some t => t | none => ⟨⟨[], [], none, [], [], none, []⟩, .Name "" ⟨0, 0, 0, 0⟩, (defScope st__law_behind_right)⟩
theorem site_33 : SiteF (defScope st__law_behind_right) ["pot", "line", "calls", "odd", "short", "one", "other", "more", "%t"] (defBody st__law_behind_right) [14, 0, 1] [] ls_33 := ⟨rfl, rfl, by decide +kernel, by decide +kernel, ⟨rfl, rfl, rfl, by decide +kernel, by decide +kernel⟩⟩
def ls_34 : LamSite := match lamAt (defBody st__law_behind_right) [15, 0, 1] with | some t => t | none => ⟨⟨[], [], none, [], [], none, []⟩, .Name "" ⟨0, 0, 0, 0⟩, (defScope st__law_behind_right)⟩
theorem site_34 : SiteF (defScope st__law_behind_right) ["pot", "line", "calls", "odd", "short", "one", "other", "more", "%t"] (defBody st__law_behind_right) [15, 0, 1] [] ls_34 := ⟨rfl, rfl, by decide +kernel, by decide +kernel, ⟨rfl, rfl, rfl, by decide +kernel, by decide +kernel⟩⟩
def ls_35 : LamSite := match lamAt (defBody st__law_behind_right) [16, 0, 1] with | some t => t | none => ⟨⟨[], [], none, [], [], none, []⟩, .Name "" ⟨0, 0, 0, 0⟩, (defScope st__law_behind_right)⟩
theorem site_35 : SiteF (defScope st__law_behind_right) ["pot", "line", "calls", "odd", "short", "one", "other", "more", "%t"] (defBody st__law_behind_right) [16, 0, 1] [1] ls_35 := ⟨rfl, rfl, by decide +kernel, by decide +kernel, ⟨rfl, rfl, rfl, by decide +kernel, by decide +kernel⟩⟩
def ls_36 : LamSite := match lamAt (defBody st__law_behind_right) [17, 0, 1] with | some t => t | none => ⟨⟨[], [], none, [], [], none, []⟩, .Name "" ⟨0, 0, 0, 0⟩, (defScope st__law_behind_right)⟩
theorem site_36 : SiteF (defScope st__law_behind_right) ["pot", "line", "calls", "odd", "short", "one", "other", "more", "%t"] (defBody st__law_behind_right) [17, 0, 1] [] ls_36 := ⟨rfl, rfl, by decide +kernel, by decide +kernel, ⟨rfl, rfl, rfl, by decide +kernel, by decide +kernel⟩⟩
theorem bp_is_integer : BindP "is_integer" st_is_integer ["value"] := fun _ _ _ _ _ _ us hl => match us, hl with | [_], _ => rfl
theorem bp_is_list : BindP "is_list" st_is_list ["value"] := fun _ _ _ _ _ _ us hl => match us, hl with | [_], _ => rfl
theorem bp_divisor_of : BindP "divisor_of" st_divisor_of ["number", "other"] := fun _ _ _ _ _ _ us hl => match us, hl with | [_, _], _ => rfl
theorem bp_power_by : BindP "power_by" st_power_by ["number", "many"] := fun _ _ _ _ _ _ us hl => match us, hl with | [_, _], _ => rfl
theorem bp_square_root : BindP "square_root" st_square_root ["number"] := fun _ _ _ _ _ _ us hl => match us, hl with | [_], _ => rfl
theorem bp_has_divisor : BindP "has_divisor" st_has_divisor ["number"] := fun _ _ _ _ _ _ us hl => match us, hl with | [_], _ => rfl
theorem bp_trimmed : BindP "trimmed" st_trimmed ["numbers"] := fun _ _ _ _ _ _ us hl => match us, hl with | [_], _ => rfl
theorem bp_scaled_line : BindP "scaled_line" st_scaled_line ["line", "number"] := fun _ _ _ _ _ _ us hl => match us, hl with | [_, _], _ => rfl
theorem bp_times_lines : BindP "times_lines" st_times_lines ["line", "other"] := fun _ _ _ _ _ _ us hl => match us, hl with | [_, _], _ => rfl
theorem bp_value_at : BindP "value_at" st_value_at ["line", "number"] := fun _ _ _ _ _ _ us hl => match us, hl with | [_, _], _ => rfl
theorem bp_slope_of : BindP "slope_of" st_slope_of ["line"] := fun _ _ _ _ _ _ us hl => match us, hl with | [_], _ => rfl
theorem bp_rest_by : BindP "rest_by" st_rest_by ["number", "divisor"] := fun _ _ _ _ _ _ us hl => match us, hl with | [_, _], _ => rfl
theorem bp__law_pot : BindP "_law_pot" st__law_pot ["script", "k"] := fun _ _ _ _ _ _ us hl => match us, hl with | [_, _], _ => rfl
theorem bp__law_draw : BindP "_law_draw" st__law_draw ["pot", "many"] := fun _ _ _ _ _ _ us hl => match us, hl with | [_, _], _ => rfl
theorem bp_greatest_of : BindP "greatest_of" st_greatest_of ["some"] := fun _ _ _ _ _ _ us hl => match us, hl with | [_], _ => rfl
theorem bp_plus_lines : BindP "plus_lines" st_plus_lines ["line", "other"] := fun _ _ _ _ _ _ us hl => match us, hl with | [_, _], _ => rfl
theorem bp_line_in : BindP "line_in" st_line_in ["value"] := fun _ _ _ _ _ _ us hl => match us, hl with | [_], _ => rfl
theorem bp_fit_prime : BindP "fit_prime" st_fit_prime ["line"] := fun _ _ _ _ _ _ us hl => match us, hl with | [_], _ => rfl
theorem bp_undone_by : BindP "undone_by" st_undone_by ["number", "prime"] := fun _ _ _ _ _ _ us hl => match us, hl with | [_, _], _ => rfl
theorem bp_want_at_most : BindP "want_at_most" st_want_at_most ["what", "limit", "number"] := fun _ _ _ _ _ _ us hl => match us, hl with | [_, _, _], _ => rfl
theorem bp_want_number : BindP "want_number" st_want_number ["value"] := fun _ _ _ _ _ _ us hl => match us, hl with | [_], _ => rfl
theorem bp_minus_lines : BindP "minus_lines" st_minus_lines ["line", "other"] := fun _ _ _ _ _ _ us hl => match us, hl with | [_, _], _ => rfl
theorem bp_plain_of : BindP "plain_of" st_plain_of ["line"] := fun _ _ _ _ _ _ us hl => match us, hl with | [_], _ => rfl
theorem bp_want_line : BindP "want_line" st_want_line ["value"] := fun _ _ _ _ _ _ us hl => match us, hl with | [_], _ => rfl
theorem bp_lifted_root : BindP "lifted_root" st_lifted_root ["line", "prime", "root", "bound"] := fun _ _ _ _ _ _ us hl => match us, hl with | [_, _, _, _], _ => rfl
theorem bp_greatest : BindP "greatest" st_greatest ["number", "other"] := fun _ _ _ _ _ _ us hl => match us, hl with | [_, _], _ => rfl
theorem bp_parted : BindP "parted" st_parted ["line", "other"] := fun _ _ _ _ _ _ us hl => match us, hl with | [_, _], _ => rfl
theorem bp_two_lines : BindP "two_lines" st_two_lines ["line", "other"] := fun _ _ _ _ _ _ us hl => match us, hl with | [_, _], _ => rfl
theorem bp_degree : BindP "degree" st_degree ["line"] := fun _ _ _ _ _ _ us hl => match us, hl with | [_], _ => rfl
theorem bp_line_value : BindP "line_value" st_line_value ["line", "number"] := fun _ _ _ _ _ _ us hl => match us, hl with | [_, _], _ => rfl
theorem bp_plain_line : BindP "plain_line" st_plain_line ["line"] := fun _ _ _ _ _ _ us hl => match us, hl with | [_], _ => rfl
theorem bp_want_standing : BindP "want_standing" st_want_standing ["line"] := fun _ _ _ _ _ _ us hl => match us, hl with | [_], _ => rfl
theorem bp_common_of : BindP "common_of" st_common_of ["line", "other"] := fun _ _ _ _ _ _ us hl => match us, hl with | [_, _], _ => rfl
theorem bp_resultant_of : BindP "resultant_of" st_resultant_of ["line", "other"] := fun _ _ _ _ _ _ us hl => match us, hl with | [_, _], _ => rfl
theorem bp_two_standing : BindP "two_standing" st_two_standing ["line", "other"] := fun _ _ _ _ _ _ us hl => match us, hl with | [_, _], _ => rfl
theorem bp_line_sum : BindP "line_sum" st_line_sum ["line", "other"] := fun _ _ _ _ _ _ us hl => match us, hl with | [_, _], _ => rfl
theorem bp_line_less : BindP "line_less" st_line_less ["line", "other"] := fun _ _ _ _ _ _ us hl => match us, hl with | [_, _], _ => rfl
theorem bp_line_times : BindP "line_times" st_line_times ["line", "other"] := fun _ _ _ _ _ _ us hl => match us, hl with | [_, _], _ => rfl
theorem bp_line_divided : BindP "line_divided" st_line_divided ["line", "other"] := fun _ _ _ _ _ _ us hl => match us, hl with | [_, _], _ => rfl
theorem bp_line_common : BindP "line_common" st_line_common ["line", "other"] := fun _ _ _ _ _ _ us hl => match us, hl with | [_, _], _ => rfl
theorem bp_resultant : BindP "resultant" st_resultant ["line", "other"] := fun _ _ _ _ _ _ us hl => match us, hl with | [_, _], _ => rfl
theorem bp_plain_parts_of : BindP "plain_parts_of" st_plain_parts_of ["line"] := fun _ _ _ _ _ _ us hl => match us, hl with | [_], _ => rfl
theorem bp_single_part : BindP "single_part" st_single_part ["line"] := fun _ _ _ _ _ _ us hl => match us, hl with | [_], _ => rfl
theorem bp_whole_roots_of : BindP "whole_roots_of" st_whole_roots_of ["line"] := fun _ _ _ _ _ _ us hl => match us, hl with | [_], _ => rfl
theorem bp_plain_parts : BindP "plain_parts" st_plain_parts ["line"] := fun _ _ _ _ _ _ us hl => match us, hl with | [_], _ => rfl
theorem bp_two_quadratic : BindP "two_quadratic" st_two_quadratic ["line"] := fun _ _ _ _ _ _ us hl => match us, hl with | [_], _ => rfl
theorem bp_whole_roots : BindP "whole_roots" st_whole_roots ["line"] := fun _ _ _ _ _ _ us hl => match us, hl with | [_], _ => rfl
theorem bp_monic_parts_of : BindP "monic_parts_of" st_monic_parts_of ["line"] := fun _ _ _ _ _ _ us hl => match us, hl with | [_], _ => rfl
theorem bp_monic_parts : BindP "monic_parts" st_monic_parts ["line"] := fun _ _ _ _ _ _ us hl => match us, hl with | [_], _ => rfl
theorem bp__law_heard : BindP "_law_heard" st__law_heard ["call"] := fun _ _ _ _ _ _ us hl => match us, hl with | [_], _ => rfl
theorem bp__law_are : BindP "_law_are" st__law_are ["calls", "due"] := fun _ _ _ _ _ _ us hl => match us, hl with | [_, _], _ => rfl
theorem bp__law_lines_right : BindP "_law_lines_right" st__law_lines_right ["odd", "line"] := fun _ _ _ _ _ _ us hl => match us, hl with | [_, _], _ => rfl
theorem bp__law_numbers_right : BindP "_law_numbers_right" st__law_numbers_right ["odd", "line"] := fun _ _ _ _ _ _ us hl => match us, hl with | [_, _], _ => rfl
theorem bp__law_behind_right : BindP "_law_behind_right" st__law_behind_right ["pot", "line"] := fun _ _ _ _ _ _ us hl => match us, hl with | [_, _], _ => rfl
theorem bp__law_right : BindP "_law_right" st__law_right ["pot"] := fun _ _ _ _ _ _ us hl => match us, hl with | [_], _ => rfl
theorem bp_law : BindP "law" st_law ["script"] := fun _ _ _ _ _ _ us hl => match us, hl with | [_], _ => rfl
theorem bk_greatest_other_number : BindK "greatest" st_greatest ["number", "other"] ["other", "number"] [1, 0] := fun _ _ _ _ _ _ ws hl => match ws, hl with | [_, _], _ => rfl
theorem bk_line_divided_other_line : BindK "line_divided" st_line_divided ["line", "other"] ["other", "line"] [1, 0] := fun _ _ _ _ _ _ ws hl => match ws, hl with | [_, _], _ => rfl
theorem bk_line_slope_line : BindK "line_slope" st_line_slope ["line"] ["line"] [0] := fun _ _ _ _ _ _ ws hl => match ws, hl with | [_], _ => rfl
theorem bk_line_sum_other_line : BindK "line_sum" st_line_sum ["line", "other"] ["other", "line"] [1, 0] := fun _ _ _ _ _ _ ws hl => match ws, hl with | [_, _], _ => rfl
theorem bk_line_times_other_line : BindK "line_times" st_line_times ["line", "other"] ["other", "line"] [1, 0] := fun _ _ _ _ _ _ ws hl => match ws, hl with | [_, _], _ => rfl
theorem bk_line_value_number_line : BindK "line_value" st_line_value ["line", "number"] ["number", "line"] [1, 0] := fun _ _ _ _ _ _ ws hl => match ws, hl with | [_, _], _ => rfl
theorem bk_whole_roots_line : BindK "whole_roots" st_whole_roots ["line"] ["line"] [0] := fun _ _ _ _ _ _ ws hl => match ws, hl with | [_], _ => rfl
section
variable {Pr : Program} {w : World} {K : PySem.W.Frag} {mg : Str → Option Value} {base : Heap}
theorem sc_is_integer : FnScope ["value"] ["value"] (defScope st_is_integer) := ⟨rfl, rfl, rfl, by decide +kernel, rfl, by decide +kernel, by decide +kernel⟩
theorem is_integer_bd (V : Txt K mg) (hS : SysD base) : BdOk Pr w K mg base 0 "is_integer" st_is_integer ["value"] [] is_integer_b := fun fa cdv A outer s H E hg hr => by
  have hN := (sc_is_integer).nd
  exact s_one (s_ret (e_P (p_and (p_isi V.z_isinstance (ab_cons (b_P (p_V rfl (.inl rfl))) (ab_cons (b_P (p_ty (by rfl) V.z_int (by decide +kernel))) ab_nil))) (p_one (p_not (p_isi V.z_isinstance (ab_cons (b_P (p_V rfl (.inl rfl))) (ab_cons (b_P (p_ty (by rfl) V.z_bool (by decide +kernel))) ab_nil))))))))
theorem is_integer_ok (V : Txt K mg) (hS : SysD base) : FnM Pr w K mg base 1 "is_integer" st_is_integer ["value"] is_integer_m := FnM.by V.d_is_integer sc_is_integer (is_integer_bd V hS)
theorem sc_is_list : FnScope ["value"] ["value"] (defScope st_is_list) := ⟨rfl, rfl, rfl, by decide +kernel, rfl, by decide +kernel, by decide +kernel⟩
theorem is_list_bd (V : Txt K mg) (hS : SysD base) : BdOk Pr w K mg base 0 "is_list" st_is_list ["value"] [] is_list_b := fun fa cdv A outer s H E hg hr => by
  have hN := (sc_is_list).nd
  exact s_one (s_ret (e_P (p_isi V.z_isinstance (ab_cons (b_P (p_V rfl (.inl rfl))) (ab_cons (b_P (p_tup (ad_cons (p_ty (by rfl) V.z_list (by decide +kernel)) (ad_cons (p_ty (by rfl) V.z_tuple (by decide +kernel)) ad_nil)))) ab_nil)))))
theorem is_list_ok (V : Txt K mg) (hS : SysD base) : FnM Pr w K mg base 1 "is_list" st_is_list ["value"] is_list_m := FnM.by V.d_is_list sc_is_list (is_list_bd V hS)
theorem sc_divisor_of : FnScope ["number", "other", "near", "far"] ["number", "other"] (defScope st_divisor_of) := ⟨rfl, rfl, rfl, by decide +kernel, rfl, by decide +kernel, by decide +kernel⟩
theorem divisor_of_bd (V : Txt K mg) (hS : SysD base) : BdOk Pr w K mg base 0 "divisor_of" st_divisor_of ["number", "other", "near", "far"] [] divisor_of_b := fun fa cdv A outer s H E hg hr => by
  have hN := (sc_divisor_of).nd
  exact s_cons (s_par (i := 2) (j := 3) rfl hN rfl rfl (by decide) rfl rfl (am_cons (e_P (p_abs V.z_abs (ab_cons (b_P (p_V rfl (.inl rfl))) ab_nil))) (am_cons (e_P (p_abs V.z_abs (ab_cons (b_P (p_V rfl (.inl rfl))) ab_nil))) am_nil)) (by decide) (by decide) rfl) (s_cons (s_whF (passes_of rfl) (t_P (q_ne hr (b_P (p_V rfl (.inl rfl))) (b_P (p_int)))) (s_one (s_par (i := 2) (j := 3) rfl hN rfl rfl (by decide) rfl rfl (am_cons (e_P (p_V rfl (.inl rfl))) (am_cons (e_P (p_sub (b_P (p_V rfl (.inl rfl))) (b_P (p_mul (b_P (p_fdiv (b_P (p_V rfl (.inl rfl))) (b_P (p_V rfl (.inl rfl))))) (b_P (p_V rfl (.inl rfl))))))) am_nil)) (by decide) (by decide) rfl))) (s_one (s_ret (e_P (p_V rfl (.inl rfl))))))
theorem divisor_of_ok (V : Txt K mg) (hS : SysD base) : FnM Pr w K mg base 1 "divisor_of" st_divisor_of ["number", "other"] divisor_of_m := FnM.by V.d_divisor_of sc_divisor_of (divisor_of_bd V hS)
theorem sc_power_by : FnScope ["number", "many", "found", "turn"] ["number", "many"] (defScope st_power_by) := ⟨rfl, rfl, rfl, by decide +kernel, rfl, by decide +kernel, by decide +kernel⟩
theorem power_by_bd (V : Txt K mg) (hS : SysD base) : BdOk Pr w K mg base 0 "power_by" st_power_by ["number", "many", "found", "turn"] [] power_by_b := fun fa cdv A outer s H E hg hr => by
  have hN := (sc_power_by).nd
  exact s_cons (s_set (i := 2) hN rfl (.inl rfl) (e_P (p_int))) (s_cons (s_for (passes_of rfl) rfl (iD_rng1 (by rfl) V.z_range (am_cons (e_P (p_V rfl (.inl rfl))) am_nil)) (g_V hN rfl (.inl rfl) (.inl rfl)) (s_one (s_set (i := 2) hN rfl (.inl rfl) (e_P (p_mul (b_P (p_V rfl (.inl rfl))) (b_P (p_V rfl (.inl rfl)))))))) (s_one (s_ret (e_P (p_V rfl (.inl rfl))))))
theorem power_by_ok (V : Txt K mg) (hS : SysD base) : FnM Pr w K mg base 1 "power_by" st_power_by ["number", "many"] power_by_m := FnM.by V.d_power_by sc_power_by (power_by_bd V hS)
theorem sc_square_root : FnScope ["number", "here", "later"] ["number"] (defScope st_square_root) := ⟨rfl, rfl, rfl, by decide +kernel, rfl, by decide +kernel, by decide +kernel⟩
theorem square_root_bd (V : Txt K mg) (hS : SysD base) : BdOk Pr w K mg base 0 "square_root" st_square_root ["number", "here", "later"] [] square_root_b := fun fa cdv A outer s H E hg hr => by
  have hN := (sc_square_root).nd
  exact s_cons (s_if (t_P (q_lt (b_P (p_V rfl (.inl rfl))) (b_P (p_int)))) (s_one (s_ret (e_P (p_non)))) (s_nil)) (s_cons (s_set (i := 1) hN rfl (.inl rfl) (e_P (p_add (b_P (p_V rfl (.inl rfl))) (b_P (p_int))))) (s_one (s_whF (passes_of rfl) (t_P (q_val (p_bl))) (s_cons (s_if (t_P (q_eq hr (b_P (p_V rfl (.inl rfl))) (b_P (p_int)))) (s_one (s_ret (e_P (p_int)))) (s_nil)) (s_cons (s_set (i := 2) hN rfl (.inl rfl) (e_P (p_fdiv (b_P (p_add (b_P (p_V rfl (.inl rfl))) (b_P (p_fdiv (b_P (p_V rfl (.inl rfl))) (b_P (p_V rfl (.inl rfl))))))) (b_P (p_int))))) (s_cons (s_if (t_P (q_ge (b_P (p_V rfl (.inl rfl))) (b_P (p_V rfl (.inl rfl))))) (s_one (s_ret (e_P (p_if (q_eq hr (b_P (p_mul (b_P (p_V rfl (.inl rfl))) (b_P (p_V rfl (.inl rfl))))) (b_P (p_V rfl (.inl rfl)))) (p_V rfl (.inl rfl)) (p_non))))) (s_nil)) (s_one (s_set (i := 1) hN rfl (.inl rfl) (e_P (p_V rfl (.inl rfl)))))))))))
theorem square_root_ok (V : Txt K mg) (hS : SysD base) : FnM Pr w K mg base 1 "square_root" st_square_root ["number"] square_root_m := FnM.by V.d_square_root sc_square_root (square_root_bd V hS)
theorem sc_has_divisor : FnScope ["number", "part"] ["number"] (defScope st_has_divisor) := ⟨rfl, rfl, rfl, by decide +kernel, rfl, by decide +kernel, by decide +kernel⟩
theorem has_divisor_bd (V : Txt K mg) (hS : SysD base) : BdOk Pr w K mg base 0 "has_divisor" st_has_divisor ["number", "part"] [] has_divisor_b := fun fa cdv A outer s H E hg hr => by
  have hN := (sc_has_divisor).nd
  exact s_cons (s_set (i := 1) hN rfl (.inl rfl) (e_P (p_int))) (s_cons (s_whF (passes_of rfl) (t_P (q_le (b_P (p_mul (b_P (p_V rfl (.inl rfl))) (b_P (p_V rfl (.inl rfl))))) (b_P (p_V rfl (.inl rfl))))) (s_cons (s_if (t_P (q_eq hr (b_P (p_mul (b_P (p_fdiv (b_P (p_V rfl (.inl rfl))) (b_P (p_V rfl (.inl rfl))))) (b_P (p_V rfl (.inl rfl))))) (b_P (p_V rfl (.inl rfl))))) (s_one (s_ret (e_P (p_bl)))) (s_nil)) (s_one (s_set (i := 1) hN rfl (.inl rfl) (e_P (p_add (b_P (p_V rfl (.inl rfl))) (b_P (p_int)))))))) (s_one (s_ret (e_P (p_bl)))))
theorem has_divisor_ok (V : Txt K mg) (hS : SysD base) : FnM Pr w K mg base 1 "has_divisor" st_has_divisor ["number"] has_divisor_m := FnM.by V.d_has_divisor sc_has_divisor (has_divisor_bd V hS)
theorem sc_trimmed : FnScope ["numbers", "many"] ["numbers"] (defScope st_trimmed) := ⟨rfl, rfl, rfl, by decide +kernel, rfl, by decide +kernel, by decide +kernel⟩
theorem trimmed_bd (V : Txt K mg) (hS : SysD base) : BdOk Pr w K mg base 0 "trimmed" st_trimmed ["numbers", "many"] [] trimmed_b := fun fa cdv A outer s H E hg hr => by
  have hN := (sc_trimmed).nd
  exact s_cons (s_set (i := 1) hN rfl (.inl rfl) (e_P (p_len V.z_len (ab_cons (b_P (p_V rfl (.inl rfl))) ab_nil)))) (s_cons (s_whF (passes_of rfl) (t_P (q_W (w_and (q_gt (b_P (p_V rfl (.inl rfl))) (b_P (p_int))) (w_and1 (q_eq hr (b_P (p_ix (p_V rfl (.inl rfl)) (b_P (p_sub (b_P (p_V rfl (.inl rfl))) (b_P (p_int)))) (fun _ _ => rfl))) (b_P (p_int))))))) (s_one (s_set (i := 1) hN rfl (.inl rfl) (e_P (p_sub (b_P (p_V rfl (.inl rfl))) (b_P (p_int))))))) (s_one (s_ret (e_P (p_F (f_listC V.z_list (p_F (f_slice (l_P (p_V rfl (.inl rfl))) o_none (o_some (b_P (p_V rfl (.inl rfl))))))))))))
theorem trimmed_ok (V : Txt K mg) (hS : SysD base) : FnM Pr w K mg base 1 "trimmed" st_trimmed ["numbers"] trimmed_m := FnM.by V.d_trimmed sc_trimmed (trimmed_bd V hS)
theorem sc_scaled_line : FnScope ["line", "number", "one"] ["line", "number"] (defScope st_scaled_line) := ⟨rfl, rfl, rfl, by decide +kernel, rfl, by decide +kernel, by decide +kernel⟩
theorem scaled_line_bd (V : Txt K mg) (hS : SysD base) : BdOk Pr w K mg base 0 "scaled_line" st_scaled_line ["line", "number", "one"] [] scaled_line_b := fun fa cdv A outer s H E hg hr => by
  have hN := (sc_scaled_line).nd
  exact s_one (s_ret (e_if (t_P (q_ne hr (b_P (p_V rfl (.inr (.inl rfl)))) (b_P (p_int)))) (e_F (f_comp (own := [("one", 2)]) rfl hN (iG_seq (p_V rfl (.inl rfl))) (blkOk_by (own := [("one", 2)]) rfl) (fun _ _ _ _ _ => g_V hN rfl (by first | exact .inl rfl | exact .inr rfl) (by first | exact .inr rfl | exact .inl rfl)) (fun _ _ _ _ _ => ts_nil) (fun _ _ _ _ _ => p_mul (b_P (p_V rfl (by first | exact .inr (.inr rfl) | exact .inr (.inl rfl) | exact .inl rfl))) (b_P (p_V rfl (.inl rfl)))) (by decide))) (e_F (f_lst (ad_nil)))))
theorem scaled_line_ok (V : Txt K mg) (hS : SysD base) : FnM Pr w K mg base 1 "scaled_line" st_scaled_line ["line", "number"] scaled_line_m := FnM.by V.d_scaled_line sc_scaled_line (scaled_line_bd V hS)
theorem sc_times_lines : FnScope ["line", "other", "found", "at", "near", "to", "far"] ["line", "other"] (defScope st_times_lines) := ⟨rfl, rfl, rfl, by decide +kernel, rfl, by decide +kernel, by decide +kernel⟩
theorem times_lines_bd (V : Txt K mg) (hS : SysD base) : BdOk Pr w K mg base 0 "times_lines" st_times_lines ["line", "other", "found", "at", "near", "to", "far"] [] times_lines_b := fun fa cdv A outer s H E hg hr => by
  have hN := (sc_times_lines).nd
  exact s_cons (s_if (t_P (q_W (w_or (q_eq hr (b_P (p_len V.z_len (ab_cons (b_P (p_V rfl (.inl rfl))) ab_nil))) (b_P (p_int))) (w_or1 (q_eq hr (b_P (p_len V.z_len (ab_cons (b_P (p_V rfl (.inl rfl))) ab_nil))) (b_P (p_int))))))) (s_one (s_ret (e_P (p_F (f_lst (ad_nil)))))) (s_nil)) (s_cons (s_set (i := 2) hN rfl (.inl rfl) (e_F (f_rep (l_F (f_lst (ad_cons (p_int) ad_nil))) (b_P (p_sub (b_P (p_add (b_P (p_len V.z_len (ab_cons (b_P (p_V rfl (.inl rfl))) ab_nil))) (b_P (p_len V.z_len (ab_cons (b_P (p_V rfl (.inl rfl))) ab_nil))))) (b_P (p_int))))))) (s_cons (s_for (passes_of rfl) rfl (iD_enumS (by rfl) V.z_enumerate (p_V rfl (.inl rfl))) (g_tup rfl (gs_cons (g_V hN rfl (.inl rfl) (.inl rfl)) (gs_cons (g_V hN rfl (.inl rfl) (.inl rfl)) (gs_nil)))) (s_one (s_if (t_P (q_ne hr (b_P (p_V rfl (.inl rfl))) (b_P (p_int)))) (s_one (s_for (passes_of rfl) rfl (iD_enumS (by rfl) V.z_enumerate (p_V rfl (.inl rfl))) (g_tup rfl (gs_cons (g_V hN rfl (.inl rfl) (.inl rfl)) (gs_cons (g_V hN rfl (.inl rfl) (.inl rfl)) (gs_nil)))) (s_one (s_augIx (pa_V rfl (.inl rfl)) (b_P (p_add (b_P (p_V rfl (.inl rfl))) (b_P (p_V rfl (.inl rfl))))) (b_P (p_mul (b_P (p_V rfl (.inl rfl))) (b_P (p_V rfl (.inl rfl))))) (iop_add.or iop_add_str) pure_add)))) (s_nil)))) (s_one (s_ret (e_V rfl (.inl rfl))))))
theorem times_lines_ok (V : Txt K mg) (hS : SysD base) : FnM Pr w K mg base 1 "times_lines" st_times_lines ["line", "other"] times_lines_m := FnM.by V.d_times_lines sc_times_lines (times_lines_bd V hS)
theorem sc_value_at : FnScope ["line", "number", "found", "one"] ["line", "number"] (defScope st_value_at) := ⟨rfl, rfl, rfl, by decide +kernel, rfl, by decide +kernel, by decide +kernel⟩
theorem value_at_bd (V : Txt K mg) (hS : SysD base) : BdOk Pr w K mg base 0 "value_at" st_value_at ["line", "number", "found", "one"] [] value_at_b := fun fa cdv A outer s H E hg hr => by
  have hN := (sc_value_at).nd
  exact s_cons (s_set (i := 2) hN rfl (.inl rfl) (e_P (p_int))) (s_cons (s_for (passes_of rfl) rfl (iD_seq (e_P (p_F (f_rev (l_P (p_V rfl (.inl rfl))))))) (g_V hN rfl (.inl rfl) (.inl rfl)) (s_one (s_set (i := 2) hN rfl (.inl rfl) (e_P (p_add (b_P (p_mul (b_P (p_V rfl (.inl rfl))) (b_P (p_V rfl (.inl rfl))))) (b_P (p_V rfl (.inl rfl)))))))) (s_one (s_ret (e_P (p_V rfl (.inl rfl))))))
theorem value_at_ok (V : Txt K mg) (hS : SysD base) : FnM Pr w K mg base 1 "value_at" st_value_at ["line", "number"] value_at_m := FnM.by V.d_value_at sc_value_at (value_at_bd V hS)
theorem sc_slope_of : FnScope ["line", "at", "number"] ["line"] (defScope st_slope_of) := ⟨rfl, rfl, rfl, by decide +kernel, rfl, by decide +kernel, by decide +kernel⟩
theorem slope_of_bd (V : Txt K mg) (hS : SysD base) : BdOk Pr w K mg base 0 "slope_of" st_slope_of ["line", "at", "number"] [] slope_of_b := fun fa cdv A outer s H E hg hr => by
  have hN := (sc_slope_of).nd
  exact s_one (s_ret (e_P (p_F (f_slice (l_F (f_comp (own := [("at", 1), ("number", 2)]) rfl hN (iG_enumS (by rfl) V.z_enumerate (p_V rfl (.inl rfl))) (blkOk_by (own := [("at", 1), ("number", 2)]) rfl) (fun _ _ _ _ _ => g_tup rfl (gs_cons (g_V hN rfl (by first | exact .inl rfl | exact .inr rfl) (by first | exact .inr rfl | exact .inl rfl)) (gs_cons (g_V hN rfl (by first | exact .inl rfl | exact .inr rfl) (by first | exact .inr rfl | exact .inl rfl)) (gs_nil)))) (fun _ _ _ _ _ => ts_nil) (fun _ _ _ _ _ => p_mul (b_P (p_V rfl (.inl rfl))) (b_P (p_V rfl (.inl rfl)))) (by decide))) (o_some (b_P (p_int))) o_none))))
theorem slope_of_ok (V : Txt K mg) (hS : SysD base) : FnM Pr w K mg base 1 "slope_of" st_slope_of ["line"] slope_of_m := FnM.by V.d_slope_of sc_slope_of (slope_of_bd V hS)
theorem sc_rest_by : FnScope ["number", "divisor"] ["number", "divisor"] (defScope st_rest_by) := ⟨rfl, rfl, rfl, by decide +kernel, rfl, by decide +kernel, by decide +kernel⟩
theorem rest_by_bd (V : Txt K mg) (hS : SysD base) : BdOk Pr w K mg base 0 "rest_by" st_rest_by ["number", "divisor"] [] rest_by_b := fun fa cdv A outer s H E hg hr => by
  have hN := (sc_rest_by).nd
  exact s_one (s_ret (e_P (p_sub (b_P (p_V rfl (.inl rfl))) (b_P (p_mul (b_P (p_fdiv (b_P (p_V rfl (.inl rfl))) (b_P (p_V rfl (.inl rfl))))) (b_P (p_V rfl (.inl rfl))))))))
theorem rest_by_ok (V : Txt K mg) (hS : SysD base) : FnM Pr w K mg base 1 "rest_by" st_rest_by ["number", "divisor"] rest_by_m := FnM.by V.d_rest_by sc_rest_by (rest_by_bd V hS)
theorem sc__law_pot : FnScope ["script", "k", "cell"] ["script", "k"] (defScope st__law_pot) := ⟨rfl, rfl, rfl, by decide +kernel, rfl, by decide +kernel, by decide +kernel⟩
theorem _law_pot_bd (V : Txt K mg) (hS : SysD base) : BdOk Pr w K mg base 0 "_law_pot" st__law_pot ["script", "k", "cell"] [] _law_pot_b := fun fa cdv A outer s H E hg hr => by
  have hN := (sc__law_pot).nd
  exact s_cons (s_set (i := 2) hN rfl (.inl rfl) (e_P (p_if (q_lt (b_P (p_V rfl (.inl rfl))) (b_P (p_len V.z_len (ab_cons (b_P (p_V rfl (.inl rfl))) ab_nil)))) (p_abs V.z_abs (ab_cons (b_P (p_ix (p_V rfl (.inl rfl)) (b_P (p_V rfl (.inl rfl))) (fun _ _ => rfl))) ab_nil)) (p_add (b_P (p_mul (b_P (p_int)) (b_P (p_V rfl (.inl rfl))))) (b_P (p_int)))))) (s_one (s_ret (e_F (f_lst (ad_cons (p_max rfl V.z_max (ab_cons (b_P (p_int)) (ab_cons (b_P (p_sub (b_P (p_V rfl (.inl rfl))) (b_P (p_pow (b_P (p_int)) (b_P (p_int)))))) ab_nil))) (ad_cons (p_add (b_P (p_mod (b_P (p_intC V.z_int (ab_cons (b_P (p_add (b_P (p_add (b_P (p_mul (b_P (p_mod (b_P (p_intC V.z_int (ab_cons (b_P (p_V rfl (.inl rfl))) ab_nil))) (b_P (p_int)))) (b_P (p_int)))) (b_P (p_mul (b_P (p_int)) (b_P (p_V rfl (.inl rfl))))))) (b_P (p_int)))) ab_nil))) (b_P (p_int)))) (b_P (p_int))) ad_nil))))))
theorem _law_pot_ok (V : Txt K mg) (hS : SysD base) : FnM Pr w K mg base 1 "_law_pot" st__law_pot ["script", "k"] _law_pot_m := FnM.by V.d__law_pot sc__law_pot (_law_pot_bd V hS)
theorem sc__law_draw : FnScope ["pot", "many", "digit"] ["pot", "many"] (defScope st__law_draw) := ⟨rfl, rfl, rfl, by decide +kernel, rfl, by decide +kernel, by decide +kernel⟩
theorem _law_draw_bd (V : Txt K mg) (hS : SysD base) : BdOk Pr w K mg base 0 "_law_draw" st__law_draw ["pot", "many", "digit"] [0] _law_draw_b := fun fa cdv A outer s H E hg hr => by
  have hN := (sc__law_draw).nd
  exact s_cons (s_if (t_P (q_gt (b_Kf (k_ix (k_V rfl (.inl rfl)) (b_P (p_int)) (fun _ _ => rfl))) (b_P (p_int)))) (s_cons (s_asg (e_P (p_divmod (by rfl) V.z_divmod (ab_cons (b_Kf (k_ix (k_V rfl (.inl rfl)) (b_P (p_int)) (fun _ _ => rfl))) (ab_cons (b_P (p_V rfl (.inl rfl))) ab_nil)))) (g_tup rfl (gs_cons (g_ix (pa_V rfl (.inl rfl)) (b_P (p_int))) (gs_cons (g_V hN rfl (.inl rfl) (.inl rfl)) (gs_nil))))) (s_one (s_ret (e_P (p_V rfl (.inl rfl)))))) (s_nil)) (s_cons (s_asg (e_P (p_mod (b_P (p_intC V.z_int (ab_cons (b_P (p_add (b_P (p_mul (b_Kf (k_ix (k_V rfl (.inl rfl)) (b_P (p_int)) (fun _ _ => rfl))) (b_P (p_int)))) (b_P (p_int)))) ab_nil))) (b_P (p_int)))) (g_ix (pa_V rfl (.inl rfl)) (b_P (p_int)))) (s_one (s_ret (e_P (p_mod (b_P (p_intC V.z_int (ab_cons (b_P (p_fdiv (b_P (p_mod (b_P (p_intC V.z_int (ab_cons (b_P (p_mul (b_Kf (k_ix (k_V rfl (.inl rfl)) (b_P (p_int)) (fun _ _ => rfl))) (b_Kf (k_ix (k_V rfl (.inl rfl)) (b_P (p_int)) (fun _ _ => rfl))))) ab_nil))) (b_P (p_int)))) (b_P (p_int)))) ab_nil))) (b_P (p_V rfl (.inl rfl))))))))
theorem _law_draw_ok (V : Txt K mg) (hS : SysD base) : FnM Pr w K mg base 1 "_law_draw" st__law_draw ["pot", "many"] _law_draw_m := FnM.by V.d__law_draw sc__law_draw (_law_draw_bd V hS)
theorem sc_greatest_of : FnScope ["some", "found", "number"] ["some"] (defScope st_greatest_of) := ⟨rfl, rfl, rfl, by decide +kernel, rfl, by decide +kernel, by decide +kernel⟩
theorem greatest_of_bd (V : Txt K mg) (hS : SysD base) : BdOk Pr w K mg base 1 "greatest_of" st_greatest_of ["some", "found", "number"] [] greatest_of_b := fun fa cdv A outer s H E hg hr => by
  have hN := (sc_greatest_of).nd
  exact s_cons (s_set (i := 1) hN rfl (.inl rfl) (e_P (p_int))) (s_cons (s_for (passes_of rfl) rfl (iD_seq (e_P (p_V rfl (.inl rfl)))) (g_V hN rfl (.inl rfl) (.inl rfl)) (s_one (s_set (i := 1) hN rfl (.inl rfl) (e_P (p_fn (divisor_of_ok V hS) bp_divisor_of hg hr (by rfl) (ad_cons (p_V rfl (.inl rfl)) (ad_cons (p_V rfl (.inl rfl)) ad_nil))))))) (s_one (s_ret (e_P (p_V rfl (.inl rfl))))))
theorem greatest_of_ok (V : Txt K mg) (hS : SysD base) : FnM Pr w K mg base 2 "greatest_of" st_greatest_of ["some"] greatest_of_m := FnM.by V.d_greatest_of sc_greatest_of (greatest_of_bd V hS)
theorem sc_plus_lines : FnScope ["line", "other", "near", "far", "at"] ["line", "other"] (defScope st_plus_lines) := ⟨rfl, rfl, rfl, by decide +kernel, rfl, by decide +kernel, by decide +kernel⟩
theorem plus_lines_bd (V : Txt K mg) (hS : SysD base) : BdOk Pr w K mg base 1 "plus_lines" st_plus_lines ["line", "other", "near", "far", "at"] [] plus_lines_b := fun fa cdv A outer s H E hg hr => by
  have hN := (sc_plus_lines).nd
  exact s_cons (s_asg (e_P (p_if (q_ge (b_P (p_len V.z_len (ab_cons (b_P (p_V rfl (.inl rfl))) ab_nil))) (b_P (p_len V.z_len (ab_cons (b_P (p_V rfl (.inl rfl))) ab_nil)))) (p_tup (ad_cons (p_V rfl (.inl rfl)) (ad_cons (p_V rfl (.inl rfl)) ad_nil))) (p_tup (ad_cons (p_V rfl (.inl rfl)) (ad_cons (p_V rfl (.inl rfl)) ad_nil))))) (g_tup rfl (gs_cons (g_V hN rfl (.inr rfl) (.inl rfl)) (gs_cons (g_V hN rfl (.inr rfl) (.inl rfl)) (gs_nil))))) (s_one (s_ret (e_P (p_fn (trimmed_ok V hS) bp_trimmed hg hr (by rfl) (ad_cons (p_F (f_cat (l_F (f_comp (own := [("at", 4)]) rfl hN (iG_rng1 (by rfl) V.z_range (ab_cons (b_P (p_len V.z_len (ab_cons (b_P (p_V rfl (.inr (.inl rfl)))) ab_nil))) ab_nil)) (blkOk_by (own := [("at", 4)]) rfl) (fun _ _ _ _ _ => g_V hN rfl (by first | exact .inl rfl | exact .inr rfl) (by first | exact .inr rfl | exact .inl rfl)) (fun _ _ _ _ _ => ts_nil) (fun _ _ _ _ _ => p_add (b_P (p_ix (p_V rfl (by first | exact .inr (.inr rfl) | exact .inr (.inl rfl) | exact .inl rfl)) (b_P (p_V rfl (.inl rfl))) (fun _ _ => rfl))) (b_P (p_ix (p_V rfl (by first | exact .inr (.inr rfl) | exact .inr (.inl rfl) | exact .inl rfl)) (b_P (p_V rfl (.inl rfl))) (fun _ _ => rfl)))) (by decide))) (l_F (f_listC V.z_list (p_F (f_slice (l_P (p_V rfl (.inr (.inl rfl)))) (o_some (b_P (p_len V.z_len (ab_cons (b_P (p_V rfl (.inr (.inl rfl)))) ab_nil)))) o_none)))))) ad_nil)))))
theorem plus_lines_ok (V : Txt K mg) (hS : SysD base) : FnM Pr w K mg base 2 "plus_lines" st_plus_lines ["line", "other"] plus_lines_m := FnM.by V.d_plus_lines sc_plus_lines (plus_lines_bd V hS)
theorem sc_line_in : FnScope ["value", "one"] ["value"] (defScope st_line_in) := ⟨rfl, rfl, rfl, by decide +kernel, rfl, by decide +kernel, by decide +kernel⟩
theorem line_in_bd (V : Txt K mg) (hS : SysD base) : BdOk Pr w K mg base 1 "line_in" st_line_in ["value", "one"] [] line_in_b := fun fa cdv A outer s H E hg hr => by
  have hN := (sc_line_in).nd
  exact s_cons (s_if (t_P (q_W (w_or (q_not (q_val (p_fn (is_list_ok V hS) bp_is_list hg hr (by rfl) (ad_cons (p_V rfl (.inl rfl)) ad_nil)))) (w_or (q_gt (b_P (p_len V.z_len (ab_cons (b_P (p_V rfl (.inl rfl))) ab_nil))) (b_P (p_add (b_P (p_glob (v := .int 12) rfl V.g_MOST_DEGREE.choose_spec ⟨_, rfl⟩)) (b_P (p_int))))) (w_or1 (q_not (q_val (p_all rfl V.z_all (ab_cons (b_P (p_F (f_comp (own := [("one", 1)]) rfl hN (iG_seq (p_V rfl (.inl rfl))) (blkOk_by (own := [("one", 1)]) rfl) (fun _ _ _ _ _ => g_V hN rfl (by first | exact .inl rfl | exact .inr rfl) (by first | exact .inr rfl | exact .inl rfl)) (fun _ _ _ _ _ => ts_nil) (fun _ _ _ _ _ => p_fn (is_integer_ok V hS) bp_is_integer hg hr (by rfl) (ad_cons (p_V rfl (.inl rfl)) ad_nil)) (by decide)))) ab_nil))))))))) (s_one (s_ret (e_P (p_non)))) (s_nil)) (s_one (s_ret (e_P (p_if (q_W (w_or (q_eq hr (b_P (p_len V.z_len (ab_cons (b_P (p_V rfl (.inl rfl))) ab_nil))) (b_P (p_int))) (w_or1 (q_ne hr (b_P (p_ix (p_V rfl (.inl rfl)) (b_P (p_neg (b_P (p_int)))) (fun _ _ => rfl))) (b_P (p_int)))))) (p_F (f_listC V.z_list (p_V rfl (.inl rfl)))) (p_non)))))
theorem line_in_ok (V : Txt K mg) (hS : SysD base) : FnM Pr w K mg base 2 "line_in" st_line_in ["value"] line_in_m := FnM.by V.d_line_in sc_line_in (line_in_bd V hS)
theorem sc_fit_prime : FnScope ["line", "prime", "slope", "roots", "at"] ["line"] (defScope st_fit_prime) := ⟨rfl, rfl, rfl, by decide +kernel, rfl, by decide +kernel, by decide +kernel⟩
theorem fit_prime_bd (V : Txt K mg) (hS : SysD base) : BdOk Pr w K mg base 1 "fit_prime" st_fit_prime ["line", "prime", "slope", "roots", "at"] [] fit_prime_b := fun fa cdv A outer s H E hg hr => by
  have hN := (sc_fit_prime).nd
  exact s_cons (s_parT (i := 1) (j := 2) hN rfl rfl (.inr rfl) (.inr rfl) (am_cons (e_P (p_int)) (am_cons (e_P (p_fn (slope_of_ok V hS) bp_slope_of hg hr (by rfl) (ad_cons (p_V rfl (.inr (.inl rfl))) ad_nil))) am_nil))) (s_one (s_whF (passes_of rfl) (t_P (q_val (p_bl))) (s_cons (s_set (i := 1) hN rfl (.inr rfl) (e_P (p_add (b_P (p_V rfl (.inr (.inl rfl)))) (b_P (p_int))))) (s_one (s_if (t_P (q_not (q_val (p_fn (has_divisor_ok V hS) bp_has_divisor hg hr (by rfl) (ad_cons (p_V rfl (.inr (.inl rfl))) ad_nil))))) (s_cons (s_setCf (own := [("at", 4)]) rfl hN rfl rfl rfl (iG_rng1 (by rfl) V.z_range (ab_cons (b_P (p_V rfl (.inr (.inl rfl)))) ab_nil)) (blkOk_by (own := [("at", 4)]) rfl) (fun _ _ _ _ _ => g_V hN rfl (by first | exact .inl rfl | exact .inr rfl) (by first | exact .inr rfl | exact .inl rfl)) (fun _ _ _ _ _ => (ts_one (q_eq hr (b_P (p_fn (rest_by_ok V hS) bp_rest_by hg hr (by rfl) (ad_cons (p_fn (value_at_ok V hS) bp_value_at hg hr (by rfl) (ad_cons (p_V rfl (by first | exact .inr (.inr rfl) | exact .inr (.inl rfl) | exact .inl rfl)) (ad_cons (p_V rfl (.inl rfl)) ad_nil))) (ad_cons (p_V rfl (by first | exact .inr (.inr rfl) | exact .inr (.inl rfl) | exact .inl rfl)) ad_nil)))) (b_P (p_int))))) (fun _ _ _ _ _ => p_V rfl (.inl rfl)) (by decide)) (s_one (s_if (t_P (q_val (p_all rfl V.z_all (ab_cons (b_P (p_F (f_comp (own := [("at", 4)]) rfl hN (iG_seq (p_V rfl (.inl rfl))) (blkOk_by (own := [("at", 4)]) rfl) (fun _ _ _ _ _ => g_V hN rfl (by first | exact .inl rfl | exact .inr rfl) (by first | exact .inr rfl | exact .inl rfl)) (fun _ _ _ _ _ => ts_nil) (fun _ _ _ _ _ => p_ne hr (b_P (p_fn (rest_by_ok V hS) bp_rest_by hg hr (by rfl) (ad_cons (p_fn (value_at_ok V hS) bp_value_at hg hr (by rfl) (ad_cons (p_V rfl (by first | exact .inr (.inr rfl) | exact .inr (.inl rfl) | exact .inl rfl)) (ad_cons (p_V rfl (.inl rfl)) ad_nil))) (ad_cons (p_V rfl (by first | exact .inr (.inr rfl) | exact .inr (.inl rfl) | exact .inl rfl)) ad_nil)))) (b_P (p_int))) (by decide)))) ab_nil)))) (s_one (s_ret (e_P (p_tup (ad_cons (p_V rfl (.inr (.inl rfl))) (ad_cons (p_V rfl (.inl rfl)) ad_nil)))))) (s_nil)))) (s_nil))))))
theorem fit_prime_ok (V : Txt K mg) (hS : SysD base) : FnM Pr w K mg base 2 "fit_prime" st_fit_prime ["line"] fit_prime_m := FnM.by V.d_fit_prime sc_fit_prime (fit_prime_bd V hS)
theorem sc_undone_by : FnScope ["number", "prime", "at"] ["number", "prime"] (defScope st_undone_by) := ⟨rfl, rfl, rfl, by decide +kernel, rfl, by decide +kernel, by decide +kernel⟩
theorem undone_by_bd (V : Txt K mg) (hS : SysD base) : BdOk Pr w K mg base 1 "undone_by" st_undone_by ["number", "prime", "at"] [] undone_by_b := fun fa cdv A outer s H E hg hr => by
  have hN := (sc_undone_by).nd
  exact s_one (s_ret (e_P (p_ix (p_F (f_comp (own := [("at", 2)]) rfl hN (iG_rng2 (by rfl) V.z_range (ab_cons (b_P (p_int)) (ab_cons (b_P (p_V rfl (.inr (.inl rfl)))) ab_nil))) (blkOk_by (own := [("at", 2)]) rfl) (fun _ _ _ _ _ => g_V hN rfl (by first | exact .inl rfl | exact .inr rfl) (by first | exact .inr rfl | exact .inl rfl)) (fun _ _ _ _ _ => (ts_one (q_eq hr (b_P (p_fn (rest_by_ok V hS) bp_rest_by hg hr (by rfl) (ad_cons (p_mul (b_P (p_V rfl (.inl rfl))) (b_P (p_V rfl (by first | exact .inr (.inr rfl) | exact .inr (.inl rfl) | exact .inl rfl)))) (ad_cons (p_V rfl (by first | exact .inr (.inr rfl) | exact .inr (.inl rfl) | exact .inl rfl)) ad_nil)))) (b_P (p_int))))) (fun _ _ _ _ _ => p_V rfl (.inl rfl)) (by decide))) (b_P (p_int)) (fun _ _ => rfl))))
theorem undone_by_ok (V : Txt K mg) (hS : SysD base) : FnM Pr w K mg base 2 "undone_by" st_undone_by ["number", "prime"] undone_by_m := FnM.by V.d_undone_by sc_undone_by (undone_by_bd V hS)
theorem sc_want_at_most : FnScope ["what", "limit", "number"] ["what", "limit", "number"] (defScope st_want_at_most) := ⟨rfl, rfl, rfl, by decide +kernel, rfl, by decide +kernel, by decide +kernel⟩
theorem want_at_most_bd (V : Txt K mg) (hS : SysD base) : BdOk Pr w K mg base 2 "want_at_most" st_want_at_most ["what", "limit", "number"] [] want_at_most_b := fun fa cdv A outer s H E hg hr => by
  have hN := (sc_want_at_most).nd
  exact s_one (s_if (t_P (q_gt (b_P (p_V rfl (.inl rfl))) (b_P (p_V rfl (.inl rfl))))) (s_one (s_raise2 rfl (takes_of rfl rfl rfl rfl) V.c_TooMany (xi_TooMany (k := 0)) (hr.mono (by decide : 0 + 1 + 1 ≤ 2)) (by rfl) (ad_cons (p_V rfl (.inl rfl)) (ad_cons (p_V rfl (.inl rfl)) ad_nil)))) (s_nil))
theorem want_at_most_ok (V : Txt K mg) (hS : SysD base) : FnM Pr w K mg base 3 "want_at_most" st_want_at_most ["what", "limit", "number"] want_at_most_m := FnM.by V.d_want_at_most sc_want_at_most (want_at_most_bd V hS)
theorem sc_want_number : FnScope ["value"] ["value"] (defScope st_want_number) := ⟨rfl, rfl, rfl, by decide +kernel, rfl, by decide +kernel, by decide +kernel⟩
theorem want_number_bd (V : Txt K mg) (hS : SysD base) : BdOk Pr w K mg base 2 "want_number" st_want_number ["value"] [] want_number_b := fun fa cdv A outer s H E hg hr => by
  have hN := (sc_want_number).nd
  exact s_one (s_if (t_P (q_not (q_val (p_fn (is_integer_ok V hS) bp_is_integer hg (hr.mono (by decide : 1 ≤ 2)) (by rfl) (ad_cons (p_V rfl (.inl rfl)) ad_nil))))) (s_one (s_raise1 rfl (takes_of rfl rfl rfl rfl) V.c_InvalidNumber (xi_InvalidNumber (k := 0)) (hr.mono (by decide : 0 + 1 + 1 ≤ 2)) (by rfl) (ad_cons (p_V rfl (.inl rfl)) ad_nil))) (s_nil))
theorem want_number_ok (V : Txt K mg) (hS : SysD base) : FnM Pr w K mg base 3 "want_number" st_want_number ["value"] want_number_m := FnM.by V.d_want_number sc_want_number (want_number_bd V hS)
theorem sc_minus_lines : FnScope ["line", "other"] ["line", "other"] (defScope st_minus_lines) := ⟨rfl, rfl, rfl, by decide +kernel, rfl, by decide +kernel, by decide +kernel⟩
theorem minus_lines_bd (V : Txt K mg) (hS : SysD base) : BdOk Pr w K mg base 2 "minus_lines" st_minus_lines ["line", "other"] [] minus_lines_b := fun fa cdv A outer s H E hg hr => by
  have hN := (sc_minus_lines).nd
  exact s_one (s_ret (e_P (p_fn (plus_lines_ok V hS) bp_plus_lines hg hr (by rfl) (ad_cons (p_V rfl (.inl rfl)) (ad_cons (p_fn (scaled_line_ok V hS) bp_scaled_line hg (hr.mono (by decide : 1 ≤ 2)) (by rfl) (ad_cons (p_V rfl (.inl rfl)) (ad_cons (p_neg (b_P (p_int))) ad_nil))) ad_nil)))))
theorem minus_lines_ok (V : Txt K mg) (hS : SysD base) : FnM Pr w K mg base 3 "minus_lines" st_minus_lines ["line", "other"] minus_lines_m := FnM.by V.d_minus_lines sc_minus_lines (minus_lines_bd V hS)
theorem sc_plain_of : FnScope ["line", "part", "number"] ["line"] (defScope st_plain_of) := ⟨rfl, rfl, rfl, by decide +kernel, rfl, by decide +kernel, by decide +kernel⟩
theorem plain_of_bd (V : Txt K mg) (hS : SysD base) : BdOk Pr w K mg base 2 "plain_of" st_plain_of ["line", "part", "number"] [] plain_of_b := fun fa cdv A outer s H E hg hr => by
  have hN := (sc_plain_of).nd
  exact s_cons (s_if (t_P (q_eq hr (b_P (p_len V.z_len (ab_cons (b_P (p_V rfl (.inl rfl))) ab_nil))) (b_P (p_int)))) (s_one (s_ret (e_P (p_F (f_lst (ad_nil)))))) (s_nil)) (s_cons (s_set (i := 1) hN rfl (.inr rfl) (e_P (p_fn (greatest_of_ok V hS) bp_greatest_of hg hr (by rfl) (ad_cons (p_V rfl (.inl rfl)) ad_nil)))) (s_cons (s_if (t_P (q_lt (b_P (p_ix (p_V rfl (.inl rfl)) (b_P (p_neg (b_P (p_int)))) (fun _ _ => rfl))) (b_P (p_int)))) (s_one (s_set (i := 1) hN rfl (.inr rfl) (e_P (p_sub (b_P (p_int)) (b_P (p_V rfl (.inr (.inl rfl)))))))) (s_nil)) (s_one (s_ret (e_P (p_F (f_comp (own := [("number", 2)]) rfl hN (iG_seq (p_V rfl (.inl rfl))) (blkOk_by (own := [("number", 2)]) rfl) (fun _ _ _ _ _ => g_V hN rfl (by first | exact .inl rfl | exact .inr rfl) (by first | exact .inr rfl | exact .inl rfl)) (fun _ _ _ _ _ => ts_nil) (fun _ _ _ _ _ => p_fdiv (b_P (p_V rfl (.inl rfl))) (b_P (p_V rfl (by first | exact .inr (.inr rfl) | exact .inr (.inl rfl) | exact .inl rfl)))) (by decide))))))))
theorem plain_of_ok (V : Txt K mg) (hS : SysD base) : FnM Pr w K mg base 3 "plain_of" st_plain_of ["line"] plain_of_m := FnM.by V.d_plain_of sc_plain_of (plain_of_bd V hS)
theorem sc_want_line : FnScope ["value", "found"] ["value"] (defScope st_want_line) := ⟨rfl, rfl, rfl, by decide +kernel, rfl, by decide +kernel, by decide +kernel⟩
theorem want_line_bd (V : Txt K mg) (hS : SysD base) : BdOk Pr w K mg base 2 "want_line" st_want_line ["value", "found"] [] want_line_b := fun fa cdv A outer s H E hg hr => by
  have hN := (sc_want_line).nd
  exact s_cons (s_set (i := 1) hN rfl (.inl rfl) (e_P (p_fn (line_in_ok V hS) bp_line_in hg hr (by rfl) (ad_cons (p_V rfl (.inl rfl)) ad_nil)))) (s_cons (s_if (t_P (q_isN (b_P (p_V rfl (.inl rfl))) (b_P (p_non)))) (s_one (s_raise1 rfl (takes_of rfl rfl rfl rfl) V.c_InvalidLine (xi_InvalidLine (k := 0)) (hr.mono (by decide : 0 + 1 + 1 ≤ 2)) (by rfl) (ad_cons (p_V rfl (.inl rfl)) ad_nil))) (s_nil)) (s_one (s_ret (e_P (p_V rfl (.inl rfl))))))
theorem want_line_ok (V : Txt K mg) (hS : SysD base) : FnM Pr w K mg base 3 "want_line" st_want_line ["value"] want_line_m := FnM.by V.d_want_line sc_want_line (want_line_bd V hS)
theorem sc_lifted_root : FnScope ["line", "prime", "root", "bound", "slope", "modulus", "undone"] ["line", "prime", "root", "bound"] (defScope st_lifted_root) := ⟨rfl, rfl, rfl, by decide +kernel, rfl, by decide +kernel, by decide +kernel⟩
theorem lifted_root_bd (V : Txt K mg) (hS : SysD base) : BdOk Pr w K mg base 2 "lifted_root" st_lifted_root ["line", "prime", "root", "bound", "slope", "modulus", "undone"] [] lifted_root_b := fun fa cdv A outer s H E hg hr => by
  have hN := (sc_lifted_root).nd
  exact s_cons (s_par (i := 4) (j := 5) rfl hN rfl rfl (by decide) rfl rfl (am_cons (e_P (p_fn (slope_of_ok V hS) bp_slope_of hg (hr.mono (by decide : 1 ≤ 2)) (by rfl) (ad_cons (p_V rfl (.inl rfl)) ad_nil))) (am_cons (e_P (p_V rfl (.inl rfl))) am_nil)) (by decide) (by decide) rfl) (s_cons (s_set (i := 6) hN rfl (.inl rfl) (e_P (p_fn (undone_by_ok V hS) bp_undone_by hg hr (by rfl) (ad_cons (p_fn (rest_by_ok V hS) bp_rest_by hg (hr.mono (by decide : 1 ≤ 2)) (by rfl) (ad_cons (p_fn (value_at_ok V hS) bp_value_at hg (hr.mono (by decide : 1 ≤ 2)) (by rfl) (ad_cons (p_V rfl (.inl rfl)) (ad_cons (p_V rfl (.inl rfl)) ad_nil))) (ad_cons (p_V rfl (.inl rfl)) ad_nil))) (ad_cons (p_V rfl (.inl rfl)) ad_nil))))) (s_cons (s_whF (passes_of rfl) (t_P (q_le (b_P (p_V rfl (.inl rfl))) (b_P (p_mul (b_P (p_int)) (b_P (p_V rfl (.inl rfl))))))) (s_cons (s_set (i := 5) hN rfl (.inl rfl) (e_P (p_mul (b_P (p_V rfl (.inl rfl))) (b_P (p_V rfl (.inl rfl)))))) (s_cons (s_set (i := 2) hN rfl (.inl rfl) (e_P (p_fn (rest_by_ok V hS) bp_rest_by hg (hr.mono (by decide : 1 ≤ 2)) (by rfl) (ad_cons (p_sub (b_P (p_V rfl (.inl rfl))) (b_P (p_mul (b_P (p_fn (value_at_ok V hS) bp_value_at hg (hr.mono (by decide : 1 ≤ 2)) (by rfl) (ad_cons (p_V rfl (.inl rfl)) (ad_cons (p_V rfl (.inl rfl)) ad_nil)))) (b_P (p_V rfl (.inl rfl)))))) (ad_cons (p_V rfl (.inl rfl)) ad_nil))))) (s_one (s_set (i := 6) hN rfl (.inl rfl) (e_P (p_fn (rest_by_ok V hS) bp_rest_by hg (hr.mono (by decide : 1 ≤ 2)) (by rfl) (ad_cons (p_mul (b_P (p_V rfl (.inl rfl))) (b_P (p_sub (b_P (p_int)) (b_P (p_mul (b_P (p_fn (value_at_ok V hS) bp_value_at hg (hr.mono (by decide : 1 ≤ 2)) (by rfl) (ad_cons (p_V rfl (.inl rfl)) (ad_cons (p_V rfl (.inl rfl)) ad_nil)))) (b_P (p_V rfl (.inl rfl)))))))) (ad_cons (p_V rfl (.inl rfl)) ad_nil))))))))) (s_one (s_ret (e_P (p_if (q_lt (b_P (p_mul (b_P (p_int)) (b_P (p_V rfl (.inl rfl))))) (b_P (p_V rfl (.inl rfl)))) (p_V rfl (.inl rfl)) (p_sub (b_P (p_V rfl (.inl rfl))) (b_P (p_V rfl (.inl rfl))))))))))
theorem lifted_root_ok (V : Txt K mg) (hS : SysD base) : FnM Pr w K mg base 3 "lifted_root" st_lifted_root ["line", "prime", "root", "bound"] lifted_root_m := FnM.by V.d_lifted_root sc_lifted_root (lifted_root_bd V hS)
theorem sc_greatest : FnScope ["number", "other"] ["number", "other"] (defScope st_greatest) := ⟨rfl, rfl, rfl, by decide +kernel, rfl, by decide +kernel, by decide +kernel⟩
theorem greatest_bd (V : Txt K mg) (hS : SysD base) : BdOk Pr w K mg base 3 "greatest" st_greatest ["number", "other"] [] greatest_b := fun fa cdv A outer s H E hg hr => by
  have hN := (sc_greatest).nd
  exact s_cons (s_expr (e_fn (want_number_ok V hS) bp_want_number hg hr (takes_of rfl rfl rfl rfl) (by rfl) (am_cons (e_P (p_V rfl (.inl rfl))) am_nil))) (s_cons (s_expr (e_fn (want_number_ok V hS) bp_want_number hg hr (takes_of rfl rfl rfl rfl) (by rfl) (am_cons (e_P (p_V rfl (.inl rfl))) am_nil))) (s_one (s_ret (e_P (p_fn (divisor_of_ok V hS) bp_divisor_of hg (hr.mono (by decide : 1 ≤ 3)) (by rfl) (ad_cons (p_V rfl (.inl rfl)) (ad_cons (p_V rfl (.inl rfl)) ad_nil)))))))
theorem greatest_ok (V : Txt K mg) (hS : SysD base) : FnM Pr w K mg base 4 "greatest" st_greatest ["number", "other"] greatest_m := FnM.by V.d_greatest sc_greatest (greatest_bd V hS)
theorem sc_parted : FnScope ["line", "other", "number", "rest", "quotient", "part", "shift", "much", "taken", "one"] ["line", "other"] (defScope st_parted) := ⟨rfl, rfl, rfl, by decide +kernel, rfl, by decide +kernel, by decide +kernel⟩
theorem parted_bd (V : Txt K mg) (hS : SysD base) : BdOk Pr w K mg base 3 "parted" st_parted ["line", "other", "number", "rest", "quotient", "part", "shift", "much", "taken", "one"] [] parted_b := fun fa cdv A outer s H E hg hr => by
  have hN := (sc_parted).nd
  exact s_cons (s_par3 (i := 2) (j := 3) (l := 4) rfl hN rfl rfl rfl (by decide) (by decide) (by decide) rfl rfl rfl (am_cons (e_P (p_int)) (am_cons (e_P (p_F (f_listC V.z_list (p_V rfl (.inl rfl))))) (am_cons (e_F (f_lst (ad_nil))) am_nil))) (by decide) (by decide) (by decide) rfl) (s_cons (s_if (t_P (q_ge (b_P (p_len V.z_len (ab_cons (b_P (p_V rfl (.inl rfl))) ab_nil))) (b_P (p_len V.z_len (ab_cons (b_P (p_V rfl (.inl rfl))) ab_nil))))) (s_one (s_set (i := 4) hN rfl (.inl rfl) (e_F (f_rep (l_F (f_lst (ad_cons (p_int) ad_nil))) (b_P (p_add (b_P (p_sub (b_P (p_len V.z_len (ab_cons (b_P (p_V rfl (.inl rfl))) ab_nil))) (b_P (p_len V.z_len (ab_cons (b_P (p_V rfl (.inl rfl))) ab_nil))))) (b_P (p_int)))))))) (s_nil)) (s_cons (s_whF (passes_of rfl) (t_P (q_ge (b_P (p_len V.z_len (ab_cons (b_P (p_V rfl (.inl rfl))) ab_nil))) (b_P (p_len V.z_len (ab_cons (b_P (p_V rfl (.inl rfl))) ab_nil))))) (s_cons (s_par (i := 6) (j := 7) rfl hN rfl rfl (by decide) rfl rfl (am_cons (e_P (p_sub (b_P (p_len V.z_len (ab_cons (b_P (p_V rfl (.inl rfl))) ab_nil))) (b_P (p_len V.z_len (ab_cons (b_P (p_V rfl (.inl rfl))) ab_nil))))) (am_cons (e_P (p_ix (p_V rfl (.inl rfl)) (b_P (p_neg (b_P (p_int)))) (fun _ _ => rfl))) am_nil)) (by decide) (by decide) rfl) (s_cons (s_par (i := 2) (j := 4) rfl hN rfl rfl (by decide) rfl rfl (am_cons (e_P (p_mul (b_P (p_V rfl (.inl rfl))) (b_P (p_ix (p_V rfl (.inl rfl)) (b_P (p_neg (b_P (p_int)))) (fun _ _ => rfl))))) (am_cons (e_fnO (scaled_line_ok V hS) bp_scaled_line hg (hr.mono (by decide : 1 ≤ 3)) (takes_of rfl rfl rfl rfl) (by rfl) (am_cons (e_V rfl (.inl rfl)) (am_cons (e_P (p_ix (p_V rfl (.inl rfl)) (b_P (p_neg (b_P (p_int)))) (fun _ _ => rfl))) am_nil))) am_nil)) (by decide) (by decide) rfl) (s_cons (s_augIx (pa_V rfl (.inl rfl)) (b_P (p_V rfl (.inl rfl))) (b_P (p_V rfl (.inl rfl))) (iop_add.or iop_add_str) pure_add) (s_cons (s_set (i := 8) hN rfl (.inl rfl) (e_P (p_F (f_cat (l_F (f_rep (l_F (f_lst (ad_cons (p_int) ad_nil))) (b_P (p_V rfl (.inl rfl))))) (l_P (p_fn (scaled_line_ok V hS) bp_scaled_line hg (hr.mono (by decide : 1 ≤ 3)) (by rfl) (ad_cons (p_V rfl (.inl rfl)) (ad_cons (p_V rfl (.inl rfl)) ad_nil)))))))) (s_one (s_set (i := 3) hN rfl (.inl rfl) (e_P (p_fn (minus_lines_ok V hS) bp_minus_lines hg hr (by rfl) (ad_cons (p_fn (scaled_line_ok V hS) bp_scaled_line hg (hr.mono (by decide : 1 ≤ 3)) (by rfl) (ad_cons (p_V rfl (.inl rfl)) (ad_cons (p_ix (p_V rfl (.inl rfl)) (b_P (p_neg (b_P (p_int)))) (fun _ _ => rfl)) ad_nil))) (ad_cons (p_V rfl (.inl rfl)) ad_nil))))))))))) (s_cons (s_set (i := 5) hN rfl (.inr rfl) (e_P (p_fn (greatest_of_ok V hS) bp_greatest_of hg (hr.mono (by decide : 2 ≤ 3)) (by rfl) (ad_cons (p_F (f_cat (l_F (f_cat (l_F (f_lst (ad_cons (p_V rfl (.inl rfl)) ad_nil))) (l_Kf (k_V rfl (.inl rfl))))) (l_P (p_V rfl (.inl rfl))))) ad_nil)))) (s_cons (s_if (t_P (q_lt (b_P (p_V rfl (.inl rfl))) (b_P (p_int)))) (s_one (s_set (i := 5) hN rfl (.inr rfl) (e_P (p_sub (b_P (p_int)) (b_P (p_V rfl (.inr (.inl rfl)))))))) (s_nil)) (s_one (s_ret (e_P (p_tup (ad_cons (p_fdiv (b_P (p_V rfl (.inl rfl))) (b_P (p_V rfl (.inr (.inl rfl))))) (ad_cons (p_F (f_comp (own := [("one", 9)]) rfl hN (iG_list (l_Kf (k_V rfl (.inl rfl)))) (blkOk_by (own := [("one", 9)]) rfl) (fun _ _ _ _ _ => g_V hN rfl (by first | exact .inl rfl | exact .inr rfl) (by first | exact .inr rfl | exact .inl rfl)) (fun _ _ _ _ _ => ts_nil) (fun _ _ _ _ _ => p_fdiv (b_P (p_V rfl (.inl rfl))) (b_P (p_V rfl (by first | exact .inr (.inr rfl) | exact .inr (.inl rfl) | exact .inl rfl)))) (by decide))) (ad_cons (p_F (f_comp (own := [("one", 9)]) rfl hN (iG_seq (p_V rfl (.inl rfl))) (blkOk_by (own := [("one", 9)]) rfl) (fun _ _ _ _ _ => g_V hN rfl (by first | exact .inl rfl | exact .inr rfl) (by first | exact .inr rfl | exact .inl rfl)) (fun _ _ _ _ _ => ts_nil) (fun _ _ _ _ _ => p_fdiv (b_P (p_V rfl (.inl rfl))) (b_P (p_V rfl (by first | exact .inr (.inr rfl) | exact .inr (.inl rfl) | exact .inl rfl)))) (by decide))) ad_nil)))))))))))
theorem parted_ok (V : Txt K mg) (hS : SysD base) : FnM Pr w K mg base 4 "parted" st_parted ["line", "other"] parted_m := FnM.by V.d_parted sc_parted (parted_bd V hS)
theorem sc_two_lines : FnScope ["line", "other", "near"] ["line", "other"] (defScope st_two_lines) := ⟨rfl, rfl, rfl, by decide +kernel, rfl, by decide +kernel, by decide +kernel⟩
theorem two_lines_bd (V : Txt K mg) (hS : SysD base) : BdOk Pr w K mg base 3 "two_lines" st_two_lines ["line", "other", "near"] [] two_lines_b := fun fa cdv A outer s H E hg hr => by
  have hN := (sc_two_lines).nd
  exact s_cons (s_set (i := 2) hN rfl (.inl rfl) (e_fn (want_line_ok V hS) bp_want_line hg hr (takes_of rfl rfl rfl rfl) (by rfl) (am_cons (e_P (p_V rfl (.inl rfl))) am_nil))) (s_one (s_ret (e_tup (am_cons (e_P (p_V rfl (.inl rfl))) (am_cons (e_fn (want_line_ok V hS) bp_want_line hg hr (takes_of rfl rfl rfl rfl) (by rfl) (am_cons (e_P (p_V rfl (.inl rfl))) am_nil)) am_nil)))))
theorem two_lines_ok (V : Txt K mg) (hS : SysD base) : FnM Pr w K mg base 4 "two_lines" st_two_lines ["line", "other"] two_lines_m := FnM.by V.d_two_lines sc_two_lines (two_lines_bd V hS)
theorem sc_degree : FnScope ["line"] ["line"] (defScope st_degree) := ⟨rfl, rfl, rfl, by decide +kernel, rfl, by decide +kernel, by decide +kernel⟩
theorem degree_bd (V : Txt K mg) (hS : SysD base) : BdOk Pr w K mg base 3 "degree" st_degree ["line"] [] degree_b := fun fa cdv A outer s H E hg hr => by
  have hN := (sc_degree).nd
  exact s_one (s_ret (e_op (op_sub) pure_sub (e_len V.z_len (am_cons (e_fn (want_line_ok V hS) bp_want_line hg hr (takes_of rfl rfl rfl rfl) (by rfl) (am_cons (e_P (p_V rfl (.inl rfl))) am_nil)) am_nil)) (e_P (p_int))))
theorem degree_ok (V : Txt K mg) (hS : SysD base) : FnM Pr w K mg base 4 "degree" st_degree ["line"] degree_m := FnM.by V.d_degree sc_degree (degree_bd V hS)
theorem sc_line_value : FnScope ["line", "number", "near"] ["line", "number"] (defScope st_line_value) := ⟨rfl, rfl, rfl, by decide +kernel, rfl, by decide +kernel, by decide +kernel⟩
theorem line_value_bd (V : Txt K mg) (hS : SysD base) : BdOk Pr w K mg base 3 "line_value" st_line_value ["line", "number", "near"] [] line_value_b := fun fa cdv A outer s H E hg hr => by
  have hN := (sc_line_value).nd
  exact s_cons (s_set (i := 2) hN rfl (.inl rfl) (e_fn (want_line_ok V hS) bp_want_line hg hr (takes_of rfl rfl rfl rfl) (by rfl) (am_cons (e_P (p_V rfl (.inl rfl))) am_nil))) (s_cons (s_expr (e_fn (want_number_ok V hS) bp_want_number hg hr (takes_of rfl rfl rfl rfl) (by rfl) (am_cons (e_P (p_V rfl (.inl rfl))) am_nil))) (s_one (s_ret (e_P (p_fn (value_at_ok V hS) bp_value_at hg (hr.mono (by decide : 1 ≤ 3)) (by rfl) (ad_cons (p_V rfl (.inl rfl)) (ad_cons (p_V rfl (.inl rfl)) ad_nil)))))))
theorem line_value_ok (V : Txt K mg) (hS : SysD base) : FnM Pr w K mg base 4 "line_value" st_line_value ["line", "number"] line_value_m := FnM.by V.d_line_value sc_line_value (line_value_bd V hS)
theorem sc_line_slope : FnScope ["line"] ["line"] (defScope st_line_slope) := ⟨rfl, rfl, rfl, by decide +kernel, rfl, by decide +kernel, by decide +kernel⟩
theorem line_slope_bd (V : Txt K mg) (hS : SysD base) : BdOk Pr w K mg base 3 "line_slope" st_line_slope ["line"] [] line_slope_b := fun fa cdv A outer s H E hg hr => by
  have hN := (sc_line_slope).nd
  exact s_one (s_ret (e_fn (slope_of_ok V hS) bp_slope_of hg (hr.mono (by decide : 1 ≤ 3)) (takes_of rfl rfl rfl rfl) (by rfl) (am_cons (e_fn (want_line_ok V hS) bp_want_line hg hr (takes_of rfl rfl rfl rfl) (by rfl) (am_cons (e_P (p_V rfl (.inl rfl))) am_nil)) am_nil)))
theorem line_slope_ok (V : Txt K mg) (hS : SysD base) : FnM Pr w K mg base 4 "line_slope" st_line_slope ["line"] line_slope_m := FnM.by V.d_line_slope sc_line_slope (line_slope_bd V hS)
theorem sc_plain_line : FnScope ["line"] ["line"] (defScope st_plain_line) := ⟨rfl, rfl, rfl, by decide +kernel, rfl, by decide +kernel, by decide +kernel⟩
theorem plain_line_bd (V : Txt K mg) (hS : SysD base) : BdOk Pr w K mg base 3 "plain_line" st_plain_line ["line"] [] plain_line_b := fun fa cdv A outer s H E hg hr => by
  have hN := (sc_plain_line).nd
  exact s_one (s_ret (e_fn (plain_of_ok V hS) bp_plain_of hg hr (takes_of rfl rfl rfl rfl) (by rfl) (am_cons (e_fn (want_line_ok V hS) bp_want_line hg hr (takes_of rfl rfl rfl rfl) (by rfl) (am_cons (e_P (p_V rfl (.inl rfl))) am_nil)) am_nil)))
theorem plain_line_ok (V : Txt K mg) (hS : SysD base) : FnM Pr w K mg base 4 "plain_line" st_plain_line ["line"] plain_line_m := FnM.by V.d_plain_line sc_plain_line (plain_line_bd V hS)
theorem sc_want_standing : FnScope ["line", "found"] ["line"] (defScope st_want_standing) := ⟨rfl, rfl, rfl, by decide +kernel, rfl, by decide +kernel, by decide +kernel⟩
theorem want_standing_bd (V : Txt K mg) (hS : SysD base) : BdOk Pr w K mg base 3 "want_standing" st_want_standing ["line", "found"] [] want_standing_b := fun fa cdv A outer s H E hg hr => by
  have hN := (sc_want_standing).nd
  exact s_cons (s_set (i := 1) hN rfl (.inl rfl) (e_fn (want_line_ok V hS) bp_want_line hg hr (takes_of rfl rfl rfl rfl) (by rfl) (am_cons (e_P (p_V rfl (.inl rfl))) am_nil))) (s_cons (s_if (t_P (q_eq hr (b_P (p_len V.z_len (ab_cons (b_P (p_V rfl (.inl rfl))) ab_nil))) (b_P (p_int)))) (s_one (s_raise0 rfl (takes_of rfl rfl rfl rfl) V.c_ZeroLine (by rfl))) (s_nil)) (s_one (s_ret (e_P (p_V rfl (.inl rfl))))))
theorem want_standing_ok (V : Txt K mg) (hS : SysD base) : FnM Pr w K mg base 4 "want_standing" st_want_standing ["line"] want_standing_m := FnM.by V.d_want_standing sc_want_standing (want_standing_bd V hS)
theorem sc_common_of : FnScope ["line", "other", "near", "far"] ["line", "other"] (defScope st_common_of) := ⟨rfl, rfl, rfl, by decide +kernel, rfl, by decide +kernel, by decide +kernel⟩
theorem common_of_bd (V : Txt K mg) (hS : SysD base) : BdOk Pr w K mg base 4 "common_of" st_common_of ["line", "other", "near", "far"] [] common_of_b := fun fa cdv A outer s H E hg hr => by
  have hN := (sc_common_of).nd
  exact s_cons (s_par (i := 2) (j := 3) rfl hN rfl rfl (by decide) rfl rfl (am_cons (e_P (p_fn (plain_of_ok V hS) bp_plain_of hg (hr.mono (by decide : 3 ≤ 4)) (by rfl) (ad_cons (p_V rfl (.inl rfl)) ad_nil))) (am_cons (e_P (p_fn (plain_of_ok V hS) bp_plain_of hg (hr.mono (by decide : 3 ≤ 4)) (by rfl) (ad_cons (p_V rfl (.inl rfl)) ad_nil))) am_nil)) (by decide) (by decide) rfl) (s_cons (s_whF (passes_of rfl) (t_P (q_gt (b_P (p_len V.z_len (ab_cons (b_P (p_V rfl (.inl rfl))) ab_nil))) (b_P (p_int)))) (s_one (s_par (i := 2) (j := 3) rfl hN rfl rfl (by decide) rfl rfl (am_cons (e_P (p_V rfl (.inl rfl))) (am_cons (e_P (p_fn (plain_of_ok V hS) bp_plain_of hg (hr.mono (by decide : 3 ≤ 4)) (by rfl) (ad_cons (p_ix (p_fn (parted_ok V hS) bp_parted hg hr (by rfl) (ad_cons (p_V rfl (.inl rfl)) (ad_cons (p_V rfl (.inl rfl)) ad_nil))) (b_P (p_int)) (fun _ _ => rfl)) ad_nil))) am_nil)) (by decide) (by decide) rfl))) (s_one (s_ret (e_P (p_V rfl (.inl rfl))))))
theorem common_of_ok (V : Txt K mg) (hS : SysD base) : FnM Pr w K mg base 5 "common_of" st_common_of ["line", "other"] common_of_m := FnM.by V.d_common_of sc_common_of (common_of_bd V hS)
theorem sc_resultant_of : FnScope ["line", "other", "near", "far", "top", "bottom", "number", "quotient", "rest"] ["line", "other"] (defScope st_resultant_of) := ⟨rfl, rfl, rfl, by decide +kernel, rfl, by decide +kernel, by decide +kernel⟩
theorem resultant_of_bd (V : Txt K mg) (hS : SysD base) : BdOk Pr w K mg base 4 "resultant_of" st_resultant_of ["line", "other", "near", "far", "top", "bottom", "number", "quotient", "rest"] [] resultant_of_b := fun fa cdv A outer s H E hg hr => by
  have hN := (sc_resultant_of).nd
  exact s_cons (s_asg (e_P (p_tup (ad_cons (p_V rfl (.inl rfl)) (ad_cons (p_V rfl (.inl rfl)) (ad_cons (p_int) (ad_cons (p_int) ad_nil)))))) (g_tup rfl (gs_cons (g_V hN rfl (.inl rfl) (.inl rfl)) (gs_cons (g_V hN rfl (.inl rfl) (.inl rfl)) (gs_cons (g_V hN rfl (.inl rfl) (.inl rfl)) (gs_cons (g_V hN rfl (.inl rfl) (.inl rfl)) (gs_nil))))))) (s_cons (s_whF (passes_of rfl) (t_P (q_gt (b_P (p_len V.z_len (ab_cons (b_P (p_V rfl (.inl rfl))) ab_nil))) (b_P (p_int)))) (s_cons (s_asg (e_P (p_fn (parted_ok V hS) bp_parted hg hr (by rfl) (ad_cons (p_V rfl (.inl rfl)) (ad_cons (p_V rfl (.inl rfl)) ad_nil)))) (g_tup rfl (gs_cons (g_V hN rfl (.inl rfl) (.inl rfl)) (gs_cons (g_V hN rfl (.inl rfl) (.inl rfl)) (gs_cons (g_V hN rfl (.inl rfl) (.inl rfl)) (gs_nil)))))) (s_cons (s_if (t_P (q_eq hr (b_P (p_len V.z_len (ab_cons (b_P (p_V rfl (.inl rfl))) ab_nil))) (b_P (p_int)))) (s_one (s_ret (e_P (p_int)))) (s_nil)) (s_cons (s_if (t_P (q_eq hr (b_P (p_sub (b_P (p_mul (b_P (p_sub (b_P (p_len V.z_len (ab_cons (b_P (p_V rfl (.inl rfl))) ab_nil))) (b_P (p_int)))) (b_P (p_sub (b_P (p_len V.z_len (ab_cons (b_P (p_V rfl (.inl rfl))) ab_nil))) (b_P (p_int)))))) (b_P (p_mul (b_P (p_fdiv (b_P (p_mul (b_P (p_sub (b_P (p_len V.z_len (ab_cons (b_P (p_V rfl (.inl rfl))) ab_nil))) (b_P (p_int)))) (b_P (p_sub (b_P (p_len V.z_len (ab_cons (b_P (p_V rfl (.inl rfl))) ab_nil))) (b_P (p_int)))))) (b_P (p_int)))) (b_P (p_int)))))) (b_P (p_int)))) (s_one (s_set (i := 4) hN rfl (.inl rfl) (e_P (p_sub (b_P (p_int)) (b_P (p_V rfl (.inl rfl))))))) (s_nil)) (s_cons (s_set (i := 4) hN rfl (.inl rfl) (e_P (p_mul (b_P (p_V rfl (.inl rfl))) (b_P (p_fn (power_by_ok V hS) bp_power_by hg (hr.mono (by decide : 1 ≤ 4)) (by rfl) (ad_cons (p_ix (p_V rfl (.inl rfl)) (b_P (p_neg (b_P (p_int)))) (fun _ _ => rfl)) (ad_cons (p_sub (b_P (p_len V.z_len (ab_cons (b_P (p_V rfl (.inl rfl))) ab_nil))) (b_P (p_len V.z_len (ab_cons (b_P (p_V rfl (.inl rfl))) ab_nil)))) ad_nil))))))) (s_cons (s_set (i := 5) hN rfl (.inl rfl) (e_P (p_mul (b_P (p_V rfl (.inl rfl))) (b_P (p_fn (power_by_ok V hS) bp_power_by hg (hr.mono (by decide : 1 ≤ 4)) (by rfl) (ad_cons (p_V rfl (.inl rfl)) (ad_cons (p_sub (b_P (p_len V.z_len (ab_cons (b_P (p_V rfl (.inl rfl))) ab_nil))) (b_P (p_int))) ad_nil))))))) (s_one (s_par (i := 2) (j := 3) rfl hN rfl rfl (by decide) rfl rfl (am_cons (e_P (p_V rfl (.inl rfl))) (am_cons (e_P (p_V rfl (.inl rfl))) am_nil)) (by decide) (by decide) rfl)))))))) (s_one (s_ret (e_P (p_fdiv (b_P (p_mul (b_P (p_V rfl (.inl rfl))) (b_P (p_fn (power_by_ok V hS) bp_power_by hg (hr.mono (by decide : 1 ≤ 4)) (by rfl) (ad_cons (p_ix (p_V rfl (.inl rfl)) (b_P (p_int)) (fun _ _ => rfl)) (ad_cons (p_sub (b_P (p_len V.z_len (ab_cons (b_P (p_V rfl (.inl rfl))) ab_nil))) (b_P (p_int))) ad_nil)))))) (b_P (p_V rfl (.inl rfl))))))))
theorem resultant_of_ok (V : Txt K mg) (hS : SysD base) : FnM Pr w K mg base 5 "resultant_of" st_resultant_of ["line", "other"] resultant_of_m := FnM.by V.d_resultant_of sc_resultant_of (resultant_of_bd V hS)
theorem sc_two_standing : FnScope ["line", "other", "near", "far"] ["line", "other"] (defScope st_two_standing) := ⟨rfl, rfl, rfl, by decide +kernel, rfl, by decide +kernel, by decide +kernel⟩
theorem two_standing_bd (V : Txt K mg) (hS : SysD base) : BdOk Pr w K mg base 4 "two_standing" st_two_standing ["line", "other", "near", "far"] [] two_standing_b := fun fa cdv A outer s H E hg hr => by
  have hN := (sc_two_standing).nd
  exact s_cons (s_asg (e_fn (two_lines_ok V hS) bp_two_lines hg hr (takes_of rfl rfl rfl rfl) (by rfl) (am_cons (e_P (p_V rfl (.inl rfl))) (am_cons (e_P (p_V rfl (.inl rfl))) am_nil))) (g_tup rfl (gs_cons (g_V hN rfl (.inl rfl) (.inl rfl)) (gs_cons (g_V hN rfl (.inl rfl) (.inl rfl)) (gs_nil))))) (s_cons (s_if (t_P (q_W (w_or (q_eq hr (b_P (p_len V.z_len (ab_cons (b_P (p_V rfl (.inl rfl))) ab_nil))) (b_P (p_int))) (w_or1 (q_eq hr (b_P (p_len V.z_len (ab_cons (b_P (p_V rfl (.inl rfl))) ab_nil))) (b_P (p_int))))))) (s_one (s_raise0 rfl (takes_of rfl rfl rfl rfl) V.c_ZeroLine (by rfl))) (s_nil)) (s_one (s_ret (e_P (p_tup (ad_cons (p_V rfl (.inl rfl)) (ad_cons (p_V rfl (.inl rfl)) ad_nil)))))))
theorem two_standing_ok (V : Txt K mg) (hS : SysD base) : FnM Pr w K mg base 5 "two_standing" st_two_standing ["line", "other"] two_standing_m := FnM.by V.d_two_standing sc_two_standing (two_standing_bd V hS)
theorem sc_line_sum : FnScope ["line", "other", "near", "far"] ["line", "other"] (defScope st_line_sum) := ⟨rfl, rfl, rfl, by decide +kernel, rfl, by decide +kernel, by decide +kernel⟩
theorem line_sum_bd (V : Txt K mg) (hS : SysD base) : BdOk Pr w K mg base 4 "line_sum" st_line_sum ["line", "other", "near", "far"] [] line_sum_b := fun fa cdv A outer s H E hg hr => by
  have hN := (sc_line_sum).nd
  exact s_cons (s_asg (e_fn (two_lines_ok V hS) bp_two_lines hg hr (takes_of rfl rfl rfl rfl) (by rfl) (am_cons (e_P (p_V rfl (.inl rfl))) (am_cons (e_P (p_V rfl (.inl rfl))) am_nil))) (g_tup rfl (gs_cons (g_V hN rfl (.inl rfl) (.inl rfl)) (gs_cons (g_V hN rfl (.inl rfl) (.inl rfl)) (gs_nil))))) (s_one (s_ret (e_P (p_fn (plus_lines_ok V hS) bp_plus_lines hg (hr.mono (by decide : 2 ≤ 4)) (by rfl) (ad_cons (p_V rfl (.inl rfl)) (ad_cons (p_V rfl (.inl rfl)) ad_nil))))))
theorem line_sum_ok (V : Txt K mg) (hS : SysD base) : FnM Pr w K mg base 5 "line_sum" st_line_sum ["line", "other"] line_sum_m := FnM.by V.d_line_sum sc_line_sum (line_sum_bd V hS)
theorem sc_line_less : FnScope ["line", "other", "near", "far"] ["line", "other"] (defScope st_line_less) := ⟨rfl, rfl, rfl, by decide +kernel, rfl, by decide +kernel, by decide +kernel⟩
theorem line_less_bd (V : Txt K mg) (hS : SysD base) : BdOk Pr w K mg base 4 "line_less" st_line_less ["line", "other", "near", "far"] [] line_less_b := fun fa cdv A outer s H E hg hr => by
  have hN := (sc_line_less).nd
  exact s_cons (s_asg (e_fn (two_lines_ok V hS) bp_two_lines hg hr (takes_of rfl rfl rfl rfl) (by rfl) (am_cons (e_P (p_V rfl (.inl rfl))) (am_cons (e_P (p_V rfl (.inl rfl))) am_nil))) (g_tup rfl (gs_cons (g_V hN rfl (.inl rfl) (.inl rfl)) (gs_cons (g_V hN rfl (.inl rfl) (.inl rfl)) (gs_nil))))) (s_one (s_ret (e_P (p_fn (minus_lines_ok V hS) bp_minus_lines hg (hr.mono (by decide : 3 ≤ 4)) (by rfl) (ad_cons (p_V rfl (.inl rfl)) (ad_cons (p_V rfl (.inl rfl)) ad_nil))))))
theorem line_less_ok (V : Txt K mg) (hS : SysD base) : FnM Pr w K mg base 5 "line_less" st_line_less ["line", "other"] line_less_m := FnM.by V.d_line_less sc_line_less (line_less_bd V hS)
theorem sc_line_times : FnScope ["line", "other", "near", "far"] ["line", "other"] (defScope st_line_times) := ⟨rfl, rfl, rfl, by decide +kernel, rfl, by decide +kernel, by decide +kernel⟩
theorem line_times_bd (V : Txt K mg) (hS : SysD base) : BdOk Pr w K mg base 4 "line_times" st_line_times ["line", "other", "near", "far"] [] line_times_b := fun fa cdv A outer s H E hg hr => by
  have hN := (sc_line_times).nd
  exact s_cons (s_asg (e_fn (two_lines_ok V hS) bp_two_lines hg hr (takes_of rfl rfl rfl rfl) (by rfl) (am_cons (e_P (p_V rfl (.inl rfl))) (am_cons (e_P (p_V rfl (.inl rfl))) am_nil))) (g_tup rfl (gs_cons (g_V hN rfl (.inl rfl) (.inl rfl)) (gs_cons (g_V hN rfl (.inl rfl) (.inl rfl)) (gs_nil))))) (s_cons (s_if (t_P (q_W (w_and (q_gt (b_P (p_len V.z_len (ab_cons (b_P (p_V rfl (.inl rfl))) ab_nil))) (b_P (p_int))) (w_and1 (q_gt (b_P (p_len V.z_len (ab_cons (b_P (p_V rfl (.inl rfl))) ab_nil))) (b_P (p_int))))))) (s_one (s_expr (e_fn (want_at_most_ok V hS) bp_want_at_most hg (hr.mono (by decide : 3 ≤ 4)) (takes_of rfl rfl rfl rfl) (by rfl) (am_cons (e_P (p_str)) (am_cons (e_P (p_glob (v := .int 12) rfl V.g_MOST_DEGREE.choose_spec ⟨_, rfl⟩)) (am_cons (e_P (p_sub (b_P (p_add (b_P (p_len V.z_len (ab_cons (b_P (p_V rfl (.inl rfl))) ab_nil))) (b_P (p_len V.z_len (ab_cons (b_P (p_V rfl (.inl rfl))) ab_nil))))) (b_P (p_int)))) am_nil)))))) (s_nil)) (s_one (s_ret (e_P (p_fn (times_lines_ok V hS) bp_times_lines hg (hr.mono (by decide : 1 ≤ 4)) (by rfl) (ad_cons (p_V rfl (.inl rfl)) (ad_cons (p_V rfl (.inl rfl)) ad_nil)))))))
theorem line_times_ok (V : Txt K mg) (hS : SysD base) : FnM Pr w K mg base 5 "line_times" st_line_times ["line", "other"] line_times_m := FnM.by V.d_line_times sc_line_times (line_times_bd V hS)
theorem sc_line_divided : FnScope ["line", "other", "near", "far"] ["line", "other"] (defScope st_line_divided) := ⟨rfl, rfl, rfl, by decide +kernel, rfl, by decide +kernel, by decide +kernel⟩
theorem line_divided_bd (V : Txt K mg) (hS : SysD base) : BdOk Pr w K mg base 4 "line_divided" st_line_divided ["line", "other", "near", "far"] [] line_divided_b := fun fa cdv A outer s H E hg hr => by
  have hN := (sc_line_divided).nd
  exact s_cons (s_asg (e_fn (two_lines_ok V hS) bp_two_lines hg hr (takes_of rfl rfl rfl rfl) (by rfl) (am_cons (e_P (p_V rfl (.inl rfl))) (am_cons (e_P (p_V rfl (.inl rfl))) am_nil))) (g_tup rfl (gs_cons (g_V hN rfl (.inl rfl) (.inl rfl)) (gs_cons (g_V hN rfl (.inl rfl) (.inl rfl)) (gs_nil))))) (s_cons (s_if (t_P (q_eq hr (b_P (p_len V.z_len (ab_cons (b_P (p_V rfl (.inl rfl))) ab_nil))) (b_P (p_int)))) (s_one (s_raise0 rfl (takes_of rfl rfl rfl rfl) V.c_ZeroLine (by rfl))) (s_nil)) (s_one (s_ret (e_P (p_fn (parted_ok V hS) bp_parted hg hr (by rfl) (ad_cons (p_V rfl (.inl rfl)) (ad_cons (p_V rfl (.inl rfl)) ad_nil)))))))
theorem line_divided_ok (V : Txt K mg) (hS : SysD base) : FnM Pr w K mg base 5 "line_divided" st_line_divided ["line", "other"] line_divided_m := FnM.by V.d_line_divided sc_line_divided (line_divided_bd V hS)
theorem sc_line_common : FnScope ["line", "other", "near", "far"] ["line", "other"] (defScope st_line_common) := ⟨rfl, rfl, rfl, by decide +kernel, rfl, by decide +kernel, by decide +kernel⟩
theorem line_common_bd (V : Txt K mg) (hS : SysD base) : BdOk Pr w K mg base 5 "line_common" st_line_common ["line", "other", "near", "far"] [] line_common_b := fun fa cdv A outer s H E hg hr => by
  have hN := (sc_line_common).nd
  exact s_cons (s_asg (e_fn (two_lines_ok V hS) bp_two_lines hg (hr.mono (by decide : 4 ≤ 5)) (takes_of rfl rfl rfl rfl) (by rfl) (am_cons (e_P (p_V rfl (.inl rfl))) (am_cons (e_P (p_V rfl (.inl rfl))) am_nil))) (g_tup rfl (gs_cons (g_V hN rfl (.inl rfl) (.inl rfl)) (gs_cons (g_V hN rfl (.inl rfl) (.inl rfl)) (gs_nil))))) (s_one (s_ret (e_P (p_fn (common_of_ok V hS) bp_common_of hg hr (by rfl) (ad_cons (p_V rfl (.inl rfl)) (ad_cons (p_V rfl (.inl rfl)) ad_nil))))))
theorem line_common_ok (V : Txt K mg) (hS : SysD base) : FnM Pr w K mg base 6 "line_common" st_line_common ["line", "other"] line_common_m := FnM.by V.d_line_common sc_line_common (line_common_bd V hS)
theorem sc_resultant : FnScope ["line", "other", "near", "far"] ["line", "other"] (defScope st_resultant) := ⟨rfl, rfl, rfl, by decide +kernel, rfl, by decide +kernel, by decide +kernel⟩
theorem resultant_bd (V : Txt K mg) (hS : SysD base) : BdOk Pr w K mg base 5 "resultant" st_resultant ["line", "other", "near", "far"] [] resultant_b := fun fa cdv A outer s H E hg hr => by
  have hN := (sc_resultant).nd
  exact s_cons (s_asg (e_fn (two_standing_ok V hS) bp_two_standing hg hr (takes_of rfl rfl rfl rfl) (by rfl) (am_cons (e_P (p_V rfl (.inl rfl))) (am_cons (e_P (p_V rfl (.inl rfl))) am_nil))) (g_tup rfl (gs_cons (g_V hN rfl (.inl rfl) (.inl rfl)) (gs_cons (g_V hN rfl (.inl rfl) (.inl rfl)) (gs_nil))))) (s_one (s_ret (e_P (p_fn (resultant_of_ok V hS) bp_resultant_of hg hr (by rfl) (ad_cons (p_V rfl (.inl rfl)) (ad_cons (p_V rfl (.inl rfl)) ad_nil))))))
theorem resultant_ok (V : Txt K mg) (hS : SysD base) : FnM Pr w K mg base 6 "resultant" st_resultant ["line", "other"] resultant_m := FnM.by V.d_resultant sc_resultant (resultant_bd V hS)
theorem sc_plain_parts_of : FnScope ["line", "found", "times", "rest", "left", "here", "later", "part"] ["line"] (defScope st_plain_parts_of) := ⟨rfl, rfl, rfl, by decide +kernel, rfl, by decide +kernel, by decide +kernel⟩
theorem plain_parts_of_bd (V : Txt K mg) (hS : SysD base) : BdOk Pr w K mg base 5 "plain_parts_of" st_plain_parts_of ["line", "found", "times", "rest", "left", "here", "later", "part"] [] plain_parts_of_b := fun fa cdv A outer s H E hg hr => by
  have hN := (sc_plain_parts_of).nd
  exact s_cons (s_par3 (i := 1) (j := 2) (l := 3) rfl hN rfl rfl rfl (by decide) (by decide) (by decide) rfl rfl rfl (am_cons (e_F (f_lst (ad_nil))) (am_cons (e_P (p_int)) (am_cons (e_P (p_fn (plain_of_ok V hS) bp_plain_of hg (hr.mono (by decide : 3 ≤ 5)) (by rfl) (ad_cons (p_V rfl (.inl rfl)) ad_nil))) am_nil))) (by decide) (by decide) (by decide) rfl) (s_cons (s_set (i := 4) hN rfl (.inl rfl) (e_P (p_fn (common_of_ok V hS) bp_common_of hg hr (by rfl) (ad_cons (p_V rfl (.inl rfl)) (ad_cons (p_fn (slope_of_ok V hS) bp_slope_of hg (hr.mono (by decide : 1 ≤ 5)) (by rfl) (ad_cons (p_V rfl (.inl rfl)) ad_nil)) ad_nil))))) (s_cons (s_set (i := 5) hN rfl (.inl rfl) (e_P (p_if (q_gt (b_P (p_len V.z_len (ab_cons (b_P (p_V rfl (.inl rfl))) ab_nil))) (b_P (p_int))) (p_fn (plain_of_ok V hS) bp_plain_of hg (hr.mono (by decide : 3 ≤ 5)) (by rfl) (ad_cons (p_ix (p_fn (parted_ok V hS) bp_parted hg (hr.mono (by decide : 4 ≤ 5)) (by rfl) (ad_cons (p_V rfl (.inl rfl)) (ad_cons (p_V rfl (.inl rfl)) ad_nil))) (b_P (p_int)) (fun _ _ => rfl)) ad_nil)) (p_V rfl (.inl rfl))))) (s_cons (s_whF (passes_of rfl) (t_P (q_gt (b_P (p_len V.z_len (ab_cons (b_P (p_V rfl (.inl rfl))) ab_nil))) (b_P (p_int)))) (s_cons (s_set (i := 6) hN rfl (.inl rfl) (e_P (p_fn (common_of_ok V hS) bp_common_of hg hr (by rfl) (ad_cons (p_V rfl (.inl rfl)) (ad_cons (p_V rfl (.inl rfl)) ad_nil))))) (s_cons (s_set (i := 7) hN rfl (.inl rfl) (e_P (p_fn (plain_of_ok V hS) bp_plain_of hg (hr.mono (by decide : 3 ≤ 5)) (by rfl) (ad_cons (p_ix (p_fn (parted_ok V hS) bp_parted hg (hr.mono (by decide : 4 ≤ 5)) (by rfl) (ad_cons (p_V rfl (.inl rfl)) (ad_cons (p_V rfl (.inl rfl)) ad_nil))) (b_P (p_int)) (fun _ _ => rfl)) ad_nil)))) (s_cons (s_if (t_P (q_gt (b_P (p_len V.z_len (ab_cons (b_P (p_V rfl (.inl rfl))) ab_nil))) (b_P (p_int)))) (s_one (s_expr (e_app rfl (.inl rfl) (e_P (p_tup (ad_cons (p_V rfl (.inl rfl)) (ad_cons (p_V rfl (.inl rfl)) ad_nil))))))) (s_nil)) (s_cons (s_set (i := 4) hN rfl (.inl rfl) (e_P (p_fn (plain_of_ok V hS) bp_plain_of hg (hr.mono (by decide : 3 ≤ 5)) (by rfl) (ad_cons (p_ix (p_fn (parted_ok V hS) bp_parted hg (hr.mono (by decide : 4 ≤ 5)) (by rfl) (ad_cons (p_V rfl (.inl rfl)) (ad_cons (p_V rfl (.inl rfl)) ad_nil))) (b_P (p_int)) (fun _ _ => rfl)) ad_nil)))) (s_one (s_par (i := 5) (j := 2) rfl hN rfl rfl (by decide) rfl rfl (am_cons (e_P (p_V rfl (.inl rfl))) (am_cons (e_P (p_add (b_P (p_V rfl (.inl rfl))) (b_P (p_int)))) am_nil)) (by decide) (by decide) rfl))))))) (s_one (s_ret (e_P (p_F (f_sorted hr (by rfl) V.z_sorted (by decide +kernel) (l_Kf (k_V rfl (.inl rfl)))))))))))
theorem plain_parts_of_ok (V : Txt K mg) (hS : SysD base) : FnM Pr w K mg base 6 "plain_parts_of" st_plain_parts_of ["line"] plain_parts_of_m := FnM.by V.d_plain_parts_of sc_plain_parts_of (plain_parts_of_bd V hS)
theorem sc_single_part : FnScope ["line", "near"] ["line"] (defScope st_single_part) := ⟨rfl, rfl, rfl, by decide +kernel, rfl, by decide +kernel, by decide +kernel⟩
theorem single_part_bd (V : Txt K mg) (hS : SysD base) : BdOk Pr w K mg base 5 "single_part" st_single_part ["line", "near"] [] single_part_b := fun fa cdv A outer s H E hg hr => by
  have hN := (sc_single_part).nd
  exact s_cons (s_set (i := 1) hN rfl (.inl rfl) (e_P (p_fn (plain_of_ok V hS) bp_plain_of hg (hr.mono (by decide : 3 ≤ 5)) (by rfl) (ad_cons (p_V rfl (.inl rfl)) ad_nil)))) (s_one (s_ret (e_P (p_if (q_gt (b_P (p_len V.z_len (ab_cons (b_P (p_V rfl (.inl rfl))) ab_nil))) (b_P (p_int))) (p_fn (plain_of_ok V hS) bp_plain_of hg (hr.mono (by decide : 3 ≤ 5)) (by rfl) (ad_cons (p_ix (p_fn (parted_ok V hS) bp_parted hg (hr.mono (by decide : 4 ≤ 5)) (by rfl) (ad_cons (p_V rfl (.inl rfl)) (ad_cons (p_fn (common_of_ok V hS) bp_common_of hg hr (by rfl) (ad_cons (p_V rfl (.inl rfl)) (ad_cons (p_fn (slope_of_ok V hS) bp_slope_of hg (hr.mono (by decide : 1 ≤ 5)) (by rfl) (ad_cons (p_V rfl (.inl rfl)) ad_nil)) ad_nil))) ad_nil))) (b_P (p_int)) (fun _ _ => rfl)) ad_nil)) (p_V rfl (.inl rfl))))))
theorem single_part_ok (V : Txt K mg) (hS : SysD base) : FnM Pr w K mg base 6 "single_part" st_single_part ["line"] single_part_m := FnM.by V.d_single_part sc_single_part (single_part_bd V hS)
theorem sc_whole_roots_of : FnScope ["line", "near", "prime", "roots", "bound", "some", "root", "one", "number"] ["line"] (defScope st_whole_roots_of) := ⟨rfl, rfl, rfl, by decide +kernel, rfl, by decide +kernel, by decide +kernel⟩
theorem whole_roots_of_bd (V : Txt K mg) (hS : SysD base) : BdOk Pr w K mg base 6 "whole_roots_of" st_whole_roots_of ["line", "near", "prime", "roots", "bound", "some", "root", "one", "number"] [] whole_roots_of_b := fun fa cdv A outer s H E hg hr => by
  have hN := (sc_whole_roots_of).nd
  exact s_cons (s_set (i := 1) hN rfl (.inr rfl) (e_P (p_fn (single_part_ok V hS) bp_single_part hg hr (by rfl) (ad_cons (p_V rfl (.inl rfl)) ad_nil)))) (s_cons (s_if (t_P (q_lt (b_P (p_len V.z_len (ab_cons (b_P (p_V rfl (.inr (.inl rfl)))) ab_nil))) (b_P (p_int)))) (s_one (s_ret (e_P (p_F (f_lst (ad_nil)))))) (s_nil)) (s_cons (s_asg (e_P (p_fn (fit_prime_ok V hS) bp_fit_prime hg (hr.mono (by decide : 2 ≤ 6)) (by rfl) (ad_cons (p_V rfl (.inr (.inl rfl))) ad_nil))) (g_tup rfl (gs_cons (g_V hN rfl (.inr rfl) (.inl rfl)) (gs_cons (g_V hN rfl (.inl rfl) (.inl rfl)) (gs_nil))))) (s_cons (s_set (i := 4) hN rfl (.inr rfl) (e_P (p_add (b_P (p_max rfl V.z_max (ab_cons (b_P (p_F (f_comp (own := [("number", 8)]) rfl hN (iG_seq (p_V rfl (.inr (.inl rfl)))) (blkOk_by (own := [("number", 8)]) rfl) (fun _ _ _ _ _ => g_V hN rfl (by first | exact .inl rfl | exact .inr rfl) (by first | exact .inr rfl | exact .inl rfl)) (fun _ _ _ _ _ => ts_nil) (fun _ _ _ _ _ => p_abs V.z_abs (ab_cons (b_P (p_V rfl (.inl rfl))) ab_nil)) (by decide)))) ab_nil))) (b_P (p_int))))) (s_cons (s_setCf (own := [("root", 6)]) rfl hN rfl rfl rfl (iG_seq (p_V rfl (.inl rfl))) (blkOk_by (own := [("root", 6)]) rfl) (fun _ _ _ _ _ => g_V hN rfl (by first | exact .inl rfl | exact .inr rfl) (by first | exact .inr rfl | exact .inl rfl)) (fun _ _ _ _ _ => ts_nil) (fun _ _ _ _ _ => p_fn (lifted_root_ok V hS) bp_lifted_root hg (hr.mono (by decide : 3 ≤ 6)) (by rfl) (ad_cons (p_V rfl (by first | exact .inr (.inr rfl) | exact .inr (.inl rfl) | exact .inl rfl)) (ad_cons (p_V rfl (by first | exact .inr (.inr rfl) | exact .inr (.inl rfl) | exact .inl rfl)) (ad_cons (p_V rfl (.inl rfl)) (ad_cons (p_V rfl (by first | exact .inr (.inr rfl) | exact .inr (.inl rfl) | exact .inl rfl)) ad_nil))))) (by decide)) (s_one (s_ret (e_P (p_F (f_sorted hr (by rfl) V.z_sorted (by decide +kernel) (l_F (f_comp (own := [("one", 7)]) rfl hN (iG_seq (p_V rfl (.inl rfl))) (blkOk_by (own := [("one", 7)]) rfl) (fun _ _ _ _ _ => g_V hN rfl (by first | exact .inl rfl | exact .inr rfl) (by first | exact .inr rfl | exact .inl rfl)) (fun _ _ _ _ _ => (ts_one (q_eq hr (b_P (p_fn (value_at_ok V hS) bp_value_at hg (hr.mono (by decide : 1 ≤ 6)) (by rfl) (ad_cons (p_V rfl (by first | exact .inr (.inr rfl) | exact .inr (.inl rfl) | exact .inl rfl)) (ad_cons (p_V rfl (.inl rfl)) ad_nil)))) (b_P (p_int))))) (fun _ _ _ _ _ => p_V rfl (.inl rfl)) (by decide))))))))))))
theorem whole_roots_of_ok (V : Txt K mg) (hS : SysD base) : FnM Pr w K mg base 7 "whole_roots_of" st_whole_roots_of ["line"] whole_roots_of_m := FnM.by V.d_whole_roots_of sc_whole_roots_of (whole_roots_of_bd V hS)
theorem sc_plain_parts : FnScope ["line"] ["line"] (defScope st_plain_parts) := ⟨rfl, rfl, rfl, by decide +kernel, rfl, by decide +kernel, by decide +kernel⟩
theorem plain_parts_bd (V : Txt K mg) (hS : SysD base) : BdOk Pr w K mg base 6 "plain_parts" st_plain_parts ["line"] [] plain_parts_b := fun fa cdv A outer s H E hg hr => by
  have hN := (sc_plain_parts).nd
  exact s_one (s_ret (e_fn (plain_parts_of_ok V hS) bp_plain_parts_of hg hr (takes_of rfl rfl rfl rfl) (by rfl) (am_cons (e_fn (want_standing_ok V hS) bp_want_standing hg (hr.mono (by decide : 4 ≤ 6)) (takes_of rfl rfl rfl rfl) (by rfl) (am_cons (e_P (p_V rfl (.inl rfl))) am_nil)) am_nil)))
theorem plain_parts_ok (V : Txt K mg) (hS : SysD base) : FnM Pr w K mg base 7 "plain_parts" st_plain_parts ["line"] plain_parts_m := FnM.by V.d_plain_parts sc_plain_parts (plain_parts_bd V hS)
theorem sc_two_quadratic : FnScope ["line", "nought", "one", "two", "three", "cubic", "total", "apart", "beside", "by", "near", "far"] ["line"] (defScope st_two_quadratic) := ⟨rfl, rfl, rfl, by decide +kernel, rfl, by decide +kernel, by decide +kernel⟩
theorem two_quadratic_bd (V : Txt K mg) (hS : SysD base) : BdOk Pr w K mg base 7 "two_quadratic" st_two_quadratic ["line", "nought", "one", "two", "three", "cubic", "total", "apart", "beside", "by", "near", "far"] [] two_quadratic_b := fun fa cdv A outer s H E hg hr => by
  have hN := (sc_two_quadratic).nd
  exact s_cons (s_asg (e_P (p_F (f_slice (l_P (p_V rfl (.inl rfl))) o_none (o_some (b_P (p_int)))))) (g_seq rfl (gs_cons (g_V hN rfl (.inl rfl) (.inl rfl)) (gs_cons (g_V hN rfl (.inl rfl) (.inl rfl)) (gs_cons (g_V hN rfl (.inl rfl) (.inl rfl)) (gs_cons (g_V hN rfl (.inl rfl) (.inl rfl)) (gs_nil))))))) (s_cons (s_set (i := 5) hN rfl (.inl rfl) (e_P (p_F (f_lst (ad_cons (p_sub (b_P (p_sub (b_P (p_mul (b_P (p_mul (b_P (p_int)) (b_P (p_V rfl (.inl rfl))))) (b_P (p_V rfl (.inl rfl))))) (b_P (p_mul (b_P (p_V rfl (.inl rfl))) (b_P (p_V rfl (.inl rfl))))))) (b_P (p_mul (b_P (p_mul (b_P (p_V rfl (.inl rfl))) (b_P (p_V rfl (.inl rfl))))) (b_P (p_V rfl (.inl rfl)))))) (ad_cons (p_sub (b_P (p_mul (b_P (p_V rfl (.inl rfl))) (b_P (p_V rfl (.inl rfl))))) (b_P (p_mul (b_P (p_int)) (b_P (p_V rfl (.inl rfl)))))) (ad_cons (p_sub (b_P (p_int)) (b_P (p_V rfl (.inl rfl)))) (ad_cons (p_int) ad_nil)))))))) (s_cons (s_for (passes_of rfl) rfl (iD_seq (e_P (p_fn (whole_roots_of_ok V hS) bp_whole_roots_of hg hr (by rfl) (ad_cons (p_V rfl (.inl rfl)) ad_nil)))) (g_V hN rfl (.inl rfl) (.inl rfl)) (s_cons (s_par (i := 7) (j := 8) rfl hN rfl rfl (by decide) rfl rfl (am_cons (e_P (p_fn (square_root_ok V hS) bp_square_root hg (hr.mono (by decide : 1 ≤ 7)) (by rfl) (ad_cons (p_sub (b_P (p_mul (b_P (p_V rfl (.inl rfl))) (b_P (p_V rfl (.inl rfl))))) (b_P (p_mul (b_P (p_int)) (b_P (p_V rfl (.inl rfl)))))) ad_nil))) (am_cons (e_P (p_fn (square_root_ok V hS) bp_square_root hg (hr.mono (by decide : 1 ≤ 7)) (by rfl) (ad_cons (p_sub (b_P (p_mul (b_P (p_V rfl (.inl rfl))) (b_P (p_V rfl (.inl rfl))))) (b_P (p_mul (b_P (p_int)) (b_P (p_sub (b_P (p_V rfl (.inl rfl))) (b_P (p_V rfl (.inl rfl)))))))) ad_nil))) am_nil)) (by decide) (by decide) rfl) (s_one (s_if (t_P (q_W (w_and (q_notN (b_P (p_V rfl (.inl rfl))) (b_P (p_non))) (w_and1 (q_notN (b_P (p_V rfl (.inl rfl))) (b_P (p_non))))))) (s_one (s_for (passes_of rfl) rfl (iD_seq (e_P (p_tup (ad_cons (p_V rfl (.inl rfl)) (ad_cons (p_sub (b_P (p_int)) (b_P (p_V rfl (.inl rfl)))) ad_nil))))) (g_V hN rfl (.inl rfl) (.inl rfl)) (s_cons (s_par (i := 10) (j := 11) rfl hN rfl rfl (by decide) rfl rfl (am_cons (e_P (p_F (f_lst (ad_cons (p_fdiv (b_P (p_add (b_P (p_V rfl (.inl rfl))) (b_P (p_V rfl (.inl rfl))))) (b_P (p_int))) (ad_cons (p_fdiv (b_P (p_add (b_P (p_V rfl (.inl rfl))) (b_P (p_V rfl (.inl rfl))))) (b_P (p_int))) (ad_cons (p_int) ad_nil)))))) (am_cons (e_P (p_F (f_lst (ad_cons (p_fdiv (b_P (p_sub (b_P (p_V rfl (.inl rfl))) (b_P (p_V rfl (.inl rfl))))) (b_P (p_int))) (ad_cons (p_fdiv (b_P (p_sub (b_P (p_V rfl (.inl rfl))) (b_P (p_V rfl (.inl rfl))))) (b_P (p_int))) (ad_cons (p_int) ad_nil)))))) am_nil)) (by decide) (by decide) rfl) (s_one (s_if (t_P (q_eq hr (b_P (p_add (b_P (p_mul (b_P (p_ix (p_V rfl (.inl rfl)) (b_P (p_int)) (fun _ _ => rfl))) (b_P (p_ix (p_V rfl (.inl rfl)) (b_P (p_int)) (fun _ _ => rfl))))) (b_P (p_mul (b_P (p_ix (p_V rfl (.inl rfl)) (b_P (p_int)) (fun _ _ => rfl))) (b_P (p_ix (p_V rfl (.inl rfl)) (b_P (p_int)) (fun _ _ => rfl))))))) (b_P (p_V rfl (.inl rfl))))) (s_one (s_ret (e_P (p_tup (ad_cons (p_V rfl (.inl rfl)) (ad_cons (p_V rfl (.inl rfl)) ad_nil)))))) (s_nil)))))) (s_nil))))) (s_one (s_ret (e_P (p_non))))))
theorem two_quadratic_ok (V : Txt K mg) (hS : SysD base) : FnM Pr w K mg base 8 "two_quadratic" st_two_quadratic ["line"] two_quadratic_m := FnM.by V.d_two_quadratic sc_two_quadratic (two_quadratic_bd V hS)
theorem sc_whole_roots : FnScope ["line"] ["line"] (defScope st_whole_roots) := ⟨rfl, rfl, rfl, by decide +kernel, rfl, by decide +kernel, by decide +kernel⟩
theorem whole_roots_bd (V : Txt K mg) (hS : SysD base) : BdOk Pr w K mg base 7 "whole_roots" st_whole_roots ["line"] [] whole_roots_b := fun fa cdv A outer s H E hg hr => by
  have hN := (sc_whole_roots).nd
  exact s_one (s_ret (e_fn (whole_roots_of_ok V hS) bp_whole_roots_of hg hr (takes_of rfl rfl rfl rfl) (by rfl) (am_cons (e_fn (want_standing_ok V hS) bp_want_standing hg (hr.mono (by decide : 4 ≤ 7)) (takes_of rfl rfl rfl rfl) (by rfl) (am_cons (e_P (p_V rfl (.inl rfl))) am_nil)) am_nil)))
theorem whole_roots_ok (V : Txt K mg) (hS : SysD base) : FnM Pr w K mg base 8 "whole_roots" st_whole_roots ["line"] whole_roots_m := FnM.by V.d_whole_roots sc_whole_roots (whole_roots_bd V hS)
theorem sc_monic_parts_of : FnScope ["line", "found", "rest", "root", "both"] ["line"] (defScope st_monic_parts_of) := ⟨rfl, rfl, rfl, by decide +kernel, rfl, by decide +kernel, by decide +kernel⟩
theorem monic_parts_of_bd (V : Txt K mg) (hS : SysD base) : BdOk Pr w K mg base 8 "monic_parts_of" st_monic_parts_of ["line", "found", "rest", "root", "both"] [] monic_parts_of_b := fun fa cdv A outer s H E hg hr => by
  have hN := (sc_monic_parts_of).nd
  exact s_cons (s_par (i := 1) (j := 2) rfl hN rfl rfl (by decide) rfl rfl (am_cons (e_F (f_lst (ad_nil))) (am_cons (e_P (p_F (f_listC V.z_list (p_V rfl (.inl rfl))))) am_nil)) (by decide) (by decide) rfl) (s_cons (s_for (passes_of rfl) rfl (iD_seq (e_P (p_fn (whole_roots_of_ok V hS) bp_whole_roots_of hg (hr.mono (by decide : 7 ≤ 8)) (by rfl) (ad_cons (p_V rfl (.inl rfl)) ad_nil)))) (g_V hN rfl (.inl rfl) (.inl rfl)) (s_one (s_whF (passes_of rfl) (t_P (q_W (w_and (q_gt (b_P (p_len V.z_len (ab_cons (b_P (p_V rfl (.inl rfl))) ab_nil))) (b_P (p_int))) (w_and1 (q_eq hr (b_P (p_fn (value_at_ok V hS) bp_value_at hg (hr.mono (by decide : 1 ≤ 8)) (by rfl) (ad_cons (p_V rfl (.inl rfl)) (ad_cons (p_V rfl (.inl rfl)) ad_nil)))) (b_P (p_int))))))) (s_cons (s_expr (e_app rfl (.inl rfl) (e_P (p_F (f_lst (ad_cons (p_sub (b_P (p_int)) (b_P (p_V rfl (.inl rfl)))) (ad_cons (p_int) ad_nil))))))) (s_one (s_set (i := 2) hN rfl (.inl rfl) (e_P (p_ix (p_fn (parted_ok V hS) bp_parted hg (hr.mono (by decide : 4 ≤ 8)) (by rfl) (ad_cons (p_V rfl (.inl rfl)) (ad_cons (p_F (f_lst (ad_cons (p_sub (b_P (p_int)) (b_P (p_V rfl (.inl rfl)))) (ad_cons (p_int) ad_nil)))) ad_nil))) (b_P (p_int)) (fun _ _ => rfl))))))))) (s_cons (s_set (i := 4) hN rfl (.inl rfl) (e_P (p_if (q_eq hr (b_P (p_len V.z_len (ab_cons (b_P (p_V rfl (.inl rfl))) ab_nil))) (b_P (p_int))) (p_fn (two_quadratic_ok V hS) bp_two_quadratic hg hr (by rfl) (ad_cons (p_V rfl (.inl rfl)) ad_nil)) (p_non)))) (s_cons (s_if (t_P (q_notN (b_P (p_V rfl (.inl rfl))) (b_P (p_non)))) (s_one (s_expr (e_ext (pa_V rfl (.inl rfl)) (l_F (f_lst (ad_cons (p_ix (p_V rfl (.inl rfl)) (b_P (p_int)) (fun _ _ => rfl)) (ad_cons (p_ix (p_V rfl (.inl rfl)) (b_P (p_int)) (fun _ _ => rfl)) ad_nil))))))) (s_one (s_if (t_P (q_gt (b_P (p_len V.z_len (ab_cons (b_P (p_V rfl (.inl rfl))) ab_nil))) (b_P (p_int)))) (s_one (s_expr (e_app rfl (.inl rfl) (e_P (p_V rfl (.inl rfl)))))) (s_nil)))) (s_one (s_ret (e_P (p_F (f_sorted hr (by rfl) V.z_sorted (by decide +kernel) (l_Kf (k_V rfl (.inl rfl)))))))))))
theorem monic_parts_of_ok (V : Txt K mg) (hS : SysD base) : FnM Pr w K mg base 9 "monic_parts_of" st_monic_parts_of ["line"] monic_parts_of_m := FnM.by V.d_monic_parts_of sc_monic_parts_of (monic_parts_of_bd V hS)
theorem sc_monic_parts : FnScope ["line", "found"] ["line"] (defScope st_monic_parts) := ⟨rfl, rfl, rfl, by decide +kernel, rfl, by decide +kernel, by decide +kernel⟩
theorem monic_parts_bd (V : Txt K mg) (hS : SysD base) : BdOk Pr w K mg base 9 "monic_parts" st_monic_parts ["line", "found"] [] monic_parts_b := fun fa cdv A outer s H E hg hr => by
  have hN := (sc_monic_parts).nd
  exact s_cons (s_set (i := 1) hN rfl (.inl rfl) (e_P (p_fn (line_in_ok V hS) bp_line_in hg (hr.mono (by decide : 2 ≤ 9)) (by rfl) (ad_cons (p_V rfl (.inl rfl)) ad_nil)))) (s_cons (s_if (t_P (q_W (w_or (q_isN (b_P (p_V rfl (.inl rfl))) (b_P (p_non))) (w_or (q_not (q_chain op_le op_le (pure_cmp _) (pure_cmp _) rfl (b_P (p_int)) (b_P (p_len V.z_len (ab_cons (b_P (p_V rfl (.inl rfl))) ab_nil))) (b_P (p_add (b_P (p_glob (v := .int 4) rfl V.g_MOST_MONIC.choose_spec ⟨_, rfl⟩)) (b_P (p_int)))))) (w_or1 (q_ne hr (b_P (p_ix (p_V rfl (.inl rfl)) (b_P (p_neg (b_P (p_int)))) (fun _ _ => rfl))) (b_P (p_int)))))))) (s_one (s_raise1 rfl (takes_of rfl rfl rfl rfl) V.c_InvalidLine (xi_InvalidLine (k := 0)) (hr.mono (by decide : 0 + 1 + 1 ≤ 9)) (by rfl) (ad_cons (p_V rfl (.inl rfl)) ad_nil))) (s_nil)) (s_one (s_ret (e_P (p_fn (monic_parts_of_ok V hS) bp_monic_parts_of hg hr (by rfl) (ad_cons (p_V rfl (.inl rfl)) ad_nil))))))
theorem monic_parts_ok (V : Txt K mg) (hS : SysD base) : FnM Pr w K mg base 10 "monic_parts" st_monic_parts ["line"] monic_parts_m := FnM.by V.d_monic_parts sc_monic_parts (monic_parts_bd V hS)
theorem sc__law_heard : FnScope ["call", "e"] ["call"] (defScope st__law_heard) := ⟨rfl, rfl, rfl, by decide +kernel, rfl, by decide +kernel, by decide +kernel⟩
theorem lamIn_0 (V : Txt K mg) (hS : SysD base) : LamIn Pr w K mg base 10 "_law_lines_right" [0, 0, 0] lam_0 := ⟨_, _, V.m__law_lines_right, site_0.at_, site_0.sc, fun _ _ _ _ => rfl, fun fa c cl A outer s H E hg hr => by
  exact e_fn (degree_ok V hS) bp_degree hg (hr.mono (by decide : 4 ≤ 10)) (takes_of rfl rfl rfl rfl) (by rfl) (am_cons (e_P (p_V rfl (.inr (.inr rfl)))) am_nil)⟩
theorem lamIn_1 (V : Txt K mg) (hS : SysD base) : LamIn Pr w K mg base 10 "_law_lines_right" [1, 0, 1] lam_1 := ⟨_, _, V.m__law_lines_right, site_1.at_, site_1.sc, fun _ _ _ _ => rfl, fun fa c cl A outer s H E hg hr => by
  exact e_fn (line_value_ok V hS) bp_line_value hg (hr.mono (by decide : 4 ≤ 10)) (takes_of rfl rfl rfl rfl) (by rfl) (am_cons (e_P (p_V rfl (.inr (.inr rfl)))) (am_cons (e_P (p_non)) am_nil))⟩
theorem lamIn_2 (V : Txt K mg) (hS : SysD base) : LamIn Pr w K mg base 10 "_law_lines_right" [2, 0, 1] lam_2 := ⟨_, _, V.m__law_lines_right, site_2.at_, site_2.sc, fun _ _ _ _ => rfl, fun fa c cl A outer s H E hg hr => by
  exact e_fnKP (js := [0]) (line_slope_ok V hS) (bk_line_slope_line) hg (hr.mono (by decide : 4 ≤ 10)) (takes_of rfl rfl rfl rfl) (by rfl) (kd_cons (p_V rfl (.inr (.inr rfl))) (kd_nil)) (hj := fun ds hl => match ds, hl with | [_], _ => rfl)⟩
theorem lamIn_3 (V : Txt K mg) (hS : SysD base) : LamIn Pr w K mg base 10 "_law_lines_right" [3, 0, 1] lam_3 := ⟨_, _, V.m__law_lines_right, site_3.at_, site_3.sc, fun _ _ _ _ => rfl, fun fa c cl A outer s H E hg hr => by
  exact e_fn (plain_line_ok V hS) bp_plain_line hg (hr.mono (by decide : 4 ≤ 10)) (takes_of rfl rfl rfl rfl) (by rfl) (am_cons (e_P (p_V rfl (.inr (.inr rfl)))) am_nil)⟩
theorem lamIn_4 (V : Txt K mg) (hS : SysD base) : LamIn Pr w K mg base 10 "_law_lines_right" [4, 0, 1] lam_4 := ⟨_, _, V.m__law_lines_right, site_4.at_, site_4.sc, fun _ _ _ _ => rfl, fun fa c cl A outer s H E hg hr => by
  exact e_fn (line_sum_ok V hS) bp_line_sum hg (hr.mono (by decide : 5 ≤ 10)) (takes_of rfl rfl rfl rfl) (by rfl) (am_cons (e_P (p_V rfl (.inr (.inr rfl)))) (am_cons (e_P (p_non)) am_nil))⟩
theorem lamIn_5 (V : Txt K mg) (hS : SysD base) : LamIn Pr w K mg base 10 "_law_lines_right" [5, 0, 1] lam_5 := ⟨_, _, V.m__law_lines_right, site_5.at_, site_5.sc, fun _ _ _ _ => rfl, fun fa c cl A outer s H E hg hr => by
  exact e_fnKP (js := [1, 0]) (line_sum_ok V hS) (bk_line_sum_other_line) hg (hr.mono (by decide : 5 ≤ 10)) (takes_of rfl rfl rfl rfl) (by rfl) (kd_cons (p_V rfl (.inr (.inr rfl))) (kd_cons (p_V rfl (.inr (.inr rfl))) (kd_nil))) (hj := fun ds hl => match ds, hl with | [_, _], _ => rfl)⟩
theorem lamIn_6 (V : Txt K mg) (hS : SysD base) : LamIn Pr w K mg base 10 "_law_lines_right" [6, 0, 1] lam_6 := ⟨_, _, V.m__law_lines_right, site_6.at_, site_6.sc, fun _ _ _ _ => rfl, fun fa c cl A outer s H E hg hr => by
  exact e_fn (line_less_ok V hS) bp_line_less hg (hr.mono (by decide : 5 ≤ 10)) (takes_of rfl rfl rfl rfl) (by rfl) (am_cons (e_P (p_V rfl (.inr (.inr rfl)))) (am_cons (e_P (p_V rfl (.inr (.inr rfl)))) am_nil))⟩
theorem lamIn_7 (V : Txt K mg) (hS : SysD base) : LamIn Pr w K mg base 10 "_law_lines_right" [7, 0, 1] lam_7 := ⟨_, _, V.m__law_lines_right, site_7.at_, site_7.sc, fun _ _ _ _ => rfl, fun fa c cl A outer s H E hg hr => by
  exact e_fn (line_less_ok V hS) bp_line_less hg (hr.mono (by decide : 5 ≤ 10)) (takes_of rfl rfl rfl rfl) (by rfl) (am_cons (e_P (p_V rfl (.inr (.inr rfl)))) (am_cons (e_P (p_V rfl (.inr (.inr rfl)))) am_nil))⟩
theorem lamIn_8 (V : Txt K mg) (hS : SysD base) : LamIn Pr w K mg base 10 "_law_lines_right" [8, 0, 1] lam_8 := ⟨_, _, V.m__law_lines_right, site_8.at_, site_8.sc, fun _ _ _ _ => rfl, fun fa c cl A outer s H E hg hr => by
  exact e_fn (line_times_ok V hS) bp_line_times hg (hr.mono (by decide : 5 ≤ 10)) (takes_of rfl rfl rfl rfl) (by rfl) (am_cons (e_P (p_V rfl (.inr (.inr rfl)))) (am_cons (e_P (p_V rfl (.inr (.inr rfl)))) am_nil))⟩
theorem lamIn_9 (V : Txt K mg) (hS : SysD base) : LamIn Pr w K mg base 10 "_law_lines_right" [9, 0, 1] lam_9 := ⟨_, _, V.m__law_lines_right, site_9.at_, site_9.sc, fun _ _ _ _ => rfl, fun fa c cl A outer s H E hg hr => by
  exact e_fnKP (js := [1, 0]) (line_times_ok V hS) (bk_line_times_other_line) hg (hr.mono (by decide : 5 ≤ 10)) (takes_of rfl rfl rfl rfl) (by rfl) (kd_cons (p_V rfl (.inr (.inr rfl))) (kd_cons (p_F (f_lst (ad_nil))) (kd_nil))) (hj := fun ds hl => match ds, hl with | [_, _], _ => rfl)⟩
theorem lamIn_10 (V : Txt K mg) (hS : SysD base) : LamIn Pr w K mg base 10 "_law_lines_right" [10, 0, 1] lam_10 := ⟨_, _, V.m__law_lines_right, site_10.at_, site_10.sc, fun _ _ _ _ => rfl, fun fa c cl A outer s H E hg hr => by
  exact e_fn (line_divided_ok V hS) bp_line_divided hg (hr.mono (by decide : 5 ≤ 10)) (takes_of rfl rfl rfl rfl) (by rfl) (am_cons (e_P (p_V rfl (.inr (.inr rfl)))) (am_cons (e_P (p_F (f_lst (ad_nil)))) am_nil))⟩
theorem lamIn_11 (V : Txt K mg) (hS : SysD base) : LamIn Pr w K mg base 10 "_law_lines_right" [11, 0, 1] lam_11 := ⟨_, _, V.m__law_lines_right, site_11.at_, site_11.sc, fun _ _ _ _ => rfl, fun fa c cl A outer s H E hg hr => by
  exact e_fn (line_divided_ok V hS) bp_line_divided hg (hr.mono (by decide : 5 ≤ 10)) (takes_of rfl rfl rfl rfl) (by rfl) (am_cons (e_P (p_V rfl (.inr (.inr rfl)))) (am_cons (e_P (p_V rfl (.inr (.inr rfl)))) am_nil))⟩
theorem lamIn_12 (V : Txt K mg) (hS : SysD base) : LamIn Pr w K mg base 10 "_law_lines_right" [12, 0, 1] lam_12 := ⟨_, _, V.m__law_lines_right, site_12.at_, site_12.sc, fun _ _ _ _ => rfl, fun fa c cl A outer s H E hg hr => by
  exact e_fn (line_common_ok V hS) bp_line_common hg (hr.mono (by decide : 6 ≤ 10)) (takes_of rfl rfl rfl rfl) (by rfl) (am_cons (e_P (p_V rfl (.inr (.inr rfl)))) (am_cons (e_P (p_V rfl (.inr (.inr rfl)))) am_nil))⟩
theorem lamIn_13 (V : Txt K mg) (hS : SysD base) : LamIn Pr w K mg base 10 "_law_lines_right" [13, 0, 1] lam_13 := ⟨_, _, V.m__law_lines_right, site_13.at_, site_13.sc, fun _ _ _ _ => rfl, fun fa c cl A outer s H E hg hr => by
  exact e_fnPK (js := [0, 1]) (line_common_ok V hS) bpk_line_common_1_other hg (hr.mono (by decide : 6 ≤ 10)) (takes_of rfl rfl rfl rfl) (by rfl) (ad_cons (p_V rfl (.inr (.inr rfl))) ad_nil) (kd_cons (p_V rfl (.inr (.inr rfl))) (kd_nil)) (hj := fun ds hl => match ds, hl with | [_, _], _ => rfl)⟩
theorem lamIn_14 (V : Txt K mg) (hS : SysD base) : LamIn Pr w K mg base 10 "_law_lines_right" [14, 0, 1] lam_14 := ⟨_, _, V.m__law_lines_right, site_14.at_, site_14.sc, fun _ _ _ _ => rfl, fun fa c cl A outer s H E hg hr => by
  exact e_fn (resultant_ok V hS) bp_resultant hg (hr.mono (by decide : 6 ≤ 10)) (takes_of rfl rfl rfl rfl) (by rfl) (am_cons (e_P (p_V rfl (.inr (.inr rfl)))) (am_cons (e_P (p_F (f_lst (ad_nil)))) am_nil))⟩
theorem lamIn_15 (V : Txt K mg) (hS : SysD base) : LamIn Pr w K mg base 10 "_law_lines_right" [15, 0, 1] lam_15 := ⟨_, _, V.m__law_lines_right, site_15.at_, site_15.sc, fun _ _ _ _ => rfl, fun fa c cl A outer s H E hg hr => by
  exact e_fn (resultant_ok V hS) bp_resultant hg (hr.mono (by decide : 6 ≤ 10)) (takes_of rfl rfl rfl rfl) (by rfl) (am_cons (e_P (p_F (f_lst (ad_nil)))) (am_cons (e_P (p_V rfl (.inr (.inr rfl)))) am_nil))⟩
theorem lamIn_16 (V : Txt K mg) (hS : SysD base) : LamIn Pr w K mg base 10 "_law_lines_right" [16, 0, 1] lam_16 := ⟨_, _, V.m__law_lines_right, site_16.at_, site_16.sc, fun _ _ _ _ => rfl, fun fa c cl A outer s H E hg hr => by
  exact e_fn (plain_parts_ok V hS) bp_plain_parts hg (hr.mono (by decide : 7 ≤ 10)) (takes_of rfl rfl rfl rfl) (by rfl) (am_cons (e_P (p_V rfl (.inr (.inr rfl)))) am_nil)⟩
theorem lamIn_17 (V : Txt K mg) (hS : SysD base) : LamIn Pr w K mg base 10 "_law_lines_right" [17, 0, 1] lam_17 := ⟨_, _, V.m__law_lines_right, site_17.at_, site_17.sc, fun _ _ _ _ => rfl, fun fa c cl A outer s H E hg hr => by
  exact e_fnKP (js := [0]) (whole_roots_ok V hS) (bk_whole_roots_line) hg (hr.mono (by decide : 8 ≤ 10)) (takes_of rfl rfl rfl rfl) (by rfl) (kd_cons (p_V rfl (.inr (.inr rfl))) (kd_nil)) (hj := fun ds hl => match ds, hl with | [_], _ => rfl)⟩
theorem lamIn_18 (V : Txt K mg) (hS : SysD base) : LamIn Pr w K mg base 10 "_law_lines_right" [18, 0, 1] lam_18 := ⟨_, _, V.m__law_lines_right, site_18.at_, site_18.sc, fun _ _ _ _ => rfl, fun fa c cl A outer s H E hg hr => by
  exact e_fn (monic_parts_ok V hS) bp_monic_parts hg (hr.mono (by decide : 10 ≤ 10)) (takes_of rfl rfl rfl rfl) (by rfl) (am_cons (e_P (p_V rfl (.inr (.inr rfl)))) am_nil)⟩
theorem lamIn_19 (V : Txt K mg) (hS : SysD base) : LamIn Pr w K mg base 10 "_law_numbers_right" [0, 0, 0] lam_19 := ⟨_, _, V.m__law_numbers_right, site_19.at_, site_19.sc, fun _ _ _ _ => rfl, fun fa c cl A outer s H E hg hr => by
  exact e_fn (line_value_ok V hS) bp_line_value hg (hr.mono (by decide : 4 ≤ 10)) (takes_of rfl rfl rfl rfl) (by rfl) (am_cons (e_P (p_V rfl (.inr (.inr rfl)))) (am_cons (e_P (p_V rfl (.inr (.inr rfl)))) am_nil))⟩
theorem lamIn_20 (V : Txt K mg) (hS : SysD base) : LamIn Pr w K mg base 10 "_law_numbers_right" [1, 0, 1] lam_20 := ⟨_, _, V.m__law_numbers_right, site_20.at_, site_20.sc, fun _ _ _ _ => rfl, fun fa c cl A outer s H E hg hr => by
  exact e_fnKP (js := [1, 0]) (line_value_ok V hS) (bk_line_value_number_line) hg (hr.mono (by decide : 4 ≤ 10)) (takes_of rfl rfl rfl rfl) (by rfl) (kd_cons (p_V rfl (.inr (.inr rfl))) (kd_cons (p_F (f_lst (ad_nil))) (kd_nil))) (hj := fun ds hl => match ds, hl with | [_, _], _ => rfl)⟩
theorem lamIn_21 (V : Txt K mg) (hS : SysD base) : LamIn Pr w K mg base 10 "_law_numbers_right" [2, 0, 1] lam_21 := ⟨_, _, V.m__law_numbers_right, site_21.at_, site_21.sc, fun _ _ _ _ => rfl, fun fa c cl A outer s H E hg hr => by
  exact e_fn (greatest_ok V hS) bp_greatest hg (hr.mono (by decide : 4 ≤ 10)) (takes_of rfl rfl rfl rfl) (by rfl) (am_cons (e_P (p_V rfl (.inr (.inr rfl)))) (am_cons (e_P (p_non)) am_nil))⟩
theorem lamIn_22 (V : Txt K mg) (hS : SysD base) : LamIn Pr w K mg base 10 "_law_numbers_right" [3, 0, 1] lam_22 := ⟨_, _, V.m__law_numbers_right, site_22.at_, site_22.sc, fun _ _ _ _ => rfl, fun fa c cl A outer s H E hg hr => by
  exact e_fnKP (js := [1, 0]) (greatest_ok V hS) (bk_greatest_other_number) hg (hr.mono (by decide : 4 ≤ 10)) (takes_of rfl rfl rfl rfl) (by rfl) (kd_cons (p_V rfl (.inr (.inr rfl))) (kd_cons (p_int) (kd_nil))) (hj := fun ds hl => match ds, hl with | [_, _], _ => rfl)⟩
theorem lamIn_23 (V : Txt K mg) (hS : SysD base) : LamIn Pr w K mg base 10 "_law_behind_right" [0, 0, 0] lam_23 := ⟨_, _, V.m__law_behind_right, site_23.at_, site_23.sc, fun _ _ _ _ => rfl, fun fa c cl A outer s H E hg hr => by
  exact e_fn (line_divided_ok V hS) bp_line_divided hg (hr.mono (by decide : 5 ≤ 10)) (takes_of rfl rfl rfl rfl) (by rfl) (am_cons (e_P (p_V rfl (.inr (.inr rfl)))) (am_cons (e_P (p_F (f_lst (ad_nil)))) am_nil))⟩
theorem lamIn_24 (V : Txt K mg) (hS : SysD base) : LamIn Pr w K mg base 10 "_law_behind_right" [1, 0, 1] lam_24 := ⟨_, _, V.m__law_behind_right, site_24.at_, site_24.sc, fun _ _ _ _ => rfl, fun fa c cl A outer s H E hg hr => by
  exact e_fnKP (js := [1, 0]) (line_divided_ok V hS) (bk_line_divided_other_line) hg (hr.mono (by decide : 5 ≤ 10)) (takes_of rfl rfl rfl rfl) (by rfl) (kd_cons (p_tup (ad_nil)) (kd_cons (p_F (f_lst (ad_nil))) (kd_nil))) (hj := fun ds hl => match ds, hl with | [_, _], _ => rfl)⟩
theorem lamIn_25 (V : Txt K mg) (hS : SysD base) : LamIn Pr w K mg base 10 "_law_behind_right" [2, 0, 1] lam_25 := ⟨_, _, V.m__law_behind_right, site_25.at_, site_25.sc, fun _ _ _ _ => rfl, fun fa c cl A outer s H E hg hr => by
  exact e_fn (resultant_ok V hS) bp_resultant hg (hr.mono (by decide : 6 ≤ 10)) (takes_of rfl rfl rfl rfl) (by rfl) (am_cons (e_P (p_V rfl (.inr (.inr rfl)))) (am_cons (e_P (p_F (f_lst (ad_nil)))) am_nil))⟩
theorem lamIn_26 (V : Txt K mg) (hS : SysD base) : LamIn Pr w K mg base 10 "_law_behind_right" [3, 0, 1] lam_26 := ⟨_, _, V.m__law_behind_right, site_26.at_, site_26.sc, fun _ _ _ _ => rfl, fun fa c cl A outer s H E hg hr => by
  exact e_fn (resultant_ok V hS) bp_resultant hg (hr.mono (by decide : 6 ≤ 10)) (takes_of rfl rfl rfl rfl) (by rfl) (am_cons (e_P (p_F (f_lst (ad_nil)))) (am_cons (e_P (p_F (f_lst (ad_cons (p_int) ad_nil)))) am_nil))⟩
theorem lamIn_27 (V : Txt K mg) (hS : SysD base) : LamIn Pr w K mg base 10 "_law_behind_right" [4, 0, 1] lam_27 := ⟨_, _, V.m__law_behind_right, site_27.at_, site_27.sc, fun _ _ _ _ => rfl, fun fa c cl A outer s H E hg hr => by
  exact e_fn (plain_parts_ok V hS) bp_plain_parts hg (hr.mono (by decide : 7 ≤ 10)) (takes_of rfl rfl rfl rfl) (by rfl) (am_cons (e_P (p_F (f_lst (ad_nil)))) am_nil)⟩
theorem lamIn_28 (V : Txt K mg) (hS : SysD base) : LamIn Pr w K mg base 10 "_law_behind_right" [5, 0, 1] lam_28 := ⟨_, _, V.m__law_behind_right, site_28.at_, site_28.sc, fun _ _ _ _ => rfl, fun fa c cl A outer s H E hg hr => by
  exact e_fn (whole_roots_ok V hS) bp_whole_roots hg (hr.mono (by decide : 8 ≤ 10)) (takes_of rfl rfl rfl rfl) (by rfl) (am_cons (e_P (p_tup (ad_nil))) am_nil)⟩
theorem lamIn_29 (V : Txt K mg) (hS : SysD base) : LamIn Pr w K mg base 10 "_law_behind_right" [7, 1, 0, 0, 0, 1] lam_29 := ⟨_, _, V.m__law_behind_right, site_29.at_, site_29.sc, fun _ _ _ _ => rfl, fun fa c cl A outer s H E hg hr => by
  exact e_fn (monic_parts_ok V hS) bp_monic_parts hg (hr.mono (by decide : 10 ≤ 10)) (takes_of rfl rfl rfl rfl) (by rfl) (am_cons (e_P (p_V rfl (.inr (.inr rfl)))) am_nil)⟩
theorem lamIn_30 (V : Txt K mg) (hS : SysD base) : LamIn Pr w K mg base 10 "_law_behind_right" [10, 0, 0] lam_30 := ⟨_, _, V.m__law_behind_right, site_30.at_, site_30.sc, fun _ _ _ _ => rfl, fun fa c cl A outer s H E hg hr => by
  exact e_fn (line_times_ok V hS) bp_line_times hg (hr.mono (by decide : 5 ≤ 10)) (takes_of rfl rfl rfl rfl) (by rfl) (am_cons (e_P (p_V rfl (.inr (.inr rfl)))) (am_cons (e_P (p_V rfl (.inr (.inr rfl)))) am_nil))⟩
theorem lamIn_31 (V : Txt K mg) (hS : SysD base) : LamIn Pr w K mg base 10 "_law_behind_right" [11, 0, 1] lam_31 := ⟨_, _, V.m__law_behind_right, site_31.at_, site_31.sc, fun _ _ _ _ => rfl, fun fa c cl A outer s H E hg hr => by
  exact e_fnKP (js := [1, 0]) (line_times_ok V hS) (bk_line_times_other_line) hg (hr.mono (by decide : 5 ≤ 10)) (takes_of rfl rfl rfl rfl) (by rfl) (kd_cons (p_F (f_rep (l_F (f_lst (ad_cons (p_int) ad_nil))) (b_P (p_int)))) (kd_cons (p_F (f_lst (ad_cons (p_int) (ad_cons (p_int) ad_nil)))) (kd_nil))) (hj := fun ds hl => match ds, hl with | [_, _], _ => rfl)⟩
theorem lamIn_32 (V : Txt K mg) (hS : SysD base) : LamIn Pr w K mg base 10 "_law_behind_right" [13, 0, 0] lam_32 := ⟨_, _, V.m__law_behind_right, site_32.at_, site_32.sc, fun _ _ _ _ => rfl, fun fa c cl A outer s H E hg hr => by
  exact e_fn (line_times_ok V hS) bp_line_times hg (hr.mono (by decide : 5 ≤ 10)) (takes_of rfl rfl rfl rfl) (by rfl) (am_cons (e_P (p_V rfl (.inr (.inr rfl)))) (am_cons (e_P (p_V rfl (.inr (.inr rfl)))) am_nil))⟩
theorem lamIn_33 (V : Txt K mg) (hS : SysD base) : LamIn Pr w K mg base 10 "_law_behind_right" [14, 0, 1] lam_33 := ⟨_, _, V.m__law_behind_right, site_33.at_, site_33.sc, fun _ _ _ _ => rfl, fun fa c cl A outer s H E hg hr => by
  exact e_fn (line_times_ok V hS) bp_line_times hg (hr.mono (by decide : 5 ≤ 10)) (takes_of rfl rfl rfl rfl) (by rfl) (am_cons (e_P (p_F (f_rep (l_F (f_lst (ad_cons (p_int) ad_nil))) (b_P (p_int))))) (am_cons (e_P (p_F (f_lst (ad_nil)))) am_nil))⟩
theorem lamIn_34 (V : Txt K mg) (hS : SysD base) : LamIn Pr w K mg base 10 "_law_behind_right" [15, 0, 1] lam_34 := ⟨_, _, V.m__law_behind_right, site_34.at_, site_34.sc, fun _ _ _ _ => rfl, fun fa c cl A outer s H E hg hr => by
  exact e_fn (line_times_ok V hS) bp_line_times hg (hr.mono (by decide : 5 ≤ 10)) (takes_of rfl rfl rfl rfl) (by rfl) (am_cons (e_P (p_F (f_lst (ad_nil)))) (am_cons (e_P (p_F (f_rep (l_F (f_lst (ad_cons (p_int) ad_nil))) (b_P (p_int))))) am_nil))⟩
theorem lamIn_35 (V : Txt K mg) (hS : SysD base) : LamIn Pr w K mg base 10 "_law_behind_right" [16, 0, 1] lam_35 := ⟨_, _, V.m__law_behind_right, site_35.at_, site_35.sc, fun _ _ _ _ => rfl, fun fa c cl A outer s H E hg hr => by
  exact e_fn (line_divided_ok V hS) bp_line_divided hg (hr.mono (by decide : 5 ≤ 10)) (takes_of rfl rfl rfl rfl) (by rfl) (am_cons (e_P (p_F (f_lst (ad_nil)))) (am_cons (e_P (p_V rfl (.inr (.inr rfl)))) am_nil))⟩
theorem lamIn_36 (V : Txt K mg) (hS : SysD base) : LamIn Pr w K mg base 10 "_law_behind_right" [17, 0, 1] lam_36 := ⟨_, _, V.m__law_behind_right, site_36.at_, site_36.sc, fun _ _ _ _ => rfl, fun fa c cl A outer s H E hg hr => by
  exact e_fn (resultant_ok V hS) bp_resultant hg (hr.mono (by decide : 6 ≤ 10)) (takes_of rfl rfl rfl rfl) (by rfl) (am_cons (e_P (p_F (f_lst (ad_cons (p_int) ad_nil)))) (am_cons (e_P (p_F (f_lst (ad_cons (p_int) ad_nil)))) am_nil))⟩
theorem lams_ok (V : Txt K mg) (hS : SysD base) : ∀ (j : Nat) (x : Str × List Nat × M C), lams[j]? = some x → LamIn Pr w K mg base 10 x.1 x.2.1 x.2.2 := ltab_cons (lamIn_0 V hS) (ltab_cons (lamIn_1 V hS) (ltab_cons (lamIn_2 V hS) (ltab_cons (lamIn_3 V hS) (ltab_cons (lamIn_4 V hS) (ltab_cons (lamIn_5 V hS) (ltab_cons (lamIn_6 V hS) (ltab_cons (lamIn_7 V hS) (ltab_cons (lamIn_8 V hS) (ltab_cons (lamIn_9 V hS) (ltab_cons (lamIn_10 V hS) (ltab_cons (lamIn_11 V hS) (ltab_cons (lamIn_12 V hS) (ltab_cons (lamIn_13 V hS) (ltab_cons (lamIn_14 V hS) (ltab_cons (lamIn_15 V hS) (ltab_cons (lamIn_16 V hS) (ltab_cons (lamIn_17 V hS) (ltab_cons (lamIn_18 V hS) (ltab_cons (lamIn_19 V hS) (ltab_cons (lamIn_20 V hS) (ltab_cons (lamIn_21 V hS) (ltab_cons (lamIn_22 V hS) (ltab_cons (lamIn_23 V hS) (ltab_cons (lamIn_24 V hS) (ltab_cons (lamIn_25 V hS) (ltab_cons (lamIn_26 V hS) (ltab_cons (lamIn_27 V hS) (ltab_cons (lamIn_28 V hS) (ltab_cons (lamIn_29 V hS) (ltab_cons (lamIn_30 V hS) (ltab_cons (lamIn_31 V hS) (ltab_cons (lamIn_32 V hS) (ltab_cons (lamIn_33 V hS) (ltab_cons (lamIn_34 V hS) (ltab_cons (lamIn_35 V hS) (ltab_cons (lamIn_36 V hS) (ltab_nil)))))))))))))))))))))))))))))))))))))
theorem _law_heard_bd (V : Txt K mg) (hS : SysD base) : BdOk Pr w K mg base 12 "_law_heard" st__law_heard ["call", "e"] [] _law_heard_b := fun fa cdv A outer s H E hg hr => by
  have hN := (sc__law_heard).nd
  exact s_cons (s_try rfl rfl hN (takes_of rfl rfl rfl rfl) (fun W pnn xe tk => s_one (s_expr (e_act (lams_ok V hS) hg (hr.mono (by decide : 11 ≤ 12)) tk rfl (.inl rfl)))) (.named ⟨rfl, rfl, .inl V.h_InvalidLine.choose_spec.1⟩ V.h_InvalidLine.choose_spec.2 rfl rfl (by decide) (su_ret fun a oe cls d pnn hz hf => xp_lst (xa_cons (xp_C pe_str fun _ _ _ => rfl) (xa_cons (xp_repr hr hg hS V.z_repr (xp_fld hz hf V.f_value rfl (.inl rfl))) (xa_cons (xp_and (xp_isi hz V.i_CurveError.choose_spec.2 rfl (.inl rfl) (by rfl) V.z_isinstance (pe_glob (v := .ref V.i_CurveError.choose) rfl V.i_CurveError.choose_spec.1 rfl) (fun _ h => h)) (xp_one (xp_isi hz V.i_ValueError.2 rfl (.inl rfl) (by rfl) V.z_isinstance (pe_bltn (v := .ty "ValueError") rfl V.i_ValueError.1 (by decide +kernel) rfl) (fun _ h => h)))) (xa_nil))))) (.named ⟨rfl, rfl, .inl V.h_InvalidNumber.choose_spec.1⟩ V.h_InvalidNumber.choose_spec.2 rfl rfl (by decide) (su_ret fun a oe cls d pnn hz hf => xp_lst (xa_cons (xp_C pe_str fun _ _ _ => rfl) (xa_cons (xp_repr hr hg hS V.z_repr (xp_fld hz hf V.f_value rfl (.inl rfl))) (xa_cons (xp_isi hz V.i_CurveError.choose_spec.2 rfl (.inl rfl) (by rfl) V.z_isinstance (pe_glob (v := .ref V.i_CurveError.choose) rfl V.i_CurveError.choose_spec.1 rfl) (fun _ h => h)) (xa_nil))))) (.named ⟨rfl, rfl, .inl V.h_ZeroLine.choose_spec.1⟩ V.h_ZeroLine.choose_spec.2 rfl rfl (by decide) (su_ret fun a oe cls d pnn hz hf => xp_lst (xa_cons (xp_C pe_str fun _ _ _ => rfl) (xa_cons (xp_isi hz V.i_StateError.choose_spec.2 rfl (.inl rfl) (by rfl) V.z_isinstance (pe_glob (v := .ref V.i_StateError.choose) rfl V.i_StateError.choose_spec.1 rfl) (fun _ h => h)) (xa_nil)))) (.named ⟨rfl, rfl, .inl V.h_TooMany.choose_spec.1⟩ V.h_TooMany.choose_spec.2 rfl rfl (by decide) (su_ret fun a oe cls d pnn hz hf => xp_lst (xa_cons (xp_fld hz hf V.f_what rfl (.inl rfl)) (xa_cons (xp_fld hz hf V.f_limit rfl (.inl rfl)) (xa_cons (xp_isi hz V.i_LimitError.choose_spec.2 rfl (.inl rfl) (by rfl) V.z_isinstance (pe_glob (v := .ref V.i_LimitError.choose) rfl V.i_LimitError.choose_spec.1 rfl) (fun _ h => h)) (xa_nil))))) (ClsS.nil)))))) (s_one (s_ret (e_P (p_F (f_lst (ad_cons (p_str) ad_nil))))))
theorem _law_heard_ok (V : Txt K mg) (hS : SysD base) : FnM Pr w K mg base 13 "_law_heard" st__law_heard ["call"] _law_heard_m := FnM.by V.d__law_heard sc__law_heard (_law_heard_bd V hS)
theorem sc__law_are : FnScope ["calls", "due", "call"] ["calls", "due"] (defScope st__law_are) := ⟨rfl, rfl, rfl, by decide +kernel, rfl, by decide +kernel, by decide +kernel⟩
theorem _law_are_bd (V : Txt K mg) (hS : SysD base) : BdOk Pr w K mg base 13 "_law_are" st__law_are ["calls", "due", "call"] [] _law_are_b := fun fa cdv A outer s H E hg hr => by
  have hN := (sc__law_are).nd
  exact s_one (s_ret (e_P (p_eq hr (b_P (p_F (f_comp (own := [("call", 2)]) rfl hN (iG_seq (p_V rfl (.inl rfl))) (blkOk_by (own := [("call", 2)]) rfl) (fun _ _ _ _ _ => g_V hN rfl (by first | exact .inl rfl | exact .inr rfl) (by first | exact .inr rfl | exact .inl rfl)) (fun _ _ _ _ _ => (ts_one (q_ne hr (b_P (p_fn (_law_heard_ok V hS) bp__law_heard hg hr (by rfl) (ad_cons (p_V rfl (.inl rfl)) ad_nil))) (b_P (p_V rfl (by first | exact .inr (.inr rfl) | exact .inr (.inl rfl) | exact .inl rfl)))))) (fun _ _ _ _ _ => p_V rfl (.inl rfl)) (by decide)))) (b_P (p_F (f_lst (ad_nil)))))))
theorem _law_are_ok (V : Txt K mg) (hS : SysD base) : FnM Pr w K mg base 14 "_law_are" st__law_are ["calls", "due"] _law_are_m := FnM.by V.d__law_are sc__law_are (_law_are_bd V hS)
theorem sc__law_lines_right : FnScope ["odd", "line", "calls", "%t"] ["odd", "line"] (defScope st__law_lines_right) := ⟨rfl, rfl, rfl, by decide +kernel, rfl, by decide +kernel, by decide +kernel⟩
theorem _law_lines_right_bd (V : Txt K mg) (hS : SysD base) (HT : TT K mg base) : BdOkT Pr w K mg base 14 "_law_lines_right" st__law_lines_right ["odd", "line", "calls", "%t"] (3 :: []) _law_lines_right_b := fun fa cdv A outer s H E hT hg hr => by
  have hN := (sc__law_lines_right).nd
  exact ss_blk0 (ℓ := ⟨0, "_law_lines_right", [0, 0, 0]⟩) (b := defBody st__law_lines_right) (t := ls_0) (site_0.tx V.m__law_lines_right (lamHd_of hT) rfl) hN rfl (.inl rfl) (by decide) (ss_blkA (ℓ := ⟨1, "_law_lines_right", [1, 0, 1]⟩) (b := defBody st__law_lines_right) (t := ls_1) (site_1.tx V.m__law_lines_right (lamHd_of hT) rfl) rfl (.inl rfl) (by decide) (ss_blkA (ℓ := ⟨2, "_law_lines_right", [2, 0, 1]⟩) (b := defBody st__law_lines_right) (t := ls_2) (site_2.tx V.m__law_lines_right (lamHd_of hT) rfl) rfl (.inl rfl) (by decide) (ss_blkA (ℓ := ⟨3, "_law_lines_right", [3, 0, 1]⟩) (b := defBody st__law_lines_right) (t := ls_3) (site_3.tx V.m__law_lines_right (lamHd_of hT) rfl) rfl (.inl rfl) (by decide) (ss_blkA (ℓ := ⟨4, "_law_lines_right", [4, 0, 1]⟩) (b := defBody st__law_lines_right) (t := ls_4) (site_4.tx V.m__law_lines_right (lamHd_of hT) rfl) rfl (.inl rfl) (by decide) (ss_blkA (ℓ := ⟨5, "_law_lines_right", [5, 0, 1]⟩) (b := defBody st__law_lines_right) (t := ls_5) (site_5.tx V.m__law_lines_right (lamHd_of hT) rfl) rfl (.inl rfl) (by decide) (ss_blkA (ℓ := ⟨6, "_law_lines_right", [6, 0, 1]⟩) (b := defBody st__law_lines_right) (t := ls_6) (site_6.tx V.m__law_lines_right (lamHd_of hT) rfl) rfl (.inl rfl) (by decide) (ss_blkA (ℓ := ⟨7, "_law_lines_right", [7, 0, 1]⟩) (b := defBody st__law_lines_right) (t := ls_7) (site_7.tx V.m__law_lines_right (lamHd_of hT) rfl) rfl (.inl rfl) (by decide) (ss_blkA (ℓ := ⟨8, "_law_lines_right", [8, 0, 1]⟩) (b := defBody st__law_lines_right) (t := ls_8) (site_8.tx V.m__law_lines_right (lamHd_of hT) rfl) rfl (.inl rfl) (by decide) (ss_blkA (ℓ := ⟨9, "_law_lines_right", [9, 0, 1]⟩) (b := defBody st__law_lines_right) (t := ls_9) (site_9.tx V.m__law_lines_right (lamHd_of hT) rfl) rfl (.inl rfl) (by decide) (ss_blkA (ℓ := ⟨10, "_law_lines_right", [10, 0, 1]⟩) (b := defBody st__law_lines_right) (t := ls_10) (site_10.tx V.m__law_lines_right (lamHd_of hT) rfl) rfl (.inl rfl) (by decide) (ss_blkA (ℓ := ⟨11, "_law_lines_right", [11, 0, 1]⟩) (b := defBody st__law_lines_right) (t := ls_11) (site_11.tx V.m__law_lines_right (lamHd_of hT) rfl) rfl (.inl rfl) (by decide) (ss_blkA (ℓ := ⟨12, "_law_lines_right", [12, 0, 1]⟩) (b := defBody st__law_lines_right) (t := ls_12) (site_12.tx V.m__law_lines_right (lamHd_of hT) rfl) rfl (.inl rfl) (by decide) (ss_blkA (ℓ := ⟨13, "_law_lines_right", [13, 0, 1]⟩) (b := defBody st__law_lines_right) (t := ls_13) (site_13.tx V.m__law_lines_right (lamHd_of hT) rfl) rfl (.inl rfl) (by decide) (ss_blkA (ℓ := ⟨14, "_law_lines_right", [14, 0, 1]⟩) (b := defBody st__law_lines_right) (t := ls_14) (site_14.tx V.m__law_lines_right (lamHd_of hT) rfl) rfl (.inl rfl) (by decide) (ss_blkA (ℓ := ⟨15, "_law_lines_right", [15, 0, 1]⟩) (b := defBody st__law_lines_right) (t := ls_15) (site_15.tx V.m__law_lines_right (lamHd_of hT) rfl) rfl (.inl rfl) (by decide) (ss_blkA (ℓ := ⟨16, "_law_lines_right", [16, 0, 1]⟩) (b := defBody st__law_lines_right) (t := ls_16) (site_16.tx V.m__law_lines_right (lamHd_of hT) rfl) rfl (.inl rfl) (by decide) (ss_blkA (ℓ := ⟨17, "_law_lines_right", [17, 0, 1]⟩) (b := defBody st__law_lines_right) (t := ls_17) (site_17.tx V.m__law_lines_right (lamHd_of hT) rfl) rfl (.inl rfl) (by decide) (ss_blkA (ℓ := ⟨18, "_law_lines_right", [18, 0, 1]⟩) (b := defBody st__law_lines_right) (t := ls_18) (site_18.tx V.m__law_lines_right (lamHd_of hT) rfl) rfl (.inl rfl) (by decide) (ss_blkE (ssp_one (sp_ret (pe_callL (ls := [(⟨0, "_law_lines_right", [0, 0, 0]⟩, [0]), (⟨1, "_law_lines_right", [1, 0, 1]⟩, [0]), (⟨2, "_law_lines_right", [2, 0, 1]⟩, [0]), (⟨3, "_law_lines_right", [3, 0, 1]⟩, [0]), (⟨4, "_law_lines_right", [4, 0, 1]⟩, [0]), (⟨5, "_law_lines_right", [5, 0, 1]⟩, [0, 1]), (⟨6, "_law_lines_right", [6, 0, 1]⟩, [0, 1]), (⟨7, "_law_lines_right", [7, 0, 1]⟩, [0, 1]), (⟨8, "_law_lines_right", [8, 0, 1]⟩, [0, 1]), (⟨9, "_law_lines_right", [9, 0, 1]⟩, [0]), (⟨10, "_law_lines_right", [10, 0, 1]⟩, [0]), (⟨11, "_law_lines_right", [11, 0, 1]⟩, [0, 1]), (⟨12, "_law_lines_right", [12, 0, 1]⟩, [0, 1]), (⟨13, "_law_lines_right", [13, 0, 1]⟩, [0, 1]), (⟨14, "_law_lines_right", [14, 0, 1]⟩, [0]), (⟨15, "_law_lines_right", [15, 0, 1]⟩, [0]), (⟨16, "_law_lines_right", [16, 0, 1]⟩, [0]), (⟨17, "_law_lines_right", [17, 0, 1]⟩, [0]), (⟨18, "_law_lines_right", [18, 0, 1]⟩, [0])]) (pe_nameL rfl (.inl rfl)) (ls_cons ⟨_, _, site_0.site V.m__law_lines_right⟩ (ls_cons ⟨_, _, site_1.site V.m__law_lines_right⟩ (ls_cons ⟨_, _, site_2.site V.m__law_lines_right⟩ (ls_cons ⟨_, _, site_3.site V.m__law_lines_right⟩ (ls_cons ⟨_, _, site_4.site V.m__law_lines_right⟩ (ls_cons ⟨_, _, site_5.site V.m__law_lines_right⟩ (ls_cons ⟨_, _, site_6.site V.m__law_lines_right⟩ (ls_cons ⟨_, _, site_7.site V.m__law_lines_right⟩ (ls_cons ⟨_, _, site_8.site V.m__law_lines_right⟩ (ls_cons ⟨_, _, site_9.site V.m__law_lines_right⟩ (ls_cons ⟨_, _, site_10.site V.m__law_lines_right⟩ (ls_cons ⟨_, _, site_11.site V.m__law_lines_right⟩ (ls_cons ⟨_, _, site_12.site V.m__law_lines_right⟩ (ls_cons ⟨_, _, site_13.site V.m__law_lines_right⟩ (ls_cons ⟨_, _, site_14.site V.m__law_lines_right⟩ (ls_cons ⟨_, _, site_15.site V.m__law_lines_right⟩ (ls_cons ⟨_, _, site_16.site V.m__law_lines_right⟩ (ls_cons ⟨_, _, site_17.site V.m__law_lines_right⟩ (ls_cons ⟨_, _, site_18.site V.m__law_lines_right⟩ ls_nil))))))))))))))))))) (fun _ => rfl) (_law_are_ok V hS) bp__law_are hg hr (by rfl) (am_cons (e_P (p_F (f_lst (ad_cons (p_str) (ad_cons (p_repr2 V.z_repr hr hg hS (ab_cons (b_P (p_V rfl (.inr (.inl rfl)))) ab_nil)) (ad_cons (p_bl) ad_nil)))))) am_nil)))))))))))))))))))))))
theorem _law_lines_right_ok (V : Txt K mg) (hS : SysD base) (HT : TT K mg base) : FnT Pr w K mg base 15 "_law_lines_right" st__law_lines_right ["odd", "line"] _law_lines_right_m := FnT.byT V.d__law_lines_right HT.t__law_lines_right sc__law_lines_right rfl (by unfold Vis; decide +kernel) (by decide) (_law_lines_right_bd V hS HT)
theorem sc__law_numbers_right : FnScope ["odd", "line", "calls", "%t"] ["odd", "line"] (defScope st__law_numbers_right) := ⟨rfl, rfl, rfl, by decide +kernel, rfl, by decide +kernel, by decide +kernel⟩
theorem _law_numbers_right_bd (V : Txt K mg) (hS : SysD base) (HT : TT K mg base) : BdOkT Pr w K mg base 14 "_law_numbers_right" st__law_numbers_right ["odd", "line", "calls", "%t"] (3 :: []) _law_numbers_right_b := fun fa cdv A outer s H E hT hg hr => by
  have hN := (sc__law_numbers_right).nd
  exact ss_blk0 (ℓ := ⟨19, "_law_numbers_right", [0, 0, 0]⟩) (b := defBody st__law_numbers_right) (t := ls_19) (site_19.tx V.m__law_numbers_right (lamHd_of hT) rfl) hN rfl (.inl rfl) (by decide) (ss_blkA (ℓ := ⟨20, "_law_numbers_right", [1, 0, 1]⟩) (b := defBody st__law_numbers_right) (t := ls_20) (site_20.tx V.m__law_numbers_right (lamHd_of hT) rfl) rfl (.inl rfl) (by decide) (ss_blkA (ℓ := ⟨21, "_law_numbers_right", [2, 0, 1]⟩) (b := defBody st__law_numbers_right) (t := ls_21) (site_21.tx V.m__law_numbers_right (lamHd_of hT) rfl) rfl (.inl rfl) (by decide) (ss_blkA (ℓ := ⟨22, "_law_numbers_right", [3, 0, 1]⟩) (b := defBody st__law_numbers_right) (t := ls_22) (site_22.tx V.m__law_numbers_right (lamHd_of hT) rfl) rfl (.inl rfl) (by decide) (ss_blkE (ssp_one (sp_ret (pe_callL (ls := [(⟨19, "_law_numbers_right", [0, 0, 0]⟩, [0, 1]), (⟨20, "_law_numbers_right", [1, 0, 1]⟩, [0]), (⟨21, "_law_numbers_right", [2, 0, 1]⟩, [0]), (⟨22, "_law_numbers_right", [3, 0, 1]⟩, [0])]) (pe_nameL rfl (.inl rfl)) (ls_cons ⟨_, _, site_19.site V.m__law_numbers_right⟩ (ls_cons ⟨_, _, site_20.site V.m__law_numbers_right⟩ (ls_cons ⟨_, _, site_21.site V.m__law_numbers_right⟩ (ls_cons ⟨_, _, site_22.site V.m__law_numbers_right⟩ ls_nil)))) (fun _ => rfl) (_law_are_ok V hS) bp__law_are hg hr (by rfl) (am_cons (e_P (p_F (f_lst (ad_cons (p_str) (ad_cons (p_repr2 V.z_repr hr hg hS (ab_cons (b_P (p_V rfl (.inr (.inl rfl)))) ab_nil)) (ad_cons (p_bl) ad_nil)))))) am_nil))))))))
theorem _law_numbers_right_ok (V : Txt K mg) (hS : SysD base) (HT : TT K mg base) : FnT Pr w K mg base 15 "_law_numbers_right" st__law_numbers_right ["odd", "line"] _law_numbers_right_m := FnT.byT V.d__law_numbers_right HT.t__law_numbers_right sc__law_numbers_right rfl (by unfold Vis; decide +kernel) (by decide) (_law_numbers_right_bd V hS HT)
theorem sc__law_behind_right : FnScope ["pot", "line", "calls", "odd", "short", "one", "other", "more", "%t"] ["pot", "line"] (defScope st__law_behind_right) := ⟨rfl, rfl, rfl, by decide +kernel, rfl, by decide +kernel, by decide +kernel⟩
theorem _law_behind_right_bd (V : Txt K mg) (hS : SysD base) (HT : TT K mg base) : BdOkT Pr w K mg base 14 "_law_behind_right" st__law_behind_right ["pot", "line", "calls", "odd", "short", "one", "other", "more", "%t"] (8 :: [0]) _law_behind_right_b := fun fa cdv A outer s H E hT hg hr => by
  have hN := (sc__law_behind_right).nd
  exact ss_blk0 (ℓ := ⟨23, "_law_behind_right", [0, 0, 0]⟩) (b := defBody st__law_behind_right) (t := ls_23) (site_23.tx V.m__law_behind_right (lamHd_of hT) rfl) hN rfl (.inl rfl) (by decide) (ss_blkA (ℓ := ⟨24, "_law_behind_right", [1, 0, 1]⟩) (b := defBody st__law_behind_right) (t := ls_24) (site_24.tx V.m__law_behind_right (lamHd_of hT) rfl) rfl (.inl rfl) (by decide) (ss_blkA (ℓ := ⟨25, "_law_behind_right", [2, 0, 1]⟩) (b := defBody st__law_behind_right) (t := ls_25) (site_25.tx V.m__law_behind_right (lamHd_of hT) rfl) rfl (.inl rfl) (by decide) (ss_blkA (ℓ := ⟨26, "_law_behind_right", [3, 0, 1]⟩) (b := defBody st__law_behind_right) (t := ls_26) (site_26.tx V.m__law_behind_right (lamHd_of hT) rfl) rfl (.inl rfl) (by decide) (ss_blkA (ℓ := ⟨27, "_law_behind_right", [4, 0, 1]⟩) (b := defBody st__law_behind_right) (t := ls_27) (site_27.tx V.m__law_behind_right (lamHd_of hT) rfl) rfl (.inl rfl) (by decide) (ss_blkA (ℓ := ⟨28, "_law_behind_right", [5, 0, 1]⟩) (b := defBody st__law_behind_right) (t := ls_28) (site_28.tx V.m__law_behind_right (lamHd_of hT) rfl) rfl (.inl rfl) (by decide) (ss_blkE (ssp_cons (sp_if (tp_not (tp_val (pe_callL (ls := [(⟨23, "_law_behind_right", [0, 0, 0]⟩, [1]), (⟨24, "_law_behind_right", [1, 0, 1]⟩, []), (⟨25, "_law_behind_right", [2, 0, 1]⟩, [1]), (⟨26, "_law_behind_right", [3, 0, 1]⟩, []), (⟨27, "_law_behind_right", [4, 0, 1]⟩, []), (⟨28, "_law_behind_right", [5, 0, 1]⟩, [])]) (pe_nameL rfl (.inl rfl)) (ls_cons ⟨_, _, site_23.site V.m__law_behind_right⟩ (ls_cons ⟨_, _, site_24.site V.m__law_behind_right⟩ (ls_cons ⟨_, _, site_25.site V.m__law_behind_right⟩ (ls_cons ⟨_, _, site_26.site V.m__law_behind_right⟩ (ls_cons ⟨_, _, site_27.site V.m__law_behind_right⟩ (ls_cons ⟨_, _, site_28.site V.m__law_behind_right⟩ ls_nil)))))) (fun _ => rfl) (_law_are_ok V hS) bp__law_are hg hr (by rfl) (am_cons (e_P (p_F (f_lst (ad_cons (p_str) (ad_cons (p_bl) ad_nil))))) am_nil)))) (s_one (s_ret (e_P (p_bl)))) (s_nil)) (s_cons (s_for (passes_of rfl) rfl (iD_seq (e_P (p_F (f_lst (ad_cons (p_F (f_lst (ad_nil))) (ad_cons (p_F (f_lst (ad_cons (p_int) ad_nil))) (ad_cons (p_tup (ad_cons (p_int) ad_nil)) (ad_cons (p_F (f_lst (ad_cons (p_int) (ad_cons (p_int) ad_nil)))) (ad_cons (p_F (f_lst (ad_cons (p_int) (ad_cons (p_int) (ad_cons (p_int) ad_nil))))) (ad_cons (p_F (f_lst (ad_cons (p_int) (ad_cons (p_int) (ad_cons (p_int) (ad_cons (p_int) (ad_cons (p_int) (ad_cons (p_int) ad_nil)))))))) (ad_cons (p_F (f_lst (ad_cons (p_int) (ad_cons (p_int) (ad_cons (p_neg (b_P (p_int))) ad_nil))))) (ad_cons (p_tup (ad_cons (p_int) (ad_cons (p_int) (ad_cons (p_int) (ad_cons (p_int) (ad_cons (p_neg (b_P (p_int))) ad_nil)))))) ad_nil)))))))))))) (g_V hN rfl (.inr rfl) (.inl rfl)) (s_one (s_if (t_cmp (op_neD hr.units) pure_ne (nomark _) (e_tab (pe_callL (ls := [(⟨29, "_law_behind_right", [7, 1, 0, 0, 0, 1]⟩, [3])]) (pe_lamX (g := 8) (ℓ := ⟨29, "_law_behind_right", [7, 1, 0, 0, 0, 1]⟩) (b := defBody st__law_behind_right) (t := ls_29) (site_29.tx V.m__law_behind_right (lamHd_of hT) rfl)) (ls_cons ⟨_, _, site_29.site V.m__law_behind_right⟩ ls_nil) (fun _ => rfl) (_law_heard_ok V hS) bp__law_heard hg (hr.mono (by decide : 13 ≤ 14)) (by rfl) (am_nil))) (e_P (p_F (f_lst (ad_cons (p_str) (ad_cons (p_repr2 V.z_repr hr hg hS (ab_cons (b_P (p_V rfl (.inr (.inl rfl)))) ab_nil)) (ad_cons (p_bl) ad_nil))))))) (s_one (s_ret (e_P (p_bl)))) (s_nil)))) (s_cons (s_set (i := 4) hN rfl (.inl rfl) (e_op (op_add.or op_add_str) pure_add (e_P (p_int)) (e_fnL (_law_draw_ok V hS) bp__law_draw hg (hr.mono (by decide : 1 ≤ 14)) (takes_of rfl rfl rfl rfl) (by rfl) rfl (.inl rfl) (am_cons (e_P (p_int)) am_nil)))) (s_cons (s_parT3 (i := 5) (j := 6) (l := 7) hN rfl rfl rfl (.inr rfl) (.inr rfl) (.inr rfl) (am_cons (e_P (p_F (f_cat (l_F (f_rep (l_F (f_lst (ad_cons (p_int) ad_nil))) (b_P (p_V rfl (.inl rfl))))) (l_F (f_lst (ad_cons (p_int) ad_nil)))))) (am_cons (e_P (p_F (f_cat (l_F (f_rep (l_F (f_lst (ad_cons (p_int) ad_nil))) (b_P (p_sub (b_P (p_int)) (b_P (p_V rfl (.inl rfl))))))) (l_F (f_lst (ad_cons (p_neg (b_P (p_int))) ad_nil)))))) (am_cons (e_P (p_F (f_cat (l_F (f_rep (l_F (f_lst (ad_cons (p_int) ad_nil))) (b_P (p_sub (b_P (p_int)) (b_P (p_V rfl (.inl rfl))))))) (l_F (f_lst (ad_cons (p_int) ad_nil)))))) am_nil)))) (ss_blk0 (ℓ := ⟨30, "_law_behind_right", [10, 0, 0]⟩) (b := defBody st__law_behind_right) (t := ls_30) (site_30.tx V.m__law_behind_right (lamHd_of hT) rfl) hN rfl (.inl rfl) (by decide) (ss_blkA (ℓ := ⟨31, "_law_behind_right", [11, 0, 1]⟩) (b := defBody st__law_behind_right) (t := ls_31) (site_31.tx V.m__law_behind_right (lamHd_of hT) rfl) rfl (.inl rfl) (by decide) (ss_blkE (ssp_cons (sp_if (tp_not (tp_val (pe_callL (ls := [(⟨30, "_law_behind_right", [10, 0, 0]⟩, [5, 7]), (⟨31, "_law_behind_right", [11, 0, 1]⟩, [])]) (pe_nameL rfl (.inl rfl)) (ls_cons ⟨_, _, site_30.site V.m__law_behind_right⟩ (ls_cons ⟨_, _, site_31.site V.m__law_behind_right⟩ ls_nil)) (fun _ => rfl) (_law_are_ok V hS) bp__law_are hg hr (by rfl) (am_cons (e_P (p_F (f_lst (ad_cons (p_str) (ad_cons (p_int) (ad_cons (p_bl) ad_nil)))))) am_nil)))) (s_one (s_ret (e_P (p_bl)))) (s_nil)) (ss_blk0 (ℓ := ⟨32, "_law_behind_right", [13, 0, 0]⟩) (b := defBody st__law_behind_right) (t := ls_32) (site_32.tx V.m__law_behind_right (lamHd_of hT) rfl) hN rfl (.inl rfl) (by decide) (ss_blkA (ℓ := ⟨33, "_law_behind_right", [14, 0, 1]⟩) (b := defBody st__law_behind_right) (t := ls_33) (site_33.tx V.m__law_behind_right (lamHd_of hT) rfl) rfl (.inl rfl) (by decide) (ss_blkA (ℓ := ⟨34, "_law_behind_right", [15, 0, 1]⟩) (b := defBody st__law_behind_right) (t := ls_34) (site_34.tx V.m__law_behind_right (lamHd_of hT) rfl) rfl (.inl rfl) (by decide) (ss_blkA (ℓ := ⟨35, "_law_behind_right", [16, 0, 1]⟩) (b := defBody st__law_behind_right) (t := ls_35) (site_35.tx V.m__law_behind_right (lamHd_of hT) rfl) rfl (.inl rfl) (by decide) (ss_blkA (ℓ := ⟨36, "_law_behind_right", [17, 0, 1]⟩) (b := defBody st__law_behind_right) (t := ls_36) (site_36.tx V.m__law_behind_right (lamHd_of hT) rfl) rfl (.inl rfl) (by decide) (ss_blkE (ssp_one (sp_ret (pe_callL (ls := [(⟨32, "_law_behind_right", [13, 0, 0]⟩, [6, 5]), (⟨33, "_law_behind_right", [14, 0, 1]⟩, []), (⟨34, "_law_behind_right", [15, 0, 1]⟩, []), (⟨35, "_law_behind_right", [16, 0, 1]⟩, [1]), (⟨36, "_law_behind_right", [17, 0, 1]⟩, [])]) (pe_nameL rfl (.inl rfl)) (ls_cons ⟨_, _, site_32.site V.m__law_behind_right⟩ (ls_cons ⟨_, _, site_33.site V.m__law_behind_right⟩ (ls_cons ⟨_, _, site_34.site V.m__law_behind_right⟩ (ls_cons ⟨_, _, site_35.site V.m__law_behind_right⟩ (ls_cons ⟨_, _, site_36.site V.m__law_behind_right⟩ ls_nil))))) (fun _ => rfl) (_law_are_ok V hS) bp__law_are hg hr (by rfl) (am_cons (e_P (p_F (f_lst (ad_cons (p_str) ad_nil)))) am_nil))))))))))))))))))))))))
theorem _law_behind_right_ok (V : Txt K mg) (hS : SysD base) (HT : TT K mg base) : FnT Pr w K mg base 15 "_law_behind_right" st__law_behind_right ["pot", "line"] _law_behind_right_m := FnT.byT V.d__law_behind_right HT.t__law_behind_right sc__law_behind_right rfl (by unfold Vis; decide +kernel) (by decide) (_law_behind_right_bd V hS HT)
theorem sc__law_right : FnScope ["pot", "line", "odd", "%t"] ["pot"] (defScope st__law_right) := ⟨rfl, rfl, rfl, by decide +kernel, rfl, by decide +kernel, by decide +kernel⟩
theorem _law_right_bd (V : Txt K mg) (hS : SysD base) (HT : TT K mg base) : BdOk Pr w K mg base 15 "_law_right" st__law_right ["pot", "line", "odd", "%t"] (3 :: [0]) _law_right_b := fun fa cdv A outer s H E hg hr => by
  have hN := (sc__law_right).nd
  exact s_cons (s_set (i := 1) hN rfl (.inl rfl) (e_frz (e_lst (am_cons (e_op (op_sub) pure_sub (e_fnL (_law_draw_ok V hS) bp__law_draw hg (hr.mono (by decide : 1 ≤ 15)) (takes_of rfl rfl rfl rfl) (by rfl) rfl (.inl rfl) (am_cons (e_P (p_int)) am_nil)) (e_P (p_int))) (am_cons (e_op (op_add.or op_add_str) pure_add (e_P (p_int)) (e_fnL (_law_draw_ok V hS) bp__law_draw hg (hr.mono (by decide : 1 ≤ 15)) (takes_of rfl rfl rfl rfl) (by rfl) rfl (.inl rfl) (am_cons (e_P (p_int)) am_nil))) am_nil))))) (s_cons (s_for (passes_of rfl) rfl (iD_seq (e_P (p_F (f_lst (ad_cons (p_non) (ad_cons (p_int) (ad_cons (p_int) (ad_cons (p_bl) (ad_cons (p_str) (ad_cons (p_str) (ad_cons (p_dct0) (ad_cons (p_F (f_lst (ad_cons (p_int) ad_nil))) (ad_cons (p_F (f_lst (ad_cons (p_int) (ad_cons (p_int) ad_nil)))) (ad_cons (p_tup (ad_cons (p_int) ad_nil)) (ad_cons (p_F (f_lst (ad_cons (p_bl) ad_nil))) (ad_cons (p_F (f_lst (ad_cons (p_int) (ad_cons (p_bl) ad_nil)))) (ad_cons (p_F (f_lst (ad_cons (p_str) ad_nil))) (ad_cons (p_F (f_lst (ad_cons (p_int) (ad_cons (p_F (f_lst (ad_cons (p_int) ad_nil))) ad_nil)))) (ad_cons (p_F (f_lst (ad_cons (p_non) (ad_cons (p_int) ad_nil)))) (ad_cons (p_F (f_rep (l_F (f_lst (ad_cons (p_int) ad_nil))) (b_P (p_int)))) (ad_cons (p_F (f_lst (ad_cons (p_int) (ad_cons (p_int) (ad_cons (p_non) ad_nil))))) (ad_cons (p_disp (dd_cons (p_int) (p_int) (dd_nil))) ad_nil)))))))))))))))))))))) (g_V hN rfl (.inl rfl) (.inl rfl)) (s_one (s_if (t_not (t_val (e_fnT (g := 3) (_law_lines_right_ok V hS HT) bp__law_lines_right hg hr (takes_of rfl rfl rfl rfl) (by rfl) (am_cons (e_P (p_V rfl (.inl rfl))) (am_cons (e_P (p_V rfl (.inl rfl))) am_nil))))) (s_one (s_ret (e_P (p_bl)))) (s_nil)))) (s_cons (s_for (passes_of rfl) rfl (iD_seq (e_P (p_F (f_lst (ad_cons (p_non) (ad_cons (p_bl) (ad_cons (p_bl) (ad_cons (p_str) (ad_cons (p_F (f_lst (ad_cons (p_int) ad_nil))) (ad_cons (p_tup (ad_nil)) (ad_cons (p_dct0) (ad_cons (p_F (f_lst (ad_cons (p_F (f_lst (ad_cons (p_int) ad_nil))) ad_nil))) ad_nil)))))))))))) (g_V hN rfl (.inl rfl) (.inl rfl)) (s_one (s_if (t_not (t_val (e_fnT (g := 3) (_law_numbers_right_ok V hS HT) bp__law_numbers_right hg hr (takes_of rfl rfl rfl rfl) (by rfl) (am_cons (e_P (p_V rfl (.inl rfl))) (am_cons (e_P (p_V rfl (.inl rfl))) am_nil))))) (s_one (s_ret (e_P (p_bl)))) (s_nil)))) (s_one (s_ret (e_fnT (g := 3) (_law_behind_right_ok V hS HT) bp__law_behind_right hg hr (takes_of rfl rfl rfl rfl) (by rfl) (am_cons (e_Mv rfl (.inl rfl)) (am_cons (e_P (p_V rfl (.inl rfl))) am_nil)))))))
theorem _law_right_ok (V : Txt K mg) (hS : SysD base) (HT : TT K mg base) : FnT Pr w K mg base 16 "_law_right" st__law_right ["pot"] _law_right_m := FnT.by V.d__law_right sc__law_right rfl (by unfold Vis; decide +kernel) (by decide) (_law_right_bd V hS HT)
theorem sc_law : FnScope ["script", "%t"] ["script"] (defScope st_law) := ⟨rfl, rfl, rfl, by decide +kernel, rfl, by decide +kernel, by decide +kernel⟩
theorem law_bd (V : Txt K mg) (hS : SysD base) (HT : TT K mg base) : BdOk Pr w K mg base 16 "law" st_law ["script", "%t"] (1 :: []) law_b := fun fa cdv A outer s H E hg hr => by
  have hN := (sc_law).nd
  exact s_one (s_ret (e_fnT (g := 1) (_law_right_ok V hS HT) bp__law_right hg hr (takes_of rfl rfl rfl rfl) (by rfl) (am_cons (e_fnO (_law_pot_ok V hS) bp__law_pot hg (hr.mono (by decide : 1 ≤ 16)) (takes_of rfl rfl rfl rfl) (by rfl) (am_cons (e_P (p_V rfl (.inl rfl))) (am_cons (e_P (p_int)) am_nil))) am_nil)))
end
end k10
namespace k10
open PySem PySem.Spec PyProof.Rows L2 PL
def qs : List Str := ["_law_lines_right", "_law_numbers_right", "_law_behind_right"]
def r0 : SS := sSet 1 (eFrz (eLst [eOp subI (eFnL _law_draw_m 0 [eP (pK (.int 9))]) (eP (pK (.int 4))), eOp addI (eP (pK (.int 1))) (eFnL _law_draw_m 0 [eP (pK (.int 5))])]))
def r1 : SS := sFor (mSq (eP (pF (evPs [pK .non, pK (.int 0), pK (.int 7), pK (.bl true), pK (.str ""), pK (.str "12"), pK (.dct []), pF (evPs [pK (.int 0)]), pF (evPs [pK (.int 1), pK (.int 0)]), pTup [pK (.int 0)], pF (evPs [pK (.bl true)]), pF (evPs [pK (.int 1), pK (.bl false)]), pF (evPs [pK (.str "1")]), pF (evPs [pK (.int 1), pF (evPs [pK (.int 1)])]), pF (evPs [pK .non, pK (.int 1)]), pF (fRep (evPs [pK (.int 1)]) (pK (.int 14))), pF (evPs [pK (.int 1), pK (.int 2), pK .non]), pDisp [(pK (.int 1), pK (.int 1))]])))) (gV false 2) (sIf (tNot (tOfE (eFnT _law_lines_right_m 3 [eP (pV 2), eP (pV 1)]))) (sRet (eP (pK (.bl false)))) (sNx))
def r2 : SS := sFor (mSq (eP (pF (evPs [pK .non, pK (.bl true), pK (.bl false), pK (.str "4"), pF (evPs [pK (.int 4)]), pTup [], pK (.dct []), pF (evPs [pF (evPs [pK (.int 1)])])])))) (gV false 2) (sIf (tNot (tOfE (eFnT _law_numbers_right_m 3 [eP (pV 2), eP (pV 1)]))) (sRet (eP (pK (.bl false)))) (sNx))
def r3 : SS := sRet (eFnT _law_behind_right_m 3 [eMv 0, eP (pV 1)])
theorem right_b : _law_right_b = sSeq r0 (sSeq r1 (sSeq r2 r3)) := rfl
def b0 : SS := sIf (tNot (tOfE (eCallL _law_are_m false [(⟨23, "_law_behind_right", [0, 0, 0]⟩, [1]), (⟨24, "_law_behind_right", [1, 0, 1]⟩, []), (⟨25, "_law_behind_right", [2, 0, 1]⟩, [1]), (⟨26, "_law_behind_right", [3, 0, 1]⟩, []), (⟨27, "_law_behind_right", [4, 0, 1]⟩, []), (⟨28, "_law_behind_right", [5, 0, 1]⟩, [])] [eP (pF (evPs [pK (.str "zero"), pK (.bl true)]))]))) (sRet (eP (pK (.bl false)))) (sNx)
def b1 : SS := sFor (mSq (eP (pF (evPs [pF (evPs []), pF (evPs [pK (.int 1)]), pTup [pK (.int 7)], pF (evPs [pK (.int 1), pK (.int 2)]), pF (evPs [pK (.int 0), pK (.int 0), pK (.int 3)]), pF (evPs [pK (.int 1), pK (.int 0), pK (.int 0), pK (.int 0), pK (.int 0), pK (.int 1)]), pF (evPs [pK (.int 3), pK (.int 0), pNeg (pK (.int 1))]), pTup [pK (.int 1), pK (.int 1), pK (.int 1), pK (.int 1), pNeg (pK (.int 1))]])))) (gV false 3) (sIf (tOfE (eOp neV' (eTab 8 "_law_behind_right" (eCallL _law_heard_m true [(⟨29, "_law_behind_right", [7, 1, 0, 0, 0, 1]⟩, [3])] [])) (eP (pF (evPs [pK (.str "line"), pCall reprF2 [pV 3], pK (.bl true)]))))) (sRet (eP (pK (.bl false)))) (sNx))
def b2 : SS := sSet 4 (eOp addI (eP (pK (.int 1))) (eFnL _law_draw_m 0 [eP (pK (.int 12))]))
def b3 : SS := sSeq (sPar [5, 6, 7] [eP (pF (fCat (fRep (evPs [pK (.int 0)]) (pV 4)) (evPs [pK (.int 1)]))), eP (pF (fCat (fRep (evPs [pK (.int 0)]) (pOp subI (pK (.int 12)) (pV 4))) (evPs [pNeg (pK (.int 2))]))), eP (pF (fCat (fRep (evPs [pK (.int 1)]) (pOp subI (pK (.int 13)) (pV 4))) (evPs [pK (.int 3)])))]) (sBlk 8 2 "_law_behind_right" (sSeq (sIf (tNot (tOfE (eCallL _law_are_m false [(⟨30, "_law_behind_right", [10, 0, 0]⟩, [5, 7]), (⟨31, "_law_behind_right", [11, 0, 1]⟩, [])] [eP (pF (evPs [pK (.str "degree"), pK (.int 12), pK (.bl true)]))]))) (sRet (eP (pK (.bl false)))) (sNx)) (sBlk 8 2 "_law_behind_right" (sRet (eCallL _law_are_m false [(⟨32, "_law_behind_right", [13, 0, 0]⟩, [6, 5]), (⟨33, "_law_behind_right", [14, 0, 1]⟩, []), (⟨34, "_law_behind_right", [15, 0, 1]⟩, []), (⟨35, "_law_behind_right", [16, 0, 1]⟩, [1]), (⟨36, "_law_behind_right", [17, 0, 1]⟩, [])] [eP (pF (evPs [pK (.str "let")]))])))))
theorem behind_b : _law_behind_right_b = sBlk 8 2 "_law_behind_right" (sSeq b0 (sSeq b1 (sSeq b2 b3))) := rfl
abbrev lineC (a : Int) (k : Nat) : C := .frz (.lst [.int a, .int (.ofNat (k + 1))])
abbrev oddA : C := .frz ((pDisp [(pK (.int 1), pK (.int 1))] []).getD .non)
abbrev oddB : C := .frz (.lst [.lst [.int 1]])
abbrev oddC : C := .frz (.tup [.int 1, .int 1, .int 1, .int 1, .int (-1)])
def okR (o : SOut) : Bool := match o with
  | .rt c e => (match c.toD with
    | .bl true => (match e[8]? with
      | some (some _) => true
      | _ => false)
    | _ => false)
  | _ => false
theorem loopA (p : Option C) (a : Int) (k : Nat) : r1 [p, some (lineC a k), none, some (.tabs qs)] = .nx [p, some (lineC a k), some oddA, some (.tabs qs)] := by kernel_rfl
theorem loopB (p o : Option C) (a : Int) (k : Nat) : r2 [p, some (lineC a k), o, some (.tabs qs)] = .nx [p, some (lineC a k), some oddB, some (.tabs qs)] := by kernel_rfl
theorem bhA (p : Option C) (a : Int) (k : Nat) : b0 [p, some (lineC a k), none, none, none, none, none, none, some (.tabs qs)] = .nx [p, some (lineC a k), none, none, none, none, none, none, some (.tabs qs)] := by kernel_rfl
theorem bhB (p : Option C) (a : Int) (k : Nat) : b1 [p, some (lineC a k), none, none, none, none, none, none, some (.tabs qs)] = .nx [p, some (lineC a k), none, some oddC, none, none, none, none, some (.tabs qs)] := by kernel_rfl
theorem bhC_1 (p : Option C) (a : Int) (k : Nat) : okR (b3 [p, some (lineC a k), none, some oddC, some (.frz (.int 1)), none, none, none, some (.tabs qs)]) = true := by kernel_rfl
theorem bhC_2 (p : Option C) (a : Int) (k : Nat) : okR (b3 [p, some (lineC a k), none, some oddC, some (.frz (.int 2)), none, none, none, some (.tabs qs)]) = true := by kernel_rfl
theorem bhC_3 (p : Option C) (a : Int) (k : Nat) : okR (b3 [p, some (lineC a k), none, some oddC, some (.frz (.int 3)), none, none, none, some (.tabs qs)]) = true := by kernel_rfl
theorem bhC_4 (p : Option C) (a : Int) (k : Nat) : okR (b3 [p, some (lineC a k), none, some oddC, some (.frz (.int 4)), none, none, none, some (.tabs qs)]) = true := by kernel_rfl
theorem bhC_5 (p : Option C) (a : Int) (k : Nat) : okR (b3 [p, some (lineC a k), none, some oddC, some (.frz (.int 5)), none, none, none, some (.tabs qs)]) = true := by kernel_rfl
theorem bhC_6 (p : Option C) (a : Int) (k : Nat) : okR (b3 [p, some (lineC a k), none, some oddC, some (.frz (.int 6)), none, none, none, some (.tabs qs)]) = true := by kernel_rfl
theorem bhC_7 (p : Option C) (a : Int) (k : Nat) : okR (b3 [p, some (lineC a k), none, some oddC, some (.frz (.int 7)), none, none, none, some (.tabs qs)]) = true := by kernel_rfl
theorem bhC_8 (p : Option C) (a : Int) (k : Nat) : okR (b3 [p, some (lineC a k), none, some oddC, some (.frz (.int 8)), none, none, none, some (.tabs qs)]) = true := by kernel_rfl
theorem bhC_9 (p : Option C) (a : Int) (k : Nat) : okR (b3 [p, some (lineC a k), none, some oddC, some (.frz (.int 9)), none, none, none, some (.tabs qs)]) = true := by kernel_rfl
theorem bhC_10 (p : Option C) (a : Int) (k : Nat) : okR (b3 [p, some (lineC a k), none, some oddC, some (.frz (.int 10)), none, none, none, some (.tabs qs)]) = true := by kernel_rfl
theorem bhC_11 (p : Option C) (a : Int) (k : Nat) : okR (b3 [p, some (lineC a k), none, some oddC, some (.frz (.int 11)), none, none, none, some (.tabs qs)]) = true := by kernel_rfl
theorem bhC_12 (p : Option C) (a : Int) (k : Nat) : okR (b3 [p, some (lineC a k), none, some oddC, some (.frz (.int 12)), none, none, none, some (.tabs qs)]) = true := by kernel_rfl
end k10
namespace k10
open PySem PySem.Spec PyProof.Rows L2 PL
theorem draw_ok : DrawOk _law_draw_m := draw_gen (A := 40014) (B := 1109) (M1 := 2147483563) (M2 := 2147483587) (Dv := 21) (by decide) (by decide) (by decide) (by decide) (by decide) (by decide) (by decide)
theorem pot_ok (ns : List Int) : ∃ c o, _law_pot_m [.frz (.ro ns), .frz (.int 0)] = .ok c o ∧ PotOk c := pot_gen (by decide) (by decide) (by decide) (by decide) (by decide) (by decide) (by decide) (by decide) (by decide) ns
theorem okR_rt {o : SOut} (h : okR o = true) : ∃ c e c1, o = .rt c e ∧ c.toD = .bl true ∧ e[8]? = some (some c1) := by
  unfold okR at h
  split at h
  · rename_i c e
    split at h
    · rename_i hc
      split at h
      · rename_i c1 he
        exact ⟨c, e, c1, rfl, hc, he⟩
      · cases h
    · cases h
  · cases h
theorem bhC (p : Option C) (a : Int) (k : Nat) {r : Int} (h0 : 0 ≤ r) (h1 : r < 12) : okR (b3 [p, some (lineC a k), none, some oddC, some (.frz (.int (1 + r))), none, none, none, some (.tabs qs)]) = true := by
  obtain rfl | rfl | rfl | rfl | rfl | rfl | rfl | rfl | rfl | rfl | rfl | rfl : r = 0 ∨ r = 1 ∨ r = 2 ∨ r = 3 ∨ r = 4 ∨ r = 5 ∨ r = 6 ∨ r = 7 ∨ r = 8 ∨ r = 9 ∨ r = 10 ∨ r = 11 := by omega
  · exact bhC_1 p a k
  · exact bhC_2 p a k
  · exact bhC_3 p a k
  · exact bhC_4 p a k
  · exact bhC_5 p a k
  · exact bhC_6 p a k
  · exact bhC_7 p a k
  · exact bhC_8 p a k
  · exact bhC_9 p a k
  · exact bhC_10 p a k
  · exact bhC_11 p a k
  · exact bhC_12 p a k
theorem nx_seq {f g : SS} {e e1 : Slots} (h : f e = .nx e1) : sSeq f g e = g e1 := by
  unfold sSeq
  rw [h]
theorem behind_ok {c : C} (hc : PotOk c) (a : Int) (k : Nat) : ∃ c' c1 o, _law_behind_right_m [.tabs qs, c, lineC a k] = .ok c' (some c1 :: o) ∧ c'.toD = .bl true := by
  obtain ⟨r, c', d1, h0, h1, _⟩ := draw_p draw_ok (env := [some c, some (lineC a k), none, some oddC, none, none, none, none, some (.tabs qs)]) (p := pK (.int 12)) (s := 12) rfl rfl hc (by decide) (by decide)
  obtain ⟨cc, e, c1, k1, k2, k3⟩ := okR_rt (bhC (some c') a k h0 h1)
  have e2 : b2 [some c, some (lineC a k), none, some oddC, none, none, none, none, some (.tabs qs)] = .nx [some c', some (lineC a k), none, some oddC, some (.frz (.int (1 + r))), none, none, none, some (.tabs qs)] := by
    have z : eOp addI (eP (pK (.int 1))) (eFnL _law_draw_m 0 [eP (pK (.int 12))]) [some c, some (lineC a k), none, some oddC, none, none, none, none, some (.tabs qs)] = .ok (.frz (.int (1 + r))) [some c', some (lineC a k), none, some oddC, none, none, none, none, some (.tabs qs)] := by
      unfold eOp eBin
      rw [show eP (pK (.int 1)) [some c, some (lineC a k), none, some oddC, none, none, none, none, some (.tabs qs)] = .ok (.frz (.int 1)) [some c, some (lineC a k), none, some oddC, none, none, none, none, some (.tabs qs)] from rfl]
      simp only [Out.bind]
      rw [d1]
      rfl
    unfold b2 sSet sOf
    rw [z]
    rfl
  have st : _law_behind_right_b [some c, some (lineC a k), none, none, none, none, none, none, some (.tabs qs)] = .rt cc e := by
    rw [behind_b]
    show sSeq b0 (sSeq b1 (sSeq b2 b3)) [some c, some (lineC a k), none, none, none, none, none, none, some (.tabs qs)] = _
    rw [nx_seq (bhA (some c) a k), nx_seq (bhB (some c) a k), nx_seq e2, k1]
  have m : _law_behind_right_m [.tabs qs, c, lineC a k] = .ok cc (outsT 8 [0] 2 e) := by
    show (match _law_behind_right_b [some c, some (lineC a k), none, none, none, none, none, none, some (.tabs qs)] with | .nx e => _ | .rt c e => _ | .err x e => _ | _ => _) = _
    rw [st]
  unfold outsT at m
  rw [k3] at m
  exact ⟨cc, c1, _, m, k2⟩
theorem right_ok {c : C} (hc : PotOk c) : ∃ c' c1 o, _law_right_m [.tabs qs, c] = .ok c' (some c1 :: o) ∧ c'.toD = .bl true := by
  obtain ⟨r1', p1, d1, h0, h1, hp1⟩ := draw_p draw_ok (env := [some c, none, none, some (.tabs qs)]) (p := pK (.int 9)) (s := 9) rfl rfl hc (by decide) (by decide)
  obtain ⟨r2', p2, d2, h2, h3, hp2⟩ := draw_p draw_ok (env := [some p1, none, none, some (.tabs qs)]) (p := pK (.int 5)) (s := 5) rfl rfl hp1 (by decide) (by decide)
  obtain ⟨n, rfl⟩ := Int.eq_ofNat_of_zero_le h2
  have hn : (1 : Int) + (n : Int) = .ofNat (n + 1) := by show _ = ((n + 1 : Nat) : Int); omega
  have e0 : r0 [some c, none, none, some (.tabs qs)] = .nx [some p2, some (lineC (r1' - 4) n), none, some (.tabs qs)] := by
    have z1 : eOp subI (eFnL _law_draw_m 0 [eP (pK (.int 9))]) (eP (pK (.int 4))) [some c, none, none, some (.tabs qs)] = .ok (.frz (.int (r1' - 4))) [some p1, none, none, some (.tabs qs)] := by
      unfold eOp eBin
      rw [d1]
      rfl
    have z2 : eOp addI (eP (pK (.int 1))) (eFnL _law_draw_m 0 [eP (pK (.int 5))]) [some p1, none, none, some (.tabs qs)] = .ok (.frz (.int (.ofNat (n + 1)))) [some p2, none, none, some (.tabs qs)] := by
      unfold eOp eBin
      rw [show eP (pK (.int 1)) [some p1, none, none, some (.tabs qs)] = .ok (.frz (.int 1)) [some p1, none, none, some (.tabs qs)] from rfl]
      simp only [Out.bind]
      rw [d2, ← hn]
      rfl
    have z3 : eFrz (eLst [eOp subI (eFnL _law_draw_m 0 [eP (pK (.int 9))]) (eP (pK (.int 4))), eOp addI (eP (pK (.int 1))) (eFnL _law_draw_m 0 [eP (pK (.int 5))])]) [some c, none, none, some (.tabs qs)] = .ok (lineC (r1' - 4) n) [some p2, none, none, some (.tabs qs)] := by
      unfold eFrz eLst
      rw [evMs_c, z1]
      simp only [Out.bind]
      rw [evMs_c, z2]
      simp only [Out.bind, evMs_n]
      rfl
    unfold r0 sSet sOf
    rw [z3]
    rfl
  obtain ⟨cc, c1, o, k1, k2⟩ := behind_ok hp2 (r1' - 4) n
  have e3 : r3 [some p2, some (lineC (r1' - 4) n), some oddB, some (.tabs qs)] = .rt (.frz (.bl true)) [none, some (lineC (r1' - 4) n), some oddB, some c1] := by
    unfold r3 sRet sOf eFnT
    have e1 : evMs [eMv 0, eP (pV 1)] [some p2, some (lineC (r1' - 4) n), some oddB, some (.tabs qs)] = .ok [p2, lineC (r1' - 4) n] [none, some (lineC (r1' - 4) n), some oddB, some (.tabs qs)] := rfl
    rw [e1]
    simp [Out.bind, lentT, k1, k2]
  have st : _law_right_b [some c, none, none, some (.tabs qs)] = .rt (.frz (.bl true)) [none, some (lineC (r1' - 4) n), some oddB, some c1] := by
    rw [right_b, nx_seq e0, nx_seq (loopA (some p2) (r1' - 4) n), nx_seq (loopB (some p2) (some oddA) (r1' - 4) n), e3]
  have m : _law_right_m [.tabs qs, c] = .ok (.frz (.bl true)) (outsT 3 [0] 1 [none, some (lineC (r1' - 4) n), some oddB, some c1]) := by
    show (match _law_right_b [some c, none, none, some (.tabs qs)] with | .nx e => _ | .rt c e => _ | .err x e => _ | _ => _) = _
    rw [st]
  exact ⟨_, c1, _, m, rfl⟩
theorem law_true : ∀ ns : List Int, ns.length ≤ 63 → (∀ z ∈ ns, Builtin.Int.intBits z ≤ 1048576) → ∃ c outs, law_m [.tabs qs, .frz (.ro ns)] = .ok c outs ∧ c.toD = .bl true := fun ns _ _ => by
  obtain ⟨c, o, h1, h2⟩ := pot_ok ns
  obtain ⟨c', c1, o2, h3, h4⟩ := right_ok h2
  have z : law_b [some (.frz (.ro ns)), some (.tabs qs)] = .rt (.frz (.bl true)) [some (.frz (.ro ns)), some c1] := by
    unfold law_b sRet sOf eFnT
    have e1 : evMs [eFnO _law_pot_m [eP (pV 0), eP (pK (.int 0))]] [some (.frz (.ro ns)), some (.tabs qs)] = .ok [c] [some (.frz (.ro ns)), some (.tabs qs)] := by
      simp [evMs_c, evMs_n, eFnO, eP, pV, pK, Out.bind, h1]
    rw [e1]
    simp [Out.bind, lentT, h3, h4]
  refine ⟨.frz (.bl true), outsT 1 [] 1 [some (.frz (.ro ns)), some c1], ?_, rfl⟩
  show (match law_b [some (.frz (.ro ns)), some (.tabs qs)] with | .nx e => _ | .rt c e => _ | .err x e => _ | _ => _) = _
  rw [z]
end k10
namespace k10
open PySem PySem.Spec PyProof.Rows L2 PL
theorem defAt_of {K : PySem.W.Frag} {h : Heap} {mg : Str → Option Value} {x : Str} {st : Stmt} (X : K.In h) (G : h.Ns mainGlobals mg) (D : DefK K x st) : DefAt K mg x st := by
  obtain ⟨f, oc, od, kV, doc, pm, an, cdv, ct, osl, a, k, l, c⟩ := D
  exact ⟨f, oc, od, kV, doc, pm, an, cdv, ct, osl, PySem.W.mg_of X G a, k, l, c⟩
theorem bodyK_of {K : PySem.W.Frag} {x : Str} {st : Stmt} (D : DefK K x st) : BodyK K x (defBody st) := by
  obtain ⟨f, oc, od, kV, doc, pm, an, cdv, ct, osl, a, k, l, c⟩ := D
  exact ⟨f, oc, od, _, osl, a, l, rfl⟩
theorem txt_of {K : PySem.W.Frag} {h : Heap} {mg : Str → Option Value} {ts : List Addr} (X : K.In h) (G : h.Ns mainGlobals mg) (F : Facts K ts) : Txt K mg :=
  ⟨PySem.W.mg_none_of X G F.z_abs,
    PySem.W.mg_none_of X G F.z_all,
    PySem.W.mg_none_of X G F.z_bool,
    PySem.W.mg_none_of X G F.z_divmod,
    PySem.W.mg_none_of X G F.z_enumerate,
    PySem.W.mg_none_of X G F.z_int,
    PySem.W.mg_none_of X G F.z_isinstance,
    PySem.W.mg_none_of X G F.z_len,
    PySem.W.mg_none_of X G F.z_list,
    PySem.W.mg_none_of X G F.z_max,
    PySem.W.mg_none_of X G F.z_range,
    PySem.W.mg_none_of X G F.z_repr,
    PySem.W.mg_none_of X G F.z_sorted,
    PySem.W.mg_none_of X G F.z_tuple,
    F.g_MOST_DEGREE.imp fun _ e => PySem.W.mg_of X G e,
    F.g_MOST_MONIC.imp fun _ e => PySem.W.mg_of X G e,
    defAt_of X G F.d_is_integer,
    defAt_of X G F.d_is_list,
    defAt_of X G F.d_divisor_of,
    defAt_of X G F.d_power_by,
    defAt_of X G F.d_square_root,
    defAt_of X G F.d_has_divisor,
    defAt_of X G F.d_trimmed,
    defAt_of X G F.d_scaled_line,
    defAt_of X G F.d_times_lines,
    defAt_of X G F.d_value_at,
    defAt_of X G F.d_slope_of,
    defAt_of X G F.d_rest_by,
    defAt_of X G F.d__law_pot,
    defAt_of X G F.d__law_draw,
    defAt_of X G F.d_greatest_of,
    defAt_of X G F.d_plus_lines,
    defAt_of X G F.d_line_in,
    defAt_of X G F.d_fit_prime,
    defAt_of X G F.d_undone_by,
    defAt_of X G F.d_want_at_most,
    defAt_of X G F.d_want_number,
    defAt_of X G F.d_minus_lines,
    defAt_of X G F.d_plain_of,
    defAt_of X G F.d_want_line,
    defAt_of X G F.d_lifted_root,
    defAt_of X G F.d_greatest,
    defAt_of X G F.d_parted,
    defAt_of X G F.d_two_lines,
    defAt_of X G F.d_degree,
    defAt_of X G F.d_line_value,
    defAt_of X G F.d_line_slope,
    defAt_of X G F.d_plain_line,
    defAt_of X G F.d_want_standing,
    defAt_of X G F.d_common_of,
    defAt_of X G F.d_resultant_of,
    defAt_of X G F.d_two_standing,
    defAt_of X G F.d_line_sum,
    defAt_of X G F.d_line_less,
    defAt_of X G F.d_line_times,
    defAt_of X G F.d_line_divided,
    defAt_of X G F.d_line_common,
    defAt_of X G F.d_resultant,
    defAt_of X G F.d_plain_parts_of,
    defAt_of X G F.d_single_part,
    defAt_of X G F.d_whole_roots_of,
    defAt_of X G F.d_plain_parts,
    defAt_of X G F.d_two_quadratic,
    defAt_of X G F.d_whole_roots,
    defAt_of X G F.d_monic_parts_of,
    defAt_of X G F.d_monic_parts,
    defAt_of X G F.d__law_heard,
    defAt_of X G F.d__law_are,
    defAt_of X G F.d__law_lines_right,
    defAt_of X G F.d__law_numbers_right,
    defAt_of X G F.d__law_behind_right,
    defAt_of X G F.d__law_right,
    defAt_of X G F.d_law,
    clsAt_of (initId := "ArithmeticError.__init__") X G PySem.F.excBase_ArithmeticError PySem.F.store_ArithmeticError F.c_TooMany,
    clsAt_of (initId := "ValueError.__init__") X G PySem.F.excBase_ValueError PySem.F.store_ValueError F.c_InvalidNumber,
    clsAt_of (initId := "ValueError.__init__") X G PySem.F.excBase_ValueError PySem.F.store_ValueError F.c_InvalidLine,
    cls0At_of (initId := "RuntimeError.__init__") X G PySem.F.excBase_RuntimeError F.c_ZeroLine,
    (let ⟨cv, a, b⟩ := F.h_InvalidLine; ⟨cv, PySem.W.mg_of X G a, fun y hy => let ⟨xv, c, d⟩ := b y hy; ⟨xv, PySem.W.mg_of X G c, d⟩⟩),
    (let ⟨cv, a, b⟩ := F.h_InvalidNumber; ⟨cv, PySem.W.mg_of X G a, fun y hy => let ⟨xv, c, d⟩ := b y hy; ⟨xv, PySem.W.mg_of X G c, d⟩⟩),
    (let ⟨cv, a, b⟩ := F.h_ZeroLine; ⟨cv, PySem.W.mg_of X G a, fun y hy => let ⟨xv, c, d⟩ := b y hy; ⟨xv, PySem.W.mg_of X G c, d⟩⟩),
    (let ⟨cv, a, b⟩ := F.h_TooMany; ⟨cv, PySem.W.mg_of X G a, fun y hy => let ⟨xv, c, d⟩ := b y hy; ⟨xv, PySem.W.mg_of X G c, d⟩⟩),
    (let ⟨cv, a, b⟩ := F.i_CurveError; ⟨cv, PySem.W.mg_of X G a, fun y hy z => let ⟨xv, c, d⟩ := b y hy z; ⟨xv, PySem.W.mg_of X G c, d⟩⟩),
    ⟨PySem.W.mg_none_of X G F.i_ValueError.1, fun y hy z => let ⟨xv, c, d⟩ := F.i_ValueError.2 y hy z; ⟨xv, PySem.W.mg_of X G c, d⟩⟩,
    (let ⟨cv, a, b⟩ := F.i_StateError; ⟨cv, PySem.W.mg_of X G a, fun y hy z => let ⟨xv, c, d⟩ := b y hy z; ⟨xv, PySem.W.mg_of X G c, d⟩⟩),
    (let ⟨cv, a, b⟩ := F.i_LimitError; ⟨cv, PySem.W.mg_of X G a, fun y hy z => let ⟨xv, c, d⟩ := b y hy z; ⟨xv, PySem.W.mg_of X G c, d⟩⟩),
    (fun y hy => let ⟨C, a, b, c⟩ := F.f_value y hy; ⟨C, PySem.W.mg_of X G a, b, c⟩),
    (fun y hy => let ⟨C, a, b, c⟩ := F.f_what y hy; ⟨C, PySem.W.mg_of X G a, b, c⟩),
    (fun y hy => let ⟨C, a, b, c⟩ := F.f_limit y hy; ⟨C, PySem.W.mg_of X G a, b, c⟩),
    bodyK_of F.d__law_lines_right,
    bodyK_of F.d__law_numbers_right,
    bodyK_of F.d__law_behind_right⟩
theorem all_mk : AllMk := fun q loose XP YP d K ts hq hY hd hdf hts hF => by
  refine PL.walk_ofTG (l := PySem.Challenge.rw_curvemeets_k10_lines_refused) (n := 63) (k := 17) (x := "script") rfl (by decide) hdf ⟨rfl, by decide, by decide⟩ hq hY ?_
  intro w mg fa h Y KX G hmg
  rw [hd] at hmg
  have F := hF w
  have V := txt_of KX G F
  obtain ⟨c52, P52, c53, P53, c54, P54, m52, m53, m54, nd⟩ := F.t
  have T : TabK (K w.params) ts ["_law_lines_right", "_law_numbers_right", "_law_behind_right"] [(c52, P52), (c53, P53), (c54, P54)] := MkPs.tab ((.cons m52 (.cons m53 (.cons m54 .nil)))) nd
  exact PL.law_endT (gi := 1) V.d_law sc_law bp_law rfl (by unfold Vis; decide +kernel) (by decide) T KX (hts w h Y) (fun base hS TB => law_bd V hS ⟨T.at KX G TB 0 rfl, T.at KX G TB 1 rfl, T.at KX G TB 2 rfl⟩) hmg law_true
end k10
theorem PySem.Challenge.cw_curvemeets_k10_lines_refused_holds : PySem.Challenge.rw_curvemeets_k10_lines_refused.Holds :=
  k10.head0 k10.all_mk
