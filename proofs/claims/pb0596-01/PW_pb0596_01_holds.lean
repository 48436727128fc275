import PyProof.Rows.All
import Wide.All
import OpenK.AllK
import Wide.FinOn
import Lean
import PySem.Challenge.RW_pb0596_01
set_option Elab.async false

section

open PySem PySem.W
namespace Mine
set_option maxRecDepth 100000
set_option maxHeartbeats 0
noncomputable def stF (p : List Nat) : Option Stmt := match p with
  | [i] => PySem.Challenge.pw_pb0596_01.main.body[i]?
  | [i, j] => match PySem.Challenge.pw_pb0596_01.main.body[i]? with
    | some (.ClassDef _ _ _ b _ _ _ _ _ _ _) => b[j]?
    | _ => Option.none
  | _ => Option.none
noncomputable def parF : Option Stmt → Arguments
  | some (.FunctionDef _ a _ _ _ _ _ _ _ _) => a
  | _ => { posonlyargs := [], args := [], vararg := Option.none, kwonlyargs := [], kw_defaults := [], kwarg := Option.none, defaults := [] }
noncomputable def bodF : Option Stmt → List Stmt
  | some (.FunctionDef _ _ b _ _ _ _ _ _ _) => b
  | _ => []
noncomputable def scoF : Option Stmt → Scope
  | some (.FunctionDef _ _ _ _ _ _ s _ _ _) => s
  | _ => { kind := ScopeKind.function, names := [], isGenerator := false, isCoroutine := false }
noncomputable def K9 : Params → Frag := fun P => (fun (p21 : Arguments) (_ : parF (stF [0]) = p21) (b21 : List Stmt) (_ : bodF (stF [0]) = b21) (c21 : Scope) (_ : scoF (stF [0]) = c21) (p36 : Arguments) (_ : parF (stF [3, 0]) = p36) (b36 : List Stmt) (_ : bodF (stF [3, 0]) = b36) (c36 : Scope) (_ : scoF (stF [3, 0]) = c36) (p61 : Arguments) (_ : parF (stF [5]) = p61) (b61 : List Stmt) (_ : bodF (stF [5]) = b61) (c61 : Scope) (_ : scoF (stF [5]) = c61) (p68 : Arguments) (_ : parF (stF [12]) = p68) (b68 : List Stmt) (_ : bodF (stF [12]) = b68) (c68 : Scope) (_ : scoF (stF [12]) = c68) (p75 : Arguments) (_ : parF (stF [13]) = p75) (b75 : List Stmt) (_ : bodF (stF [13]) = b75) (c75 : Scope) (_ : scoF (stF [13]) = c75) (p85 : Arguments) (_ : parF (stF [18]) = p85) (b85 : List Stmt) (_ : bodF (stF [18]) = b85) (c85 : Scope) (_ : scoF (stF [18]) = c85) (p92 : Arguments) (_ : parF (stF [19]) = p92) (b92 : List Stmt) (_ : bodF (stF [19]) = b92) (c92 : Scope) (_ : scoF (stF [19]) = c92) (p99 : Arguments) (_ : parF (stF [20]) = p99) (b99 : List Stmt) (_ : bodF (stF [20]) = b99) (c99 : Scope) (_ : scoF (stF [20]) = c99) (p114 : Arguments) (_ : parF (stF [21, 0]) = p114) (b114 : List Stmt) (_ : bodF (stF [21, 0]) = b114) (c114 : Scope) (_ : scoF (stF [21, 0]) = c114) (p121 : Arguments) (_ : parF (stF [21, 1]) = p121) (b121 : List Stmt) (_ : bodF (stF [21, 1]) = b121) (c121 : Scope) (_ : scoF (stF [21, 1]) = c121) (p128 : Arguments) (_ : parF (stF [21, 2]) = p128) (b128 : List Stmt) (_ : bodF (stF [21, 2]) = b128) (c128 : Scope) (_ : scoF (stF [21, 2]) = c128) (p135 : Arguments) (_ : parF (stF [21, 3]) = p135) (b135 : List Stmt) (_ : bodF (stF [21, 3]) = b135) (c135 : Scope) (_ : scoF (stF [21, 3]) = c135) (p148 : Arguments) (_ : parF (stF [22]) = p148) (b148 : List Stmt) (_ : bodF (stF [22]) = b148) (c148 : Scope) (_ : scoF (stF [22]) = c148) (p154 : Arguments) (_ : parF (stF [23]) = p154) (b154 : List Stmt) (_ : bodF (stF [23]) = b154) (c154 : Scope) (_ : scoF (stF [23]) = c154) (p164 : Arguments) (_ : parF (stF [31]) = p164) (b164 : List Stmt) (_ : bodF (stF [31]) = b164) (c164 : Scope) (_ : scoF (stF [31]) = c164) (p169 : Arguments) (_ : parF (stF [32]) = p169) (b169 : List Stmt) (_ : bodF (stF [32]) = b169) (c169 : Scope) (_ : scoF (stF [32]) = c169) (p174 : Arguments) (_ : parF (stF [33]) = p174) (b174 : List Stmt) (_ : bodF (stF [33]) = b174) (c174 : Scope) (_ : scoF (stF [33]) = c174) (p182 : Arguments) (_ : parF (stF [34]) = p182) (b182 : List Stmt) (_ : bodF (stF [34]) = b182) (c182 : Scope) (_ : scoF (stF [34]) = c182) (p190 : Arguments) (_ : parF (stF [36]) = p190) (b190 : List Stmt) (_ : bodF (stF [36]) = b190) (c190 : Scope) (_ : scoF (stF [36]) = c190) (p197 : Arguments) (_ : parF (stF [38]) = p197) (b197 : List Stmt) (_ : bodF (stF [38]) = b197) (c197 : Scope) (_ : scoF (stF [38]) = c197) (p211 : Arguments) (_ : parF (stF [39, 0]) = p211) (b211 : List Stmt) (_ : bodF (stF [39, 0]) = b211) (c211 : Scope) (_ : scoF (stF [39, 0]) = c211) (p218 : Arguments) (_ : parF (stF [39, 1]) = p218) (b218 : List Stmt) (_ : bodF (stF [39, 1]) = b218) (c218 : Scope) (_ : scoF (stF [39, 1]) = c218) (p225 : Arguments) (_ : parF (stF [39, 2]) = p225) (b225 : List Stmt) (_ : bodF (stF [39, 2]) = b225) (c225 : Scope) (_ : scoF (stF [39, 2]) = c225) (p232 : Arguments) (_ : parF (stF [39, 3]) = p232) (b232 : List Stmt) (_ : bodF (stF [39, 3]) = b232) (c232 : Scope) (_ : scoF (stF [39, 3]) = c232) (p239 : Arguments) (_ : parF (stF [39, 4]) = p239) (b239 : List Stmt) (_ : bodF (stF [39, 4]) = b239) (c239 : Scope) (_ : scoF (stF [39, 4]) = c239) (p253 : Arguments) (_ : parF (stF [41]) = p253) (b253 : List Stmt) (_ : bodF (stF [41]) = b253) (c253 : Scope) (_ : scoF (stF [41]) = c253) (p267 : Arguments) (_ : parF (stF [42, 0]) = p267) (b267 : List Stmt) (_ : bodF (stF [42, 0]) = b267) (c267 : Scope) (_ : scoF (stF [42, 0]) = c267) (p274 : Arguments) (_ : parF (stF [42, 1]) = p274) (b274 : List Stmt) (_ : bodF (stF [42, 1]) = b274) (c274 : Scope) (_ : scoF (stF [42, 1]) = c274) (p281 : Arguments) (_ : parF (stF [42, 2]) = p281) (b281 : List Stmt) (_ : bodF (stF [42, 2]) = b281) (c281 : Scope) (_ : scoF (stF [42, 2]) = c281) (p288 : Arguments) (_ : parF (stF [42, 3]) = p288) (b288 : List Stmt) (_ : bodF (stF [42, 3]) = b288) (c288 : Scope) (_ : scoF (stF [42, 3]) = c288) (p302 : Arguments) (_ : parF (stF [44]) = p302) (b302 : List Stmt) (_ : bodF (stF [44]) = b302) (c302 : Scope) (_ : scoF (stF [44]) = c302) (p309 : Arguments) (_ : parF (stF [45]) = p309) (b309 : List Stmt) (_ : bodF (stF [45]) = b309) (c309 : Scope) (_ : scoF (stF [45]) = c309) (p316 : Arguments) (_ : parF (stF [46]) = p316) (b316 : List Stmt) (_ : bodF (stF [46]) = b316) (c316 : Scope) (_ : scoF (stF [46]) = c316) (p323 : Arguments) (_ : parF (stF [47]) = p323) (b323 : List Stmt) (_ : bodF (stF [47]) = b323) (c323 : Scope) (_ : scoF (stF [47]) = c323) (p328 : Arguments) (_ : parF (stF [48]) = p328) (b328 : List Stmt) (_ : bodF (stF [48]) = b328) (c328 : Scope) (_ : scoF (stF [48]) = c328) (p333 : Arguments) (_ : parF (stF [49]) = p333) (b333 : List Stmt) (_ : bodF (stF [49]) = b333) (c333 : Scope) (_ : scoF (stF [49]) = c333) => ((
(nat_lit 2, { cls := Value.none, data := Data.dict #[{ hash := PyData.keyHash P (Str.ofString "type.__subclasses__.Exception.0"), key := Value.str (Str.ofString "type.__subclasses__.Exception.0") 223, val := Value.int 39 0 }, { hash := PyData.keyHash P (Str.ofString "type.__subclasses__.Exception.n"), key := Value.str (Str.ofString "type.__subclasses__.Exception.n") 224, val := Value.int 1 0 }] 2 }) ::
(nat_lit 3, { cls := Value.type "dict", data := Data.dict #[{ hash := PyData.keyHash P (Str.ofString "__name__"), key := Value.str (Str.ofString "__name__") 165, val := Value.str (Str.ofString "law_pb0596_01") 614 }, { hash := PyData.keyHash P (Str.ofString "__doc__"), key := Value.str (Str.ofString "__doc__") 166, val := Value.none }, { hash := PyData.keyHash P (Str.ofString "__package__"), key := Value.str (Str.ofString "__package__") 167, val := Value.none }, { hash := PyData.keyHash P (Str.ofString "__loader__"), key := Value.str (Str.ofString "__loader__") 168, val := Value.builtin "__main__.__loader__#opaque" }, { hash := PyData.keyHash P (Str.ofString "__spec__"), key := Value.str (Str.ofString "__spec__") 169, val := Value.none }, { hash := PyData.keyHash P (Str.ofString "__annotations__"), key := Value.str (Str.ofString "__annotations__") 170, val := Value.ref 6 }, { hash := PyData.keyHash P (Str.ofString "__builtins__"), key := Value.str (Str.ofString "__builtins__") 171, val := Value.ref 4 }, { hash := PyData.keyHash P (Str.ofString "__file__"), key := Value.str (Str.ofString "__file__") 173, val := Value.str (Str.ofString "/claim/cut.py") 172 }, { hash := PyData.keyHash P (Str.ofString "__cached__"), key := Value.str (Str.ofString "__cached__") 174, val := Value.none }, { hash := PyData.keyHash P (Str.ofString "_wall"), key := Value.str (Str.ofString "_wall") 193, val := Value.ref 21 }, { hash := PyData.keyHash P (Str.ofString "MAX_CODE"), key := Value.str (Str.ofString "MAX_CODE") 197, val := Value.int 1114111 196 }, { hash := PyData.keyHash P (Str.ofString "UniError"), key := Value.str (Str.ofString "UniError") 226, val := Value.ref 39 }, { hash := PyData.keyHash P (Str.ofString "BadCode"), key := Value.str (Str.ofString "BadCode") 242, val := Value.ref 52 }, { hash := PyData.keyHash P (Str.ofString "place_by_half"), key := Value.str (Str.ofString "place_by_half") 253, val := Value.ref 61 }, { hash := PyData.keyHash P (Str.ofString "SYLLABLE_FIRST"), key := Value.str (Str.ofString "SYLLABLE_FIRST") 257, val := Value.int 44032 256 }, { hash := PyData.keyHash P (Str.ofString "LEADS"), key := Value.str (Str.ofString "LEADS") 259, val := Value.int 19 258 }, { hash := PyData.keyHash P (Str.ofString "VOWELS"), key := Value.str (Str.ofString "VOWELS") 261, val := Value.int 21 260 }, { hash := PyData.keyHash P (Str.ofString "TAILS"), key := Value.str (Str.ofString "TAILS") 263, val := Value.int 28 262 }, { hash := PyData.keyHash P (Str.ofString "SYLLABLES"), key := Value.str (Str.ofString "SYLLABLES") 266, val := Value.int 11172 265 }, { hash := PyData.keyHash P (Str.ofString "is_hangul_syllable"), key := Value.str (Str.ofString "is_hangul_syllable") 273, val := Value.ref 68 }, { hash := PyData.keyHash P (Str.ofString "hangul_kind"), key := Value.str (Str.ofString "hangul_kind") 280, val := Value.ref 75 }, { hash := PyData.keyHash P (Str.ofString "CLUSTER_ENDS"), key := Value.str (Str.ofString "CLUSTER_ENDS") 286, val := Value.ref 76 }, { hash := PyData.keyHash P (Str.ofString "CLUSTER_MARKS"), key := Value.str (Str.ofString "CLUSTER_MARKS") 289, val := Value.ref 77 }, { hash := PyData.keyHash P (Str.ofString "CLUSTER_JOINTS"), key := Value.str (Str.ofString "CLUSTER_JOINTS") 292, val := Value.ref 78 }, { hash := PyData.keyHash P (Str.ofString "cluster_kind"), key := Value.str (Str.ofString "cluster_kind") 302, val := Value.ref 85 }, { hash := PyData.keyHash P (Str.ofString "cluster_hangul_joins"), key := Value.str (Str.ofString "cluster_hangul_joins") 310, val := Value.ref 92 }, { hash := PyData.keyHash P (Str.ofString "cluster_pair"), key := Value.str (Str.ofString "cluster_pair") 319, val := Value.ref 99 }, { hash := PyData.keyHash P (Str.ofString "ClusterStream"), key := Value.str (Str.ofString "ClusterStream") 386, val := Value.ref 138 }, { hash := PyData.keyHash P (Str.ofString "cluster_places"), key := Value.str (Str.ofString "cluster_places") 392, val := Value.ref 148 }, { hash := PyData.keyHash P (Str.ofString "clusters_of"), key := Value.str (Str.ofString "clusters_of") 398, val := Value.ref 154 }, { hash := PyData.keyHash P (Str.ofString "WIDTH_REFUSED"), key := Value.str (Str.ofString "WIDTH_REFUSED") 405, val := Value.ref 155 }, { hash := PyData.keyHash P (Str.ofString "WIDTH_MARKS"), key := Value.str (Str.ofString "WIDTH_MARKS") 408, val := Value.ref 156 }, { hash := PyData.keyHash P (Str.ofString "WIDTH_SOFT_HYPHEN"), key := Value.str (Str.ofString "WIDTH_SOFT_HYPHEN") 410, val := Value.int 173 409 }, { hash := PyData.keyHash P (Str.ofString "WIDTH_TEXT_SIGN"), key := Value.str (Str.ofString "WIDTH_TEXT_SIGN") 412, val := Value.int 65038 411 }, { hash := PyData.keyHash P (Str.ofString "WIDTH_PICTURE_SIGN"), key := Value.str (Str.ofString "WIDTH_PICTURE_SIGN") 414, val := Value.int 65039 413 }, { hash := PyData.keyHash P (Str.ofString "WIDTH_KEYCAP"), key := Value.str (Str.ofString "WIDTH_KEYCAP") 416, val := Value.int 8419 415 }, { hash := PyData.keyHash P (Str.ofString "code_columns"), key := Value.str (Str.ofString "code_columns") 427, val := Value.ref 164 }, { hash := PyData.keyHash P (Str.ofString "width_is_flag"), key := Value.str (Str.ofString "width_is_flag") 433, val := Value.ref 169 }, { hash := PyData.keyHash P (Str.ofString "width_wish"), key := Value.str (Str.ofString "width_wish") 439, val := Value.ref 174 }, { hash := PyData.keyHash P (Str.ofString "cluster_columns"), key := Value.str (Str.ofString "cluster_columns") 451, val := Value.ref 182 }, { hash := PyData.keyHash P (Str.ofString "cluster_widths"), key := Value.str (Str.ofString "cluster_widths") 465, val := Value.ref 190 }, { hash := PyData.keyHash P (Str.ofString "range_are_like"), key := Value.str (Str.ofString "range_are_like") 475, val := Value.ref 197 }, { hash := PyData.keyHash P (Str.ofString "RangeMap"), key := Value.str (Str.ofString "RangeMap") 544, val := Value.ref 242 }, { hash := PyData.keyHash P (Str.ofString "data_defaults"), key := Value.str (Str.ofString "data_defaults") 554, val := Value.ref 253 }, { hash := PyData.keyHash P (Str.ofString "Data"), key := Value.str (Str.ofString "Data") 613, val := Value.ref 291 }, { hash := PyData.keyHash P (Str.ofString "_law_signs"), key := Value.str (Str.ofString "_law_signs") 622, val := Value.ref 302 }, { hash := PyData.keyHash P (Str.ofString "_law_data"), key := Value.str (Str.ofString "_law_data") 638, val := Value.ref 309 }, { hash := PyData.keyHash P (Str.ofString "_law_is_one"), key := Value.str (Str.ofString "_law_is_one") 651, val := Value.ref 316 }, { hash := PyData.keyHash P (Str.ofString "_law_clusters"), key := Value.str (Str.ofString "_law_clusters") 660, val := Value.ref 323 }, { hash := PyData.keyHash P (Str.ofString "_law_columns"), key := Value.str (Str.ofString "_law_columns") 666, val := Value.ref 328 }, { hash := PyData.keyHash P (Str.ofString "law"), key := Value.str (Str.ofString "law") 672, val := Value.ref 333 }] 51 }) ::
(nat_lit 15, { cls := Value.type "tuple", data := Data.seq #[] }) ::
(nat_lit 17, { cls := Value.type "tuple", data := Data.seq #[Value.str (Str.ofString "k") 190] }) ::
(nat_lit 18, { cls := Value.type "tuple", data := Data.seq #[] }) ::
(nat_lit 20, { cls := Value.type "code", data := Data.fields #[Value.str (Str.ofString "_wall") 187, Value.str (Str.ofString "_wall") 188, Value.str (Str.ofString "/claim/cut.py") 189, Value.int 1 0, Value.int 1 0, Value.int 0 0, Value.int 0 0, Value.int 3 0, Value.ref 15, Value.bool true, Value.int 181 0, Value.ref 16, Value.none, Value.ref 17, Value.ref 18, Value.ref 19, Value.int 191 0, Value.int 1 0, Value.str (Str.ofString "/claim/cut.py") 192] }) ::
(nat_lit 21, { cls := Value.type "function", data := Data.func { name := Str.ofString "_wall", qualname := Str.ofString "_wall", params := p21, body := FuncBody.stmts b21, scope := c21, globals := 3, closure := [], defaults := Value.none, kwdefaults := Value.none, pyModule := Value.str (Str.ofString "__main__") 164, code := Value.ref 20 } }) ::
(nat_lit 22, { cls := Value.type "tuple", data := Data.seq #[Value.type "Exception"] }) ::
(nat_lit 29, { cls := Value.type "tuple", data := Data.seq #[Value.none] }) ::
(nat_lit 30, { cls := Value.type "tuple", data := Data.seq #[] }) ::
(nat_lit 32, { cls := Value.type "tuple", data := Data.seq #[Value.str (Str.ofString "self") 213, Value.str (Str.ofString "told") 214] }) ::
(nat_lit 33, { cls := Value.type "tuple", data := Data.seq #[] }) ::
(nat_lit 35, { cls := Value.type "code", data := Data.fields #[Value.str (Str.ofString "__init__") 210, Value.str (Str.ofString "UniError.__init__") 211, Value.str (Str.ofString "/claim/cut.py") 212, Value.int 8 0, Value.int 2 0, Value.int 0 0, Value.int 0 0, Value.int 3 0, Value.ref 30, Value.bool true, Value.int 181 0, Value.ref 31, Value.none, Value.ref 32, Value.ref 33, Value.ref 34, Value.int 215 0, Value.int 8 0, Value.str (Str.ofString "/claim/cut.py") 216] }) ::
(nat_lit 36, { cls := Value.type "function", data := Data.func { name := Str.ofString "__init__", qualname := Str.ofString "UniError.__init__", params := p36, body := FuncBody.stmts b36, scope := c36, globals := 3, closure := [], defaults := Value.ref 29, kwdefaults := Value.none, pyModule := Value.str (Str.ofString "unicore.base") 194, code := Value.ref 35 } }) ::
(nat_lit 37, { cls := Value.type "tuple", data := Data.seq #[Value.str (Str.ofString "told") 218] }) ::
(nat_lit 38, { cls := Value.type "dict", data := Data.dict #[{ hash := PyData.keyHash P (Str.ofString "__module__"), key := Value.str (Str.ofString "__module__") 205, val := Value.str (Str.ofString "unicore.base") 194 }, { hash := PyData.keyHash P (Str.ofString "__firstlineno__"), key := Value.str (Str.ofString "__firstlineno__") 209, val := Value.int 6 208 }, { hash := PyData.keyHash P (Str.ofString "__init__"), key := Value.str (Str.ofString "__init__") 217, val := Value.ref 36 }, { hash := PyData.keyHash P (Str.ofString "__static_attributes__"), key := Value.str (Str.ofString "__static_attributes__") 219, val := Value.ref 37 }, { hash := PyData.keyHash P (Str.ofString "__weakref__"), key := Value.str (Str.ofString "__weakref__") 221, val := Value.ref 40 }, { hash := PyData.keyHash P (Str.ofString "__doc__"), key := Value.str (Str.ofString "__doc__") 222, val := Value.none }] 3 }) ::
(nat_lit 39, { cls := Value.type "type", data := Data.cls { name := Str.ofString "UniError", bases := [Value.type "Exception"], mro := [Value.ref 39, Value.type "Exception", Value.type "BaseException", Value.type "object"], ns := 38, qualname := Str.ofString "UniError", subclasses := [Value.ref 52] }, slots := #[some (Value.ref 22), none, some (Value.str (Str.ofString "UniError") 198), some (Value.str (Str.ofString "UniError") 206), some (Value.builtin "Exception.__new__"), some (Value.bool true)] }) ::
(nat_lit 40, { cls := Value.type "getset_descriptor", data := Data.fields #[Value.str (Str.ofString "__weakref__") 220, Value.ref 39, Value.builtin "ExceptionGroup.__weakref__", Value.none] }) ::
(nat_lit 43, { cls := Value.type "tuple", data := Data.seq #[Value.ref 39] }) ::
(nat_lit 50, { cls := Value.type "tuple", data := Data.seq #[] }) ::
(nat_lit 51, { cls := Value.type "dict", data := Data.dict #[{ hash := PyData.keyHash P (Str.ofString "__module__"), key := Value.str (Str.ofString "__module__") 234, val := Value.str (Str.ofString "unicore.base") 194 }, { hash := PyData.keyHash P (Str.ofString "__firstlineno__"), key := Value.str (Str.ofString "__firstlineno__") 238, val := Value.int 10 237 }, { hash := PyData.keyHash P (Str.ofString "__static_attributes__"), key := Value.str (Str.ofString "__static_attributes__") 239, val := Value.ref 50 }, { hash := PyData.keyHash P (Str.ofString "__doc__"), key := Value.str (Str.ofString "__doc__") 240, val := Value.none }] 2 }) ::
(nat_lit 52, { cls := Value.type "type", data := Data.cls { name := Str.ofString "BadCode", bases := [Value.ref 39], mro := [Value.ref 52, Value.ref 39, Value.type "Exception", Value.type "BaseException", Value.type "object"], ns := 51, qualname := Str.ofString "BadCode" }, slots := #[some (Value.ref 43), none, some (Value.str (Str.ofString "BadCode") 227), some (Value.str (Str.ofString "BadCode") 235), some (Value.builtin "Exception.__new__"), some (Value.bool true)] }) ::
(nat_lit 55, { cls := Value.type "tuple", data := Data.seq #[] }) ::
(nat_lit 57, { cls := Value.type "tuple", data := Data.seq #[Value.str (Str.ofString "firsts") 246, Value.str (Str.ofString "number") 247, Value.str (Str.ofString "low") 248, Value.str (Str.ofString "high") 249, Value.str (Str.ofString "middle") 250] }) ::
(nat_lit 58, { cls := Value.type "tuple", data := Data.seq #[] }) ::
(nat_lit 60, { cls := Value.type "code", data := Data.fields #[Value.str (Str.ofString "place_by_half") 243, Value.str (Str.ofString "place_by_half") 244, Value.str (Str.ofString "/claim/cut.py") 245, Value.int 12 0, Value.int 2 0, Value.int 0 0, Value.int 0 0, Value.int 3 0, Value.ref 55, Value.bool true, Value.int 181 0, Value.ref 56, Value.none, Value.ref 57, Value.ref 58, Value.ref 59, Value.int 251 0, Value.int 12 0, Value.str (Str.ofString "/claim/cut.py") 252] }) ::
(nat_lit 61, { cls := Value.type "function", data := Data.func { name := Str.ofString "place_by_half", qualname := Str.ofString "place_by_half", params := p61, body := FuncBody.stmts b61, scope := c61, globals := 3, closure := [], defaults := Value.none, kwdefaults := Value.none, pyModule := Value.str (Str.ofString "unicore.base") 194, code := Value.ref 60 } }) ::
(nat_lit 62, { cls := Value.type "tuple", data := Data.seq #[] }) ::
(nat_lit 64, { cls := Value.type "tuple", data := Data.seq #[Value.str (Str.ofString "code") 270] }) ::
(nat_lit 65, { cls := Value.type "tuple", data := Data.seq #[] }) ::
(nat_lit 67, { cls := Value.type "code", data := Data.fields #[Value.str (Str.ofString "is_hangul_syllable") 267, Value.str (Str.ofString "is_hangul_syllable") 268, Value.str (Str.ofString "/claim/cut.py") 269, Value.int 28 0, Value.int 1 0, Value.int 0 0, Value.int 0 0, Value.int 3 0, Value.ref 62, Value.bool true, Value.int 181 0, Value.ref 63, Value.none, Value.ref 64, Value.ref 65, Value.ref 66, Value.int 271 0, Value.int 28 0, Value.str (Str.ofString "/claim/cut.py") 272] }) ::
(nat_lit 68, { cls := Value.type "function", data := Data.func { name := Str.ofString "is_hangul_syllable", qualname := Str.ofString "is_hangul_syllable", params := p68, body := FuncBody.stmts b68, scope := c68, globals := 3, closure := [], defaults := Value.none, kwdefaults := Value.none, pyModule := Value.str (Str.ofString "unicore.hangul") 254, code := Value.ref 67 } }) ::
(nat_lit 69, { cls := Value.type "tuple", data := Data.seq #[] }) ::
(nat_lit 71, { cls := Value.type "tuple", data := Data.seq #[Value.str (Str.ofString "code") 277] }) ::
(nat_lit 72, { cls := Value.type "tuple", data := Data.seq #[] }) ::
(nat_lit 74, { cls := Value.type "code", data := Data.fields #[Value.str (Str.ofString "hangul_kind") 274, Value.str (Str.ofString "hangul_kind") 275, Value.str (Str.ofString "/claim/cut.py") 276, Value.int 30 0, Value.int 1 0, Value.int 0 0, Value.int 0 0, Value.int 3 0, Value.ref 69, Value.bool true, Value.int 181 0, Value.ref 70, Value.none, Value.ref 71, Value.ref 72, Value.ref 73, Value.int 278 0, Value.int 30 0, Value.str (Str.ofString "/claim/cut.py") 279] }) ::
(nat_lit 75, { cls := Value.type "function", data := Data.func { name := Str.ofString "hangul_kind", qualname := Str.ofString "hangul_kind", params := p75, body := FuncBody.stmts b75, scope := c75, globals := 3, closure := [], defaults := Value.none, kwdefaults := Value.none, pyModule := Value.str (Str.ofString "unicore.hangul") 254, code := Value.ref 74 } }) ::
(nat_lit 76, { cls := Value.type "tuple", data := Data.seq #[Value.str (Str.ofString "CR") 283, Value.str (Str.ofString "LF") 284, Value.str (Str.ofString "Control") 285] }) ::
(nat_lit 77, { cls := Value.type "tuple", data := Data.seq #[Value.str (Str.ofString "Extend") 287, Value.str (Str.ofString "ZWJ") 288] }) ::
(nat_lit 78, { cls := Value.type "tuple", data := Data.seq #[Value.str (Str.ofString "Extend") 290, Value.str (Str.ofString "Linker") 291] }) ::
(nat_lit 79, { cls := Value.type "tuple", data := Data.seq #[] }) ::
(nat_lit 81, { cls := Value.type "tuple", data := Data.seq #[Value.str (Str.ofString "code") 296, Value.str (Str.ofString "data") 297, Value.str (Str.ofString "kind") 298, Value.str (Str.ofString "told") 299] }) ::
(nat_lit 82, { cls := Value.type "tuple", data := Data.seq #[] }) ::
(nat_lit 84, { cls := Value.type "code", data := Data.fields #[Value.str (Str.ofString "cluster_kind") 293, Value.str (Str.ofString "cluster_kind") 294, Value.str (Str.ofString "/claim/cut.py") 295, Value.int 44 0, Value.int 2 0, Value.int 0 0, Value.int 0 0, Value.int 3 0, Value.ref 79, Value.bool true, Value.int 181 0, Value.ref 80, Value.none, Value.ref 81, Value.ref 82, Value.ref 83, Value.int 300 0, Value.int 44 0, Value.str (Str.ofString "/claim/cut.py") 301] }) ::
(nat_lit 85, { cls := Value.type "function", data := Data.func { name := Str.ofString "cluster_kind", qualname := Str.ofString "cluster_kind", params := p85, body := FuncBody.stmts b85, scope := c85, globals := 3, closure := [], defaults := Value.none, kwdefaults := Value.none, pyModule := Value.str (Str.ofString "unicore.clusters") 281, code := Value.ref 84 } }) ::
(nat_lit 86, { cls := Value.type "tuple", data := Data.seq #[] }) ::
(nat_lit 88, { cls := Value.type "tuple", data := Data.seq #[Value.str (Str.ofString "left") 306, Value.str (Str.ofString "right") 307] }) ::
(nat_lit 89, { cls := Value.type "tuple", data := Data.seq #[] }) ::
(nat_lit 91, { cls := Value.type "code", data := Data.fields #[Value.str (Str.ofString "cluster_hangul_joins") 303, Value.str (Str.ofString "cluster_hangul_joins") 304, Value.str (Str.ofString "/claim/cut.py") 305, Value.int 50 0, Value.int 2 0, Value.int 0 0, Value.int 0 0, Value.int 3 0, Value.ref 86, Value.bool true, Value.int 181 0, Value.ref 87, Value.none, Value.ref 88, Value.ref 89, Value.ref 90, Value.int 308 0, Value.int 50 0, Value.str (Str.ofString "/claim/cut.py") 309] }) ::
(nat_lit 92, { cls := Value.type "function", data := Data.func { name := Str.ofString "cluster_hangul_joins", qualname := Str.ofString "cluster_hangul_joins", params := p92, body := FuncBody.stmts b92, scope := c92, globals := 3, closure := [], defaults := Value.none, kwdefaults := Value.none, pyModule := Value.str (Str.ofString "unicore.clusters") 281, code := Value.ref 91 } }) ::
(nat_lit 93, { cls := Value.type "tuple", data := Data.seq #[] }) ::
(nat_lit 95, { cls := Value.type "tuple", data := Data.seq #[Value.str (Str.ofString "left") 314, Value.str (Str.ofString "right") 315, Value.str (Str.ofString "is_legacy") 316] }) ::
(nat_lit 96, { cls := Value.type "tuple", data := Data.seq #[] }) ::
(nat_lit 98, { cls := Value.type "code", data := Data.fields #[Value.str (Str.ofString "cluster_pair") 311, Value.str (Str.ofString "cluster_pair") 312, Value.str (Str.ofString "/claim/cut.py") 313, Value.int 56 0, Value.int 3 0, Value.int 0 0, Value.int 0 0, Value.int 3 0, Value.ref 93, Value.bool true, Value.int 181 0, Value.ref 94, Value.none, Value.ref 95, Value.ref 96, Value.ref 97, Value.int 317 0, Value.int 56 0, Value.str (Str.ofString "/claim/cut.py") 318] }) ::
(nat_lit 99, { cls := Value.type "function", data := Data.func { name := Str.ofString "cluster_pair", qualname := Str.ofString "cluster_pair", params := p99, body := FuncBody.stmts b99, scope := c99, globals := 3, closure := [], defaults := Value.none, kwdefaults := Value.none, pyModule := Value.str (Str.ofString "unicore.clusters") 281, code := Value.ref 98 } }) ::
(nat_lit 107, { cls := Value.type "tuple", data := Data.seq #[Value.bool false] }) ::
(nat_lit 108, { cls := Value.type "tuple", data := Data.seq #[] }) ::
(nat_lit 110, { cls := Value.type "tuple", data := Data.seq #[Value.str (Str.ofString "self") 335, Value.str (Str.ofString "data") 336, Value.str (Str.ofString "is_legacy") 337] }) ::
(nat_lit 111, { cls := Value.type "tuple", data := Data.seq #[] }) ::
(nat_lit 113, { cls := Value.type "code", data := Data.fields #[Value.str (Str.ofString "__init__") 332, Value.str (Str.ofString "ClusterStream.__init__") 333, Value.str (Str.ofString "/claim/cut.py") 334, Value.int 68 0, Value.int 3 0, Value.int 0 0, Value.int 0 0, Value.int 3 0, Value.ref 108, Value.bool true, Value.int 181 0, Value.ref 109, Value.none, Value.ref 110, Value.ref 111, Value.ref 112, Value.int 338 0, Value.int 68 0, Value.str (Str.ofString "/claim/cut.py") 339] }) ::
(nat_lit 114, { cls := Value.type "function", data := Data.func { name := Str.ofString "__init__", qualname := Str.ofString "ClusterStream.__init__", params := p114, body := FuncBody.stmts b114, scope := c114, globals := 3, closure := [], defaults := Value.ref 107, kwdefaults := Value.none, pyModule := Value.str (Str.ofString "unicore.clusters") 281, code := Value.ref 113 } }) ::
(nat_lit 115, { cls := Value.type "tuple", data := Data.seq #[] }) ::
(nat_lit 117, { cls := Value.type "tuple", data := Data.seq #[Value.str (Str.ofString "self") 344, Value.str (Str.ofString "code") 345, Value.str (Str.ofString "kind") 346, Value.str (Str.ofString "told") 347, Value.str (Str.ofString "is_picture") 348, Value.str (Str.ofString "word") 349] }) ::
(nat_lit 118, { cls := Value.type "tuple", data := Data.seq #[] }) ::
(nat_lit 120, { cls := Value.type "code", data := Data.fields #[Value.str (Str.ofString "put") 341, Value.str (Str.ofString "ClusterStream.put") 342, Value.str (Str.ofString "/claim/cut.py") 343, Value.int 76 0, Value.int 2 0, Value.int 0 0, Value.int 0 0, Value.int 3 0, Value.ref 115, Value.bool true, Value.int 181 0, Value.ref 116, Value.none, Value.ref 117, Value.ref 118, Value.ref 119, Value.int 350 0, Value.int 76 0, Value.str (Str.ofString "/claim/cut.py") 351] }) ::
(nat_lit 121, { cls := Value.type "function", data := Data.func { name := Str.ofString "put", qualname := Str.ofString "ClusterStream.put", params := p121, body := FuncBody.stmts b121, scope := c121, globals := 3, closure := [], defaults := Value.none, kwdefaults := Value.none, pyModule := Value.str (Str.ofString "unicore.clusters") 281, code := Value.ref 120 } }) ::
(nat_lit 122, { cls := Value.type "tuple", data := Data.seq #[] }) ::
(nat_lit 124, { cls := Value.type "tuple", data := Data.seq #[Value.str (Str.ofString "self") 356, Value.str (Str.ofString "kind") 357, Value.str (Str.ofString "is_picture") 358, Value.str (Str.ofString "word") 359] }) ::
(nat_lit 125, { cls := Value.type "tuple", data := Data.seq #[] }) ::
(nat_lit 127, { cls := Value.type "code", data := Data.fields #[Value.str (Str.ofString "is_held") 353, Value.str (Str.ofString "ClusterStream.is_held") 354, Value.str (Str.ofString "/claim/cut.py") 355, Value.int 88 0, Value.int 4 0, Value.int 0 0, Value.int 0 0, Value.int 3 0, Value.ref 122, Value.bool true, Value.int 181 0, Value.ref 123, Value.none, Value.ref 124, Value.ref 125, Value.ref 126, Value.int 360 0, Value.int 88 0, Value.str (Str.ofString "/claim/cut.py") 361] }) ::
(nat_lit 128, { cls := Value.type "function", data := Data.func { name := Str.ofString "is_held", qualname := Str.ofString "ClusterStream.is_held", params := p128, body := FuncBody.stmts b128, scope := c128, globals := 3, closure := [], defaults := Value.none, kwdefaults := Value.none, pyModule := Value.str (Str.ofString "unicore.clusters") 281, code := Value.ref 127 } }) ::
(nat_lit 129, { cls := Value.type "tuple", data := Data.seq #[] }) ::
(nat_lit 131, { cls := Value.type "tuple", data := Data.seq #[Value.str (Str.ofString "self") 366, Value.str (Str.ofString "kind") 367, Value.str (Str.ofString "is_picture") 368, Value.str (Str.ofString "word") 369] }) ::
(nat_lit 132, { cls := Value.type "tuple", data := Data.seq #[] }) ::
(nat_lit 134, { cls := Value.type "code", data := Data.fields #[Value.str (Str.ofString "take") 363, Value.str (Str.ofString "ClusterStream.take") 364, Value.str (Str.ofString "/claim/cut.py") 365, Value.int 95 0, Value.int 4 0, Value.int 0 0, Value.int 0 0, Value.int 3 0, Value.ref 129, Value.bool true, Value.int 181 0, Value.ref 130, Value.none, Value.ref 131, Value.ref 132, Value.ref 133, Value.int 370 0, Value.int 95 0, Value.str (Str.ofString "/claim/cut.py") 371] }) ::
(nat_lit 135, { cls := Value.type "function", data := Data.func { name := Str.ofString "take", qualname := Str.ofString "ClusterStream.take", params := p135, body := FuncBody.stmts b135, scope := c135, globals := 3, closure := [], defaults := Value.none, kwdefaults := Value.none, pyModule := Value.str (Str.ofString "unicore.clusters") 281, code := Value.ref 134 } }) ::
(nat_lit 136, { cls := Value.type "tuple", data := Data.seq #[Value.str (Str.ofString "conjunct") 373, Value.str (Str.ofString "data_asked") 374, Value.str (Str.ofString "is_legacy") 375, Value.str (Str.ofString "is_odd") 376, Value.str (Str.ofString "kind") 377, Value.str (Str.ofString "picture") 378] }) ::
(nat_lit 137, { cls := Value.type "dict", data := Data.dict #[{ hash := PyData.keyHash P (Str.ofString "__module__"), key := Value.str (Str.ofString "__module__") 327, val := Value.str (Str.ofString "unicore.clusters") 281 }, { hash := PyData.keyHash P (Str.ofString "__firstlineno__"), key := Value.str (Str.ofString "__firstlineno__") 331, val := Value.int 66 330 }, { hash := PyData.keyHash P (Str.ofString "__init__"), key := Value.str (Str.ofString "__init__") 340, val := Value.ref 114 }, { hash := PyData.keyHash P (Str.ofString "put"), key := Value.str (Str.ofString "put") 352, val := Value.ref 121 }, { hash := PyData.keyHash P (Str.ofString "is_held"), key := Value.str (Str.ofString "is_held") 362, val := Value.ref 128 }, { hash := PyData.keyHash P (Str.ofString "take"), key := Value.str (Str.ofString "take") 372, val := Value.ref 135 }, { hash := PyData.keyHash P (Str.ofString "__static_attributes__"), key := Value.str (Str.ofString "__static_attributes__") 379, val := Value.ref 136 }, { hash := PyData.keyHash P (Str.ofString "__dict__"), key := Value.str (Str.ofString "__dict__") 381, val := Value.ref 139 }, { hash := PyData.keyHash P (Str.ofString "__weakref__"), key := Value.str (Str.ofString "__weakref__") 383, val := Value.ref 140 }, { hash := PyData.keyHash P (Str.ofString "__doc__"), key := Value.str (Str.ofString "__doc__") 384, val := Value.none }] 4 }) ::
(nat_lit 138, { cls := Value.type "type", data := Data.cls { name := Str.ofString "ClusterStream", bases := [Value.type "object"], mro := [Value.ref 138, Value.type "object"], ns := 137, qualname := Str.ofString "ClusterStream" }, slots := #[none, none, some (Value.str (Str.ofString "ClusterStream") 320), some (Value.str (Str.ofString "ClusterStream") 328), some (Value.builtin "object.__new__"), some (Value.bool true)] }) ::
(nat_lit 139, { cls := Value.type "getset_descriptor", data := Data.fields #[Value.str (Str.ofString "__dict__") 380, Value.ref 138, Value.builtin "function.__dict__", Value.builtin "function.__dict__#set"] }) ::
(nat_lit 140, { cls := Value.type "getset_descriptor", data := Data.fields #[Value.str (Str.ofString "__weakref__") 382, Value.ref 138, Value.builtin "ExceptionGroup.__weakref__", Value.none] }) ::
(nat_lit 143, { cls := Value.type "tuple", data := Data.seq #[Value.bool false] }) ::
(nat_lit 144, { cls := Value.type "tuple", data := Data.seq #[] }) ::
(nat_lit 147, { cls := Value.type "code", data := Data.fields #[Value.str (Str.ofString "cluster_places") 387, Value.str (Str.ofString "cluster_places") 388, Value.str (Str.ofString "/claim/cut.py") 389, Value.int 110 0, Value.int 3 0, Value.int 0 0, Value.int 0 0, Value.int 3 0, Value.ref 144, Value.bool true, Value.int 181 0, Value.ref 145, Value.none, Value.none, Value.none, Value.ref 146, Value.int 390 0, Value.int 110 0, Value.str (Str.ofString "/claim/cut.py") 391] }) ::
(nat_lit 148, { cls := Value.type "function", data := Data.func { name := Str.ofString "cluster_places", qualname := Str.ofString "cluster_places", params := p148, body := FuncBody.stmts b148, scope := c148, globals := 3, closure := [], defaults := Value.ref 143, kwdefaults := Value.none, pyModule := Value.str (Str.ofString "unicore.clusters") 281, code := Value.ref 147 } }) ::
(nat_lit 149, { cls := Value.type "tuple", data := Data.seq #[Value.bool false] }) ::
(nat_lit 150, { cls := Value.type "tuple", data := Data.seq #[] }) ::
(nat_lit 153, { cls := Value.type "code", data := Data.fields #[Value.str (Str.ofString "clusters_of") 393, Value.str (Str.ofString "clusters_of") 394, Value.str (Str.ofString "/claim/cut.py") 395, Value.int 114 0, Value.int 3 0, Value.int 0 0, Value.int 0 0, Value.int 3 0, Value.ref 150, Value.bool true, Value.int 181 0, Value.ref 151, Value.none, Value.none, Value.none, Value.ref 152, Value.int 396 0, Value.int 114 0, Value.str (Str.ofString "/claim/cut.py") 397] }) ::
(nat_lit 154, { cls := Value.type "function", data := Data.func { name := Str.ofString "clusters_of", qualname := Str.ofString "clusters_of", params := p154, body := FuncBody.stmts b154, scope := c154, globals := 3, closure := [], defaults := Value.ref 149, kwdefaults := Value.none, pyModule := Value.str (Str.ofString "unicore.clusters") 281, code := Value.ref 153 } }) ::
(nat_lit 155, { cls := Value.type "tuple", data := Data.seq #[Value.str (Str.ofString "Cc") 401, Value.str (Str.ofString "Zl") 402, Value.str (Str.ofString "Zp") 403, Value.str (Str.ofString "Cs") 404] }) ::
(nat_lit 156, { cls := Value.type "tuple", data := Data.seq #[Value.str (Str.ofString "Mn") 406, Value.str (Str.ofString "Me") 407] }) ::
(nat_lit 157, { cls := Value.type "tuple", data := Data.seq #[Value.bool false] }) ::
(nat_lit 158, { cls := Value.type "tuple", data := Data.seq #[] }) ::
(nat_lit 160, { cls := Value.type "tuple", data := Data.seq #[Value.str (Str.ofString "code") 420, Value.str (Str.ofString "data") 421, Value.str (Str.ofString "is_wide_ambiguous") 422, Value.str (Str.ofString "kind") 423, Value.str (Str.ofString "wide") 424] }) ::
(nat_lit 161, { cls := Value.type "tuple", data := Data.seq #[] }) ::
(nat_lit 163, { cls := Value.type "code", data := Data.fields #[Value.str (Str.ofString "code_columns") 417, Value.str (Str.ofString "code_columns") 418, Value.str (Str.ofString "/claim/cut.py") 419, Value.int 124 0, Value.int 3 0, Value.int 0 0, Value.int 0 0, Value.int 3 0, Value.ref 158, Value.bool true, Value.int 181 0, Value.ref 159, Value.none, Value.ref 160, Value.ref 161, Value.ref 162, Value.int 425 0, Value.int 124 0, Value.str (Str.ofString "/claim/cut.py") 426] }) ::
(nat_lit 164, { cls := Value.type "function", data := Data.func { name := Str.ofString "code_columns", qualname := Str.ofString "code_columns", params := p164, body := FuncBody.stmts b164, scope := c164, globals := 3, closure := [], defaults := Value.ref 157, kwdefaults := Value.none, pyModule := Value.str (Str.ofString "unicore.widths") 399, code := Value.ref 163 } }) ::
(nat_lit 165, { cls := Value.type "tuple", data := Data.seq #[] }) ::
(nat_lit 168, { cls := Value.type "code", data := Data.fields #[Value.str (Str.ofString "width_is_flag") 428, Value.str (Str.ofString "width_is_flag") 429, Value.str (Str.ofString "/claim/cut.py") 430, Value.int 132 0, Value.int 2 0, Value.int 0 0, Value.int 0 0, Value.int 3 0, Value.ref 165, Value.bool true, Value.int 181 0, Value.ref 166, Value.none, Value.none, Value.none, Value.ref 167, Value.int 431 0, Value.int 132 0, Value.str (Str.ofString "/claim/cut.py") 432] }) ::
(nat_lit 169, { cls := Value.type "function", data := Data.func { name := Str.ofString "width_is_flag", qualname := Str.ofString "width_is_flag", params := p169, body := FuncBody.stmts b169, scope := c169, globals := 3, closure := [], defaults := Value.none, kwdefaults := Value.none, pyModule := Value.str (Str.ofString "unicore.widths") 399, code := Value.ref 168 } }) ::
(nat_lit 170, { cls := Value.type "tuple", data := Data.seq #[] }) ::
(nat_lit 173, { cls := Value.type "code", data := Data.fields #[Value.str (Str.ofString "width_wish") 434, Value.str (Str.ofString "width_wish") 435, Value.str (Str.ofString "/claim/cut.py") 436, Value.int 134 0, Value.int 2 0, Value.int 0 0, Value.int 0 0, Value.int 3 0, Value.ref 170, Value.bool true, Value.int 181 0, Value.ref 171, Value.none, Value.none, Value.none, Value.ref 172, Value.int 437 0, Value.int 134 0, Value.str (Str.ofString "/claim/cut.py") 438] }) ::
(nat_lit 174, { cls := Value.type "function", data := Data.func { name := Str.ofString "width_wish", qualname := Str.ofString "width_wish", params := p174, body := FuncBody.stmts b174, scope := c174, globals := 3, closure := [], defaults := Value.none, kwdefaults := Value.none, pyModule := Value.str (Str.ofString "unicore.widths") 399, code := Value.ref 173 } }) ::
(nat_lit 175, { cls := Value.type "tuple", data := Data.seq #[Value.bool false] }) ::
(nat_lit 176, { cls := Value.type "tuple", data := Data.seq #[] }) ::
(nat_lit 178, { cls := Value.type "tuple", data := Data.seq #[Value.str (Str.ofString "cluster") 443, Value.str (Str.ofString "data") 444, Value.str (Str.ofString "is_wide_ambiguous") 445, Value.str (Str.ofString "widest") 446, Value.str (Str.ofString "code") 447, Value.str (Str.ofString "wish") 448] }) ::
(nat_lit 179, { cls := Value.type "tuple", data := Data.seq #[] }) ::
(nat_lit 181, { cls := Value.type "code", data := Data.fields #[Value.str (Str.ofString "cluster_columns") 440, Value.str (Str.ofString "cluster_columns") 441, Value.str (Str.ofString "/claim/cut.py") 442, Value.int 143 0, Value.int 3 0, Value.int 0 0, Value.int 0 0, Value.int 3 0, Value.ref 176, Value.bool true, Value.int 181 0, Value.ref 177, Value.none, Value.ref 178, Value.ref 179, Value.ref 180, Value.int 449 0, Value.int 143 0, Value.str (Str.ofString "/claim/cut.py") 450] }) ::
(nat_lit 182, { cls := Value.type "function", data := Data.func { name := Str.ofString "cluster_columns", qualname := Str.ofString "cluster_columns", params := p182, body := FuncBody.stmts b182, scope := c182, globals := 3, closure := [], defaults := Value.ref 175, kwdefaults := Value.none, pyModule := Value.str (Str.ofString "unicore.widths") 399, code := Value.ref 181 } }) ::
(nat_lit 183, { cls := Value.type "tuple", data := Data.seq #[Value.bool false] }) ::
(nat_lit 184, { cls := Value.type "tuple", data := Data.seq #[] }) ::
(nat_lit 186, { cls := Value.type "tuple", data := Data.seq #[Value.str (Str.ofString "text") 457, Value.str (Str.ofString "data") 458, Value.str (Str.ofString "is_wide_ambiguous") 459, Value.str (Str.ofString "found") 460, Value.str (Str.ofString "cluster") 461, Value.str (Str.ofString "many") 462] }) ::
(nat_lit 187, { cls := Value.type "tuple", data := Data.seq #[] }) ::
(nat_lit 189, { cls := Value.type "code", data := Data.fields #[Value.str (Str.ofString "cluster_widths") 454, Value.str (Str.ofString "cluster_widths") 455, Value.str (Str.ofString "/claim/cut.py") 456, Value.int 150 0, Value.int 3 0, Value.int 0 0, Value.int 0 0, Value.int 3 0, Value.ref 184, Value.bool true, Value.int 181 0, Value.ref 185, Value.none, Value.ref 186, Value.ref 187, Value.ref 188, Value.int 463 0, Value.int 150 0, Value.str (Str.ofString "/claim/cut.py") 464] }) ::
(nat_lit 190, { cls := Value.type "function", data := Data.func { name := Str.ofString "cluster_widths", qualname := Str.ofString "cluster_widths", params := p190, body := FuncBody.stmts b190, scope := c190, globals := 3, closure := [], defaults := Value.ref 183, kwdefaults := Value.none, pyModule := Value.str (Str.ofString "unicore.unitext") 452, code := Value.ref 189 } }) ::
(nat_lit 191, { cls := Value.type "tuple", data := Data.seq #[] }) ::
(nat_lit 193, { cls := Value.type "tuple", data := Data.seq #[Value.str (Str.ofString "one") 471, Value.str (Str.ofString "other") 472] }) ::
(nat_lit 194, { cls := Value.type "tuple", data := Data.seq #[] }) ::
(nat_lit 196, { cls := Value.type "code", data := Data.fields #[Value.str (Str.ofString "range_are_like") 468, Value.str (Str.ofString "range_are_like") 469, Value.str (Str.ofString "/claim/cut.py") 470, Value.int 161 0, Value.int 2 0, Value.int 0 0, Value.int 0 0, Value.int 3 0, Value.ref 191, Value.bool true, Value.int 181 0, Value.ref 192, Value.none, Value.ref 193, Value.ref 194, Value.ref 195, Value.int 473 0, Value.int 161 0, Value.str (Str.ofString "/claim/cut.py") 474] }) ::
(nat_lit 197, { cls := Value.type "function", data := Data.func { name := Str.ofString "range_are_like", qualname := Str.ofString "range_are_like", params := p197, body := FuncBody.stmts b197, scope := c197, globals := 3, closure := [], defaults := Value.none, kwdefaults := Value.none, pyModule := Value.str (Str.ofString "unicore.ranges") 466, code := Value.ref 196 } }) ::
(nat_lit 205, { cls := Value.type "tuple", data := Data.seq #[] }) ::
(nat_lit 207, { cls := Value.type "tuple", data := Data.seq #[Value.str (Str.ofString "self") 491, Value.str (Str.ofString "default") 492] }) ::
(nat_lit 208, { cls := Value.type "tuple", data := Data.seq #[] }) ::
(nat_lit 210, { cls := Value.type "code", data := Data.fields #[Value.str (Str.ofString "__init__") 488, Value.str (Str.ofString "RangeMap.__init__") 489, Value.str (Str.ofString "/claim/cut.py") 490, Value.int 165 0, Value.int 2 0, Value.int 0 0, Value.int 0 0, Value.int 3 0, Value.ref 205, Value.bool true, Value.int 181 0, Value.ref 206, Value.none, Value.ref 207, Value.ref 208, Value.ref 209, Value.int 493 0, Value.int 165 0, Value.str (Str.ofString "/claim/cut.py") 494] }) ::
(nat_lit 211, { cls := Value.type "function", data := Data.func { name := Str.ofString "__init__", qualname := Str.ofString "RangeMap.__init__", params := p211, body := FuncBody.stmts b211, scope := c211, globals := 3, closure := [], defaults := Value.none, kwdefaults := Value.none, pyModule := Value.str (Str.ofString "unicore.ranges") 466, code := Value.ref 210 } }) ::
(nat_lit 212, { cls := Value.type "tuple", data := Data.seq #[] }) ::
(nat_lit 214, { cls := Value.type "tuple", data := Data.seq #[Value.str (Str.ofString "self") 499, Value.str (Str.ofString "code") 500] }) ::
(nat_lit 215, { cls := Value.type "tuple", data := Data.seq #[] }) ::
(nat_lit 217, { cls := Value.type "code", data := Data.fields #[Value.str (Str.ofString "get") 496, Value.str (Str.ofString "RangeMap.get") 497, Value.str (Str.ofString "/claim/cut.py") 498, Value.int 170 0, Value.int 2 0, Value.int 0 0, Value.int 0 0, Value.int 3 0, Value.ref 212, Value.bool true, Value.int 181 0, Value.ref 213, Value.none, Value.ref 214, Value.ref 215, Value.ref 216, Value.int 501 0, Value.int 170 0, Value.str (Str.ofString "/claim/cut.py") 502] }) ::
(nat_lit 218, { cls := Value.type "function", data := Data.func { name := Str.ofString "get", qualname := Str.ofString "RangeMap.get", params := p218, body := FuncBody.stmts b218, scope := c218, globals := 3, closure := [], defaults := Value.none, kwdefaults := Value.none, pyModule := Value.str (Str.ofString "unicore.ranges") 466, code := Value.ref 217 } }) ::
(nat_lit 219, { cls := Value.type "tuple", data := Data.seq #[] }) ::
(nat_lit 221, { cls := Value.type "tuple", data := Data.seq #[Value.str (Str.ofString "self") 507, Value.str (Str.ofString "first") 508, Value.str (Str.ofString "last") 509, Value.str (Str.ofString "value") 510, Value.str (Str.ofString "low") 511, Value.str (Str.ofString "high") 512, Value.str (Str.ofString "behind") 513, Value.str (Str.ofString "starts") 514, Value.str (Str.ofString "values") 515] }) ::
(nat_lit 222, { cls := Value.type "tuple", data := Data.seq #[] }) ::
(nat_lit 224, { cls := Value.type "code", data := Data.fields #[Value.str (Str.ofString "put") 504, Value.str (Str.ofString "RangeMap.put") 505, Value.str (Str.ofString "/claim/cut.py") 506, Value.int 173 0, Value.int 4 0, Value.int 0 0, Value.int 0 0, Value.int 3 0, Value.ref 219, Value.bool true, Value.int 181 0, Value.ref 220, Value.none, Value.ref 221, Value.ref 222, Value.ref 223, Value.int 516 0, Value.int 173 0, Value.str (Str.ofString "/claim/cut.py") 517] }) ::
(nat_lit 225, { cls := Value.type "function", data := Data.func { name := Str.ofString "put", qualname := Str.ofString "RangeMap.put", params := p225, body := FuncBody.stmts b225, scope := c225, globals := 3, closure := [], defaults := Value.none, kwdefaults := Value.none, pyModule := Value.str (Str.ofString "unicore.ranges") 466, code := Value.ref 224 } }) ::
(nat_lit 226, { cls := Value.type "tuple", data := Data.seq #[] }) ::
(nat_lit 228, { cls := Value.type "tuple", data := Data.seq #[Value.str (Str.ofString "self") 522] }) ::
(nat_lit 229, { cls := Value.type "tuple", data := Data.seq #[] }) ::
(nat_lit 231, { cls := Value.type "code", data := Data.fields #[Value.str (Str.ofString "ranges") 519, Value.str (Str.ofString "RangeMap.ranges") 520, Value.str (Str.ofString "/claim/cut.py") 521, Value.int 188 0, Value.int 1 0, Value.int 0 0, Value.int 0 0, Value.int 3 0, Value.ref 226, Value.bool true, Value.int 181 0, Value.ref 227, Value.none, Value.ref 228, Value.ref 229, Value.ref 230, Value.int 523 0, Value.int 188 0, Value.str (Str.ofString "/claim/cut.py") 524] }) ::
(nat_lit 232, { cls := Value.type "function", data := Data.func { name := Str.ofString "ranges", qualname := Str.ofString "RangeMap.ranges", params := p232, body := FuncBody.stmts b232, scope := c232, globals := 3, closure := [], defaults := Value.none, kwdefaults := Value.none, pyModule := Value.str (Str.ofString "unicore.ranges") 466, code := Value.ref 231 } }) ::
(nat_lit 233, { cls := Value.type "tuple", data := Data.seq #[] }) ::
(nat_lit 235, { cls := Value.type "tuple", data := Data.seq #[Value.str (Str.ofString "self") 529, Value.str (Str.ofString "value") 530] }) ::
(nat_lit 236, { cls := Value.type "tuple", data := Data.seq #[] }) ::
(nat_lit 238, { cls := Value.type "code", data := Data.fields #[Value.str (Str.ofString "set_of") 526, Value.str (Str.ofString "RangeMap.set_of") 527, Value.str (Str.ofString "/claim/cut.py") 528, Value.int 191 0, Value.int 2 0, Value.int 0 0, Value.int 0 0, Value.int 3 0, Value.ref 233, Value.bool true, Value.int 181 0, Value.ref 234, Value.none, Value.ref 235, Value.ref 236, Value.ref 237, Value.int 531 0, Value.int 191 0, Value.str (Str.ofString "/claim/cut.py") 532] }) ::
(nat_lit 239, { cls := Value.type "function", data := Data.func { name := Str.ofString "set_of", qualname := Str.ofString "RangeMap.set_of", params := p239, body := FuncBody.stmts b239, scope := c239, globals := 3, closure := [], defaults := Value.none, kwdefaults := Value.none, pyModule := Value.str (Str.ofString "unicore.ranges") 466, code := Value.ref 238 } }) ::
(nat_lit 240, { cls := Value.type "tuple", data := Data.seq #[Value.str (Str.ofString "default") 534, Value.str (Str.ofString "starts") 535, Value.str (Str.ofString "values") 536] }) ::
(nat_lit 241, { cls := Value.type "dict", data := Data.dict #[{ hash := PyData.keyHash P (Str.ofString "__module__"), key := Value.str (Str.ofString "__module__") 483, val := Value.str (Str.ofString "unicore.ranges") 466 }, { hash := PyData.keyHash P (Str.ofString "__firstlineno__"), key := Value.str (Str.ofString "__firstlineno__") 487, val := Value.int 163 486 }, { hash := PyData.keyHash P (Str.ofString "__init__"), key := Value.str (Str.ofString "__init__") 495, val := Value.ref 211 }, { hash := PyData.keyHash P (Str.ofString "get"), key := Value.str (Str.ofString "get") 503, val := Value.ref 218 }, { hash := PyData.keyHash P (Str.ofString "put"), key := Value.str (Str.ofString "put") 518, val := Value.ref 225 }, { hash := PyData.keyHash P (Str.ofString "ranges"), key := Value.str (Str.ofString "ranges") 525, val := Value.ref 232 }, { hash := PyData.keyHash P (Str.ofString "set_of"), key := Value.str (Str.ofString "set_of") 533, val := Value.ref 239 }, { hash := PyData.keyHash P (Str.ofString "__static_attributes__"), key := Value.str (Str.ofString "__static_attributes__") 537, val := Value.ref 240 }, { hash := PyData.keyHash P (Str.ofString "__dict__"), key := Value.str (Str.ofString "__dict__") 539, val := Value.ref 243 }, { hash := PyData.keyHash P (Str.ofString "__weakref__"), key := Value.str (Str.ofString "__weakref__") 541, val := Value.ref 244 }, { hash := PyData.keyHash P (Str.ofString "__doc__"), key := Value.str (Str.ofString "__doc__") 542, val := Value.none }] 4 }) ::
(nat_lit 242, { cls := Value.type "type", data := Data.cls { name := Str.ofString "RangeMap", bases := [Value.type "object"], mro := [Value.ref 242, Value.type "object"], ns := 241, qualname := Str.ofString "RangeMap" }, slots := #[none, none, some (Value.str (Str.ofString "RangeMap") 476), some (Value.str (Str.ofString "RangeMap") 484), some (Value.builtin "object.__new__"), some (Value.bool true)] }) ::
(nat_lit 243, { cls := Value.type "getset_descriptor", data := Data.fields #[Value.str (Str.ofString "__dict__") 538, Value.ref 242, Value.builtin "function.__dict__", Value.builtin "function.__dict__#set"] }) ::
(nat_lit 244, { cls := Value.type "getset_descriptor", data := Data.fields #[Value.str (Str.ofString "__weakref__") 540, Value.ref 242, Value.builtin "ExceptionGroup.__weakref__", Value.none] }) ::
(nat_lit 247, { cls := Value.type "tuple", data := Data.seq #[] }) ::
(nat_lit 249, { cls := Value.type "tuple", data := Data.seq #[Value.str (Str.ofString "found") 550, Value.str (Str.ofString "name") 551] }) ::
(nat_lit 250, { cls := Value.type "tuple", data := Data.seq #[] }) ::
(nat_lit 252, { cls := Value.type "code", data := Data.fields #[Value.str (Str.ofString "data_defaults") 547, Value.str (Str.ofString "data_defaults") 548, Value.str (Str.ofString "/claim/cut.py") 549, Value.int 194 0, Value.int 0 0, Value.int 0 0, Value.int 0 0, Value.int 3 0, Value.ref 247, Value.bool true, Value.int 181 0, Value.ref 248, Value.none, Value.ref 249, Value.ref 250, Value.ref 251, Value.int 552 0, Value.int 194 0, Value.str (Str.ofString "/claim/cut.py") 553] }) ::
(nat_lit 253, { cls := Value.type "function", data := Data.func { name := Str.ofString "data_defaults", qualname := Str.ofString "data_defaults", params := p253, body := FuncBody.stmts b253, scope := c253, globals := 3, closure := [], defaults := Value.none, kwdefaults := Value.none, pyModule := Value.str (Str.ofString "unicore.data") 545, code := Value.ref 252 } }) ::
(nat_lit 261, { cls := Value.type "tuple", data := Data.seq #[] }) ::
(nat_lit 263, { cls := Value.type "tuple", data := Data.seq #[Value.str (Str.ofString "self") 570] }) ::
(nat_lit 264, { cls := Value.type "tuple", data := Data.seq #[] }) ::
(nat_lit 266, { cls := Value.type "code", data := Data.fields #[Value.str (Str.ofString "__init__") 567, Value.str (Str.ofString "Data.__init__") 568, Value.str (Str.ofString "/claim/cut.py") 569, Value.int 208 0, Value.int 1 0, Value.int 0 0, Value.int 0 0, Value.int 3 0, Value.ref 261, Value.bool true, Value.int 181 0, Value.ref 262, Value.none, Value.ref 263, Value.ref 264, Value.ref 265, Value.int 571 0, Value.int 208 0, Value.str (Str.ofString "/claim/cut.py") 572] }) ::
(nat_lit 267, { cls := Value.type "function", data := Data.func { name := Str.ofString "__init__", qualname := Str.ofString "Data.__init__", params := p267, body := FuncBody.stmts b267, scope := c267, globals := 3, closure := [], defaults := Value.none, kwdefaults := Value.none, pyModule := Value.str (Str.ofString "unicore.data") 545, code := Value.ref 266 } }) ::
(nat_lit 268, { cls := Value.type "tuple", data := Data.seq #[] }) ::
(nat_lit 270, { cls := Value.type "tuple", data := Data.seq #[Value.str (Str.ofString "self") 577, Value.str (Str.ofString "name") 578, Value.str (Str.ofString "first") 579, Value.str (Str.ofString "last") 580, Value.str (Str.ofString "value") 581] }) ::
(nat_lit 271, { cls := Value.type "tuple", data := Data.seq #[] }) ::
(nat_lit 273, { cls := Value.type "code", data := Data.fields #[Value.str (Str.ofString "put") 574, Value.str (Str.ofString "Data.put") 575, Value.str (Str.ofString "/claim/cut.py") 576, Value.int 214 0, Value.int 5 0, Value.int 0 0, Value.int 0 0, Value.int 3 0, Value.ref 268, Value.bool true, Value.int 181 0, Value.ref 269, Value.none, Value.ref 270, Value.ref 271, Value.ref 272, Value.int 582 0, Value.int 214 0, Value.str (Str.ofString "/claim/cut.py") 583] }) ::
(nat_lit 274, { cls := Value.type "function", data := Data.func { name := Str.ofString "put", qualname := Str.ofString "Data.put", params := p274, body := FuncBody.stmts b274, scope := c274, globals := 3, closure := [], defaults := Value.none, kwdefaults := Value.none, pyModule := Value.str (Str.ofString "unicore.data") 545, code := Value.ref 273 } }) ::
(nat_lit 275, { cls := Value.type "tuple", data := Data.seq #[] }) ::
(nat_lit 277, { cls := Value.type "tuple", data := Data.seq #[Value.str (Str.ofString "self") 588, Value.str (Str.ofString "name") 589, Value.str (Str.ofString "code") 590] }) ::
(nat_lit 278, { cls := Value.type "tuple", data := Data.seq #[] }) ::
(nat_lit 280, { cls := Value.type "code", data := Data.fields #[Value.str (Str.ofString "get") 585, Value.str (Str.ofString "Data.get") 586, Value.str (Str.ofString "/claim/cut.py") 587, Value.int 217 0, Value.int 3 0, Value.int 0 0, Value.int 0 0, Value.int 3 0, Value.ref 275, Value.bool true, Value.int 181 0, Value.ref 276, Value.none, Value.ref 277, Value.ref 278, Value.ref 279, Value.int 591 0, Value.int 217 0, Value.str (Str.ofString "/claim/cut.py") 592] }) ::
(nat_lit 281, { cls := Value.type "function", data := Data.func { name := Str.ofString "get", qualname := Str.ofString "Data.get", params := p281, body := FuncBody.stmts b281, scope := c281, globals := 3, closure := [], defaults := Value.none, kwdefaults := Value.none, pyModule := Value.str (Str.ofString "unicore.data") 545, code := Value.ref 280 } }) ::
(nat_lit 282, { cls := Value.type "tuple", data := Data.seq #[] }) ::
(nat_lit 284, { cls := Value.type "tuple", data := Data.seq #[Value.str (Str.ofString "self") 597, Value.str (Str.ofString "name") 598] }) ::
(nat_lit 285, { cls := Value.type "tuple", data := Data.seq #[] }) ::
(nat_lit 287, { cls := Value.type "code", data := Data.fields #[Value.str (Str.ofString "map_of") 594, Value.str (Str.ofString "Data.map_of") 595, Value.str (Str.ofString "/claim/cut.py") 596, Value.int 222 0, Value.int 2 0, Value.int 0 0, Value.int 0 0, Value.int 3 0, Value.ref 282, Value.bool true, Value.int 181 0, Value.ref 283, Value.none, Value.ref 284, Value.ref 285, Value.ref 286, Value.int 599 0, Value.int 222 0, Value.str (Str.ofString "/claim/cut.py") 600] }) ::
(nat_lit 288, { cls := Value.type "function", data := Data.func { name := Str.ofString "map_of", qualname := Str.ofString "Data.map_of", params := p288, body := FuncBody.stmts b288, scope := c288, globals := 3, closure := [], defaults := Value.none, kwdefaults := Value.none, pyModule := Value.str (Str.ofString "unicore.data") 545, code := Value.ref 287 } }) ::
(nat_lit 289, { cls := Value.type "tuple", data := Data.seq #[Value.str (Str.ofString "defaults") 602, Value.str (Str.ofString "maps") 603, Value.str (Str.ofString "properties") 604, Value.str (Str.ofString "words") 605] }) ::
(nat_lit 290, { cls := Value.type "dict", data := Data.dict #[{ hash := PyData.keyHash P (Str.ofString "__module__"), key := Value.str (Str.ofString "__module__") 562, val := Value.str (Str.ofString "unicore.data") 545 }, { hash := PyData.keyHash P (Str.ofString "__firstlineno__"), key := Value.str (Str.ofString "__firstlineno__") 566, val := Value.int 206 565 }, { hash := PyData.keyHash P (Str.ofString "__init__"), key := Value.str (Str.ofString "__init__") 573, val := Value.ref 267 }, { hash := PyData.keyHash P (Str.ofString "put"), key := Value.str (Str.ofString "put") 584, val := Value.ref 274 }, { hash := PyData.keyHash P (Str.ofString "get"), key := Value.str (Str.ofString "get") 593, val := Value.ref 281 }, { hash := PyData.keyHash P (Str.ofString "map_of"), key := Value.str (Str.ofString "map_of") 601, val := Value.ref 288 }, { hash := PyData.keyHash P (Str.ofString "__static_attributes__"), key := Value.str (Str.ofString "__static_attributes__") 606, val := Value.ref 289 }, { hash := PyData.keyHash P (Str.ofString "__dict__"), key := Value.str (Str.ofString "__dict__") 608, val := Value.ref 292 }, { hash := PyData.keyHash P (Str.ofString "__weakref__"), key := Value.str (Str.ofString "__weakref__") 610, val := Value.ref 293 }, { hash := PyData.keyHash P (Str.ofString "__doc__"), key := Value.str (Str.ofString "__doc__") 611, val := Value.none }] 4 }) ::
(nat_lit 291, { cls := Value.type "type", data := Data.cls { name := Str.ofString "Data", bases := [Value.type "object"], mro := [Value.ref 291, Value.type "object"], ns := 290, qualname := Str.ofString "Data" }, slots := #[none, none, some (Value.str (Str.ofString "Data") 555), some (Value.str (Str.ofString "Data") 563), some (Value.builtin "object.__new__"), some (Value.bool true)] }) ::
(nat_lit 292, { cls := Value.type "getset_descriptor", data := Data.fields #[Value.str (Str.ofString "__dict__") 607, Value.ref 291, Value.builtin "function.__dict__", Value.builtin "function.__dict__#set"] }) ::
(nat_lit 293, { cls := Value.type "getset_descriptor", data := Data.fields #[Value.str (Str.ofString "__weakref__") 609, Value.ref 291, Value.builtin "ExceptionGroup.__weakref__", Value.none] }) ::
(nat_lit 296, { cls := Value.type "tuple", data := Data.seq #[] }) ::
(nat_lit 298, { cls := Value.type "tuple", data := Data.seq #[Value.str (Str.ofString "found") 619] }) ::
(nat_lit 299, { cls := Value.type "tuple", data := Data.seq #[] }) ::
(nat_lit 301, { cls := Value.type "code", data := Data.fields #[Value.str (Str.ofString "_law_signs") 616, Value.str (Str.ofString "_law_signs") 617, Value.str (Str.ofString "/claim/cut.py") 618, Value.int 227 0, Value.int 0 0, Value.int 0 0, Value.int 0 0, Value.int 3 0, Value.ref 296, Value.bool true, Value.int 181 0, Value.ref 297, Value.none, Value.ref 298, Value.ref 299, Value.ref 300, Value.int 620 0, Value.int 227 0, Value.str (Str.ofString "/claim/cut.py") 621] }) ::
(nat_lit 302, { cls := Value.type "function", data := Data.func { name := Str.ofString "_law_signs", qualname := Str.ofString "_law_signs", params := p302, body := FuncBody.stmts b302, scope := c302, globals := 3, closure := [], defaults := Value.none, kwdefaults := Value.none, pyModule := Value.str (Str.ofString "law_pb0596_01") 614, code := Value.ref 301 } }) ::
(nat_lit 303, { cls := Value.type "tuple", data := Data.seq #[] }) ::
(nat_lit 305, { cls := Value.type "tuple", data := Data.seq #[Value.str (Str.ofString "signs") 626, Value.str (Str.ofString "data") 627, Value.str (Str.ofString "code") 628, Value.str (Str.ofString "kind") 629, Value.str (Str.ofString "wide") 630, Value.str (Str.ofString "cluster") 631, Value.str (Str.ofString "is_picture") 632, Value.str (Str.ofString "is_hidden") 633, Value.str (Str.ofString "name") 634, Value.str (Str.ofString "value") 635] }) ::
(nat_lit 306, { cls := Value.type "tuple", data := Data.seq #[] }) ::
(nat_lit 308, { cls := Value.type "code", data := Data.fields #[Value.str (Str.ofString "_law_data") 623, Value.str (Str.ofString "_law_data") 624, Value.str (Str.ofString "/claim/cut.py") 625, Value.int 237 0, Value.int 1 0, Value.int 0 0, Value.int 0 0, Value.int 3 0, Value.ref 303, Value.bool true, Value.int 181 0, Value.ref 304, Value.none, Value.ref 305, Value.ref 306, Value.ref 307, Value.int 636 0, Value.int 237 0, Value.str (Str.ofString "/claim/cut.py") 637] }) ::
(nat_lit 309, { cls := Value.type "function", data := Data.func { name := Str.ofString "_law_data", qualname := Str.ofString "_law_data", params := p309, body := FuncBody.stmts b309, scope := c309, globals := 3, closure := [], defaults := Value.none, kwdefaults := Value.none, pyModule := Value.str (Str.ofString "law_pb0596_01") 614, code := Value.ref 308 } }) ::
(nat_lit 310, { cls := Value.type "tuple", data := Data.seq #[] }) ::
(nat_lit 312, { cls := Value.type "tuple", data := Data.seq #[Value.str (Str.ofString "some") 642, Value.str (Str.ofString "sign") 643, Value.str (Str.ofString "last") 644, Value.str (Str.ofString "hard") 645, Value.str (Str.ofString "pairs") 646, Value.str (Str.ofString "k") 647, Value.str (Str.ofString "flags") 648] }) ::
(nat_lit 313, { cls := Value.type "tuple", data := Data.seq #[] }) ::
(nat_lit 315, { cls := Value.type "code", data := Data.fields #[Value.str (Str.ofString "_law_is_one") 639, Value.str (Str.ofString "_law_is_one") 640, Value.str (Str.ofString "/claim/cut.py") 641, Value.int 247 0, Value.int 2 0, Value.int 0 0, Value.int 0 0, Value.int 3 0, Value.ref 310, Value.bool true, Value.int 181 0, Value.ref 311, Value.none, Value.ref 312, Value.ref 313, Value.ref 314, Value.int 649 0, Value.int 247 0, Value.str (Str.ofString "/claim/cut.py") 650] }) ::
(nat_lit 316, { cls := Value.type "function", data := Data.func { name := Str.ofString "_law_is_one", qualname := Str.ofString "_law_is_one", params := p316, body := FuncBody.stmts b316, scope := c316, globals := 3, closure := [], defaults := Value.none, kwdefaults := Value.none, pyModule := Value.str (Str.ofString "law_pb0596_01") 614, code := Value.ref 315 } }) ::
(nat_lit 317, { cls := Value.type "tuple", data := Data.seq #[] }) ::
(nat_lit 319, { cls := Value.type "tuple", data := Data.seq #[Value.str (Str.ofString "signs") 655, Value.str (Str.ofString "found") 656, Value.str (Str.ofString "sign") 657] }) ::
(nat_lit 320, { cls := Value.type "tuple", data := Data.seq #[] }) ::
(nat_lit 322, { cls := Value.type "code", data := Data.fields #[Value.str (Str.ofString "_law_clusters") 652, Value.str (Str.ofString "_law_clusters") 653, Value.str (Str.ofString "/claim/cut.py") 654, Value.int 267 0, Value.int 1 0, Value.int 0 0, Value.int 0 0, Value.int 3 0, Value.ref 317, Value.bool true, Value.int 181 0, Value.ref 318, Value.none, Value.ref 319, Value.ref 320, Value.ref 321, Value.int 658 0, Value.int 267 0, Value.str (Str.ofString "/claim/cut.py") 659] }) ::
(nat_lit 323, { cls := Value.type "function", data := Data.func { name := Str.ofString "_law_clusters", qualname := Str.ofString "_law_clusters", params := p323, body := FuncBody.stmts b323, scope := c323, globals := 3, closure := [], defaults := Value.none, kwdefaults := Value.none, pyModule := Value.str (Str.ofString "law_pb0596_01") 614, code := Value.ref 322 } }) ::
(nat_lit 324, { cls := Value.type "tuple", data := Data.seq #[] }) ::
(nat_lit 327, { cls := Value.type "code", data := Data.fields #[Value.str (Str.ofString "_law_columns") 661, Value.str (Str.ofString "_law_columns") 662, Value.str (Str.ofString "/claim/cut.py") 663, Value.int 275 0, Value.int 2 0, Value.int 0 0, Value.int 0 0, Value.int 3 0, Value.ref 324, Value.bool true, Value.int 181 0, Value.ref 325, Value.none, Value.none, Value.none, Value.ref 326, Value.int 664 0, Value.int 275 0, Value.str (Str.ofString "/claim/cut.py") 665] }) ::
(nat_lit 328, { cls := Value.type "function", data := Data.func { name := Str.ofString "_law_columns", qualname := Str.ofString "_law_columns", params := p328, body := FuncBody.stmts b328, scope := c328, globals := 3, closure := [], defaults := Value.none, kwdefaults := Value.none, pyModule := Value.str (Str.ofString "law_pb0596_01") 614, code := Value.ref 327 } }) ::
(nat_lit 329, { cls := Value.type "tuple", data := Data.seq #[] }) ::
(nat_lit 332, { cls := Value.type "code", data := Data.fields #[Value.str (Str.ofString "law") 667, Value.str (Str.ofString "law") 668, Value.str (Str.ofString "/claim/cut.py") 669, Value.int 290 0, Value.int 1 0, Value.int 0 0, Value.int 0 0, Value.int 3 0, Value.ref 329, Value.bool true, Value.int 181 0, Value.ref 330, Value.none, Value.none, Value.none, Value.ref 331, Value.int 670 0, Value.int 290 0, Value.str (Str.ofString "/claim/cut.py") 671] }) ::
(nat_lit 333, { cls := Value.type "function", data := Data.func { name := Str.ofString "law", qualname := Str.ofString "law", params := p333, body := FuncBody.stmts b333, scope := c333, globals := 3, closure := [], defaults := Value.none, kwdefaults := Value.none, pyModule := Value.str (Str.ofString "law_pb0596_01") 614, code := Value.ref 332 } }) ::
[]) : Frag)) _ (by conv => { lhs; whnf }) _ (by conv => { lhs; whnf }) _ (by conv => { lhs; whnf }) _ (by conv => { lhs; whnf }) _ (by conv => { lhs; whnf }) _ (by conv => { lhs; whnf }) _ (by conv => { lhs; whnf }) _ (by conv => { lhs; whnf }) _ (by conv => { lhs; whnf }) _ (by conv => { lhs; whnf }) _ (by conv => { lhs; whnf }) _ (by conv => { lhs; whnf }) _ (by conv => { lhs; whnf }) _ (by conv => { lhs; whnf }) _ (by conv => { lhs; whnf }) _ (by conv => { lhs; whnf }) _ (by conv => { lhs; whnf }) _ (by conv => { lhs; whnf }) _ (by conv => { lhs; whnf }) _ (by conv => { lhs; whnf }) _ (by conv => { lhs; whnf }) _ (by conv => { lhs; whnf }) _ (by conv => { lhs; whnf }) _ (by conv => { lhs; whnf }) _ (by conv => { lhs; whnf }) _ (by conv => { lhs; whnf }) _ (by conv => { lhs; whnf }) _ (by conv => { lhs; whnf }) _ (by conv => { lhs; whnf }) _ (by conv => { lhs; whnf }) _ (by conv => { lhs; whnf }) _ (by conv => { lhs; whnf }) _ (by conv => { lhs; whnf }) _ (by conv => { lhs; whnf }) _ (by conv => { lhs; whnf }) _ (by conv => { lhs; whnf }) _ (by conv => { lhs; whnf }) _ (by conv => { lhs; whnf }) _ (by conv => { lhs; whnf }) _ (by conv => { lhs; whnf }) _ (by conv => { lhs; whnf }) _ (by conv => { lhs; whnf }) _ (by conv => { lhs; whnf }) _ (by conv => { lhs; whnf }) _ (by conv => { lhs; whnf }) _ (by conv => { lhs; whnf }) _ (by conv => { lhs; whnf }) _ (by conv => { lhs; whnf }) _ (by conv => { lhs; whnf }) _ (by conv => { lhs; whnf }) _ (by conv => { lhs; whnf }) _ (by conv => { lhs; whnf }) _ (by conv => { lhs; whnf }) _ (by conv => { lhs; whnf }) _ (by conv => { lhs; whnf }) _ (by conv => { lhs; whnf }) _ (by conv => { lhs; whnf }) _ (by conv => { lhs; whnf }) _ (by conv => { lhs; whnf }) _ (by conv => { lhs; whnf }) _ (by conv => { lhs; whnf }) _ (by conv => { lhs; whnf }) _ (by conv => { lhs; whnf }) _ (by conv => { lhs; whnf }) _ (by conv => { lhs; whnf }) _ (by conv => { lhs; whnf }) _ (by conv => { lhs; whnf }) _ (by conv => { lhs; whnf }) _ (by conv => { lhs; whnf }) _ (by conv => { lhs; whnf }) _ (by conv => { lhs; whnf }) _ (by conv => { lhs; whnf }) _ (by conv => { lhs; whnf }) _ (by conv => { lhs; whnf }) _ (by conv => { lhs; whnf }) _ (by conv => { lhs; whnf }) _ (by conv => { lhs; whnf }) _ (by conv => { lhs; whnf }) _ (by conv => { lhs; whnf }) _ (by conv => { lhs; whnf }) _ (by conv => { lhs; whnf }) _ (by conv => { lhs; whnf }) _ (by conv => { lhs; whnf }) _ (by conv => { lhs; whnf }) _ (by conv => { lhs; whnf }) _ (by conv => { lhs; whnf }) _ (by conv => { lhs; whnf }) _ (by conv => { lhs; whnf }) _ (by conv => { lhs; whnf }) _ (by conv => { lhs; whnf }) _ (by conv => { lhs; whnf }) _ (by conv => { lhs; whnf }) _ (by conv => { lhs; whnf }) _ (by conv => { lhs; whnf }) _ (by conv => { lhs; whnf }) _ (by conv => { lhs; whnf }) _ (by conv => { lhs; whnf }) _ (by conv => { lhs; whnf }) _ (by conv => { lhs; whnf }) _ (by conv => { lhs; whnf }) _ (by conv => { lhs; whnf }) _ (by conv => { lhs; whnf }) _ (by conv => { lhs; whnf }) _ (by conv => { lhs; whnf }) _ (by conv => { lhs; whnf }) _ (by conv => { lhs; whnf }) _ (by conv => { lhs; whnf }) _ (by conv => { lhs; whnf })
end Mine

end

section
open PySem PySem.W PyProof.Rows
namespace Mine
set_option maxRecDepth 100000
set_option maxHeartbeats 0
-- the run over the tree heap; `st` takes a step, `ok` looks at the thread ahead of it
noncomputable def turnT (st : SharedT → Thread → Option (SharedT × Thread)) (ok : Thread → Bool) (go : SharedT → Thread → Option SharedT) (s : SharedT) (t : Thread) : Option SharedT :=
  bif through t then some s else bif ok t then Option.rec none (fun q => Prod.rec go q) (st s t) else none
noncomputable def runT (st : SharedT → Thread → Option (SharedT × Thread)) (ok : Thread → Bool) (n : Nat) : SharedT → Thread → Option SharedT := Nat.rec (fun _ _ => none) (fun _ => turnT st ok) n
theorem turnT_of {tb : String → Option Builtin} {p : Program} {w : World} {n₀ n : Nat} {ann : Option Value} {go : SharedT → Thread → Option SharedT} (ih : ∀ s t r, go s t = some r → topRun tb p w n₀ ann n s.abs t = some r.abs) (s : SharedT) (t : Thread) (r : SharedT) (h : turnT (stepT (denote tb) p w) (stepOk n₀ ann) go s t = some r) :
    topRun tb p w n₀ ann (n + 1) s.abs t = some r.abs := by
  unfold turnT at h
  unfold topRun
  cases a : through t <;> rw [a] at h
  · cases b : stepOk n₀ ann t <;> rw [b] at h
    · cases h
    · cases c : stepT (denote tb) p w s t <;> rw [c] at h
      · cases h
      · rw [stepT_spec c]; exact ih _ _ _ h
  · cases h; rfl
theorem runT_of {tb : String → Option Builtin} {p : Program} {w : World} {n₀ : Nat} {ann : Option Value} (n : Nat) : ∀ (s : SharedT) (t : Thread) (r : SharedT), runT (stepT (denote tb) p w) (stepOk n₀ ann) n s t = some r → topRun tb p w n₀ ann n s.abs t = some r.abs :=
  Nat.rec (fun _ _ _ h => Option.noConfusion rfl (heq_of_eq h)) (fun _ ih => turnT_of ih) n
noncomputable def bt (l : List Obj) (f : Nat) : Nat → Nat → BT := Nat.rec (fun _ _ => .nil) (fun _ go a b => Option.rec .nil (fun o => .node o (go (2 * a) (a + b)) (go (2 * a) (2 * a + b))) l[b]?) f
theorem top_of {p : Program} {w : World} {N : Nat} {s₀ s₁ : Shared} (h0 : (s₀.heap.isNs mainGlobals && s₀.gens.size == 0) = true)
    (h : topRun treeTable p w s₀.heap.objs.size (s₀.heap.nsMap mainGlobals "__annotations__") N s₀ (topStub p) = some s₁)
    (h2 : (staticsOk (importedModules p.main.body) s₀.heap s₁.heap && namesBound p s₁.heap && gensDone s₁ && laidKept s₀.heap s₁.heap) = true) : topFrom treeTable p w N s₀ = some s₁ := by
  unfold topFrom
  rw [h0]
  simp only [h, Option.bind_some, h2]
theorem left_of {p q : Program} {loose : List Str} {Xt : Shared → Bool} {α : Type} {Yf : Shared → α} {Ya : World → α} {N : Nat} {H : Params → Heap} {d : Drawn} {k : Nat} {S : World → OsState → SharedT}
    (open_ : ∀ w : World, (fencedOpening treeTable p w N).map (fun s => (s.heap, s.gens, s.drawn, s.toks)) = some (H w.params, Array.mk [], d, k))
    (abs_ : ∀ w os, (S w os).abs = ⟨H w.params, Array.mk [], d, k, os⟩)
    (la : ∀ (w : World) (os : OsState), (runT (stepT (denote treeTable) p w) (stepOk (H w.params).objs.size ((H w.params).nsMap mainGlobals "__annotations__")) N (S w os) (topStub p)).map (fun r =>
      ((H w.params).isNs mainGlobals && (staticsOk (importedModules p.main.body) (H w.params) r.abs.heap && namesBound p r.abs.heap && gensDone r.abs && laidKept (H w.params) r.abs.heap), Yf r.abs)) = some (true, Ya w))
    (lb : ∀ (w : World) (os : OsState), (runT (stepT (denote treeTable) p w) (stepOk (H w.params).objs.size ((H w.params).nsMap mainGlobals "__annotations__")) N (S w os) (topStub p)).map (fun r =>
      openSeen q loose (importedModules p.main.body) Xt true r.abs) = some (openGood q loose)) : LeftO p q loose Xt Yf Ya N := fun w => by
  obtain ⟨s₀, e, e'⟩ := Option.map_eq_some_iff.mp (open_ w)
  obtain ⟨h₀, g₀, d₀, k₀, os⟩ := s₀
  injection e' with e1 e'
  injection e' with e2 e'
  injection e' with e3 e4
  dsimp only at e1 e2 e3 e4
  subst e1 e2 e3 e4
  obtain ⟨r, r1, r2⟩ := Option.map_eq_some_iff.mp (la w os)
  obtain ⟨r', r3, r4⟩ := Option.map_eq_some_iff.mp (lb w os)
  cases r1.symm.trans r3
  injection r2 with r5 r6
  obtain ⟨a0, a1⟩ := Bool.and_eq_true_iff.mp r5
  have run := abs_ w os ▸ runT_of _ _ _ _ r1
  have top : topFrom treeTable p w N ⟨H w.params, Array.mk [], _, _, os⟩ = some r.abs := top_of (by rw [a0]; rfl) run a1
  unfold openEnds
  rw [e, Option.bind_some, top, Option.map_some, r4, r6]
noncomputable def s9 (w : World) (os : OsState) : SharedT := ⟨bt (boot_heap w.params).objs.toList 12 1 0, (boot_heap w.params).objs.size, (boot_heap w.params).life, #[], boot_drawn, boot_toks, os⟩
theorem s9_abs : ∀ w os, (s9 w os).abs = ⟨boot_heap w.params, #[], boot_drawn, boot_toks, os⟩ := by
  intro w os
  kernel_rfl
noncomputable def as9 : List Addr := [2, 3, 15, 17, 18, 20, 21, 22, 29, 30, 32, 33, 35, 36, 37, 38, 39, 40, 43, 50, 51, 52, 55, 57, 58, 60, 61, 62, 64, 65, 67, 68, 69, 71, 72, 74, 75, 76, 77, 78, 79, 81, 82, 84, 85, 86, 88, 89, 91, 92, 93, 95, 96, 98, 99, 107, 108, 110, 111, 113, 114, 115, 117, 118, 120, 121, 122, 124, 125, 127, 128, 129, 131, 132, 134, 135, 136, 137, 138, 139, 140, 143, 144, 147, 148, 149, 150, 153, 154, 155, 156, 157, 158, 160, 161, 163, 164, 165, 168, 169, 170, 173, 174, 175, 176, 178, 179, 181, 182, 183, 184, 186, 187, 189, 190, 191, 193, 194, 196, 197, 205, 207, 208, 210, 211, 212, 214, 215, 217, 218, 219, 221, 222, 224, 225, 226, 228, 229, 231, 232, 233, 235, 236, 238, 239, 240, 241, 242, 243, 244, 247, 249, 250, 252, 253, 261, 263, 264, 266, 267, 268, 270, 271, 273, 274, 275, 277, 278, 280, 281, 282, 284, 285, 287, 288, 289, 290, 291, 292, 293, 296, 298, 299, 301, 302, 303, 305, 306, 308, 309, 310, 312, 313, 315, 316, 317, 319, 320, 322, 323, 324, 327, 328, 329, 332, 333]
noncomputable def keep9 : List Nat := [0, 2, 3, 4, 5, 7, 8, 9, 10, 11, 12, 13, 15, 16, 17, 18, 19, 20, 21, 25, 26, 27, 28, 29, 30, 32, 33, 38, 39, 41, 42, 44, 45, 46, 47, 48, 49]
noncomputable def q9 : Program := view PySem.Challenge.pw_pb0596_01 keep9
noncomputable abbrev loose9 : List Str := [Str.ofString "UniError", Str.ofString "SYLLABLES", Str.ofString "cluster_places", Str.ofString "clusters_of", Str.ofString "code_columns", Str.ofString "cluster_columns", Str.ofString "cluster_widths"]
noncomputable abbrev lv9 : List (Str × WData) := [(Str.ofString "SYLLABLES", WData.int 11172)]
theorem as9_eq : ∀ P, as9 = (K9 P).map (·.1) := fun _ => by kernel_rfl
noncomputable abbrev hk9 : Hook := kHook K9 as9 as9_eq

noncomputable abbrev X9 : Shared → Bool := fun s => xlAt q9 lv9 s && recOk (RowW.records PySem.Challenge.rw_pb0596_01.row.toRowW) s
theorem look9a : ∀ (w : World) (os : OsState), (runT (stepT (denote treeTable) PySem.Challenge.pw_pb0596_01 w) (stepOk (boot_heap w.params).objs.size ((boot_heap w.params).nsMap mainGlobals "__annotations__")) 4856 (s9 w os) (topStub PySem.Challenge.pw_pb0596_01)).map (fun r =>
    ((boot_heap w.params).isNs mainGlobals && (staticsOk (importedModules PySem.Challenge.pw_pb0596_01.main.body) (boot_heap w.params) r.abs.heap && namesBound PySem.Challenge.pw_pb0596_01 r.abs.heap && gensDone r.abs && laidKept (boot_heap w.params) r.abs.heap), Hook.obs hk9 r.abs)) = some (true, Hook.val hk9 w) := by
  rw [PySem.W.Fast.te14364793385576792824, PySem.W.Fast.te10156331382660048174, PySem.W.Fast.te11892475500146522536, PySem.W.Fast.te6613529449190102663]
  intro w os
  kernel_rfl
theorem look9b : ∀ (w : World) (os : OsState), (runT (stepT (denote treeTable) PySem.Challenge.pw_pb0596_01 w) (stepOk (boot_heap w.params).objs.size ((boot_heap w.params).nsMap mainGlobals "__annotations__")) 4856 (s9 w os) (topStub PySem.Challenge.pw_pb0596_01)).map (fun r => openSeen q9 loose9 (importedModules PySem.Challenge.pw_pb0596_01.main.body) X9 true r.abs) = some (openGood q9 loose9) := by
  rw [PySem.W.Fast.te14364793385576792824, PySem.W.Fast.te10156331382660048174, PySem.W.Fast.te11892475500146522536, PySem.W.Fast.te6613529449190102663, PySem.W.Fast.te4187177175401517315]
  intro w os
  kernel_rfl
theorem left9 : LeftO PySem.Challenge.pw_pb0596_01 q9 loose9 X9 (Hook.obs hk9) (Hook.val hk9) 4856 :=
  left_of (boot_open rfl rfl (fun _ => rfl)) s9_abs look9a look9b
end Mine

end

section
open PySem PySem.W PyProof.Rows
namespace Mine
set_option maxRecDepth 100000
set_option maxHeartbeats 0
theorem said9 : PySem.Challenge.rw_pb0596_01.wellSaid = true := by
  unfold OpenLaw.wellSaid OpenRow.wellSaid OpenRow.partSaid looksOpen
  repeat' with_reducible refine look_both ?_ ?_
  all_goals decide +kernel
theorem hd9 {d : DefRec} {kwd : List (Str × PySem.Expr)} (hdef : defOf q9 (Str.ofString "law") = some (d, kwd)) (hp : PySem.Challenge.pw_pb0596_01.theDef (Str.ofString "law") = some (d.params, d.body, d.scope)) (hk : kwWritten? d.params.kwonlyargs d.params.kw_defaults = some kwd)
    (walk : WalkO q9 loose9 (XL q9 lv9) (Hook.says hk9) PySem.Challenge.rw_pb0596_01.row.toRowW d kwd fun f vs => PySem.call f vs) : PySem.Challenge.rw_pb0596_01.Holds := by
  refine holds_law said9 fun said => ?_
  refine holds_open (q := q9) (loose := loose9) (Xt := fun s => xlAt q9 lv9 s && recOk (RowW.records PySem.Challenge.rw_pb0596_01.row.toRowW) s) (XP := XL q9 lv9) (Yf := Hook.obs hk9) (Ya := Hook.val hk9) (YP := Hook.says hk9) (N := 4856) left9 (Hook.of hk9) (Hook.keeps hk9) (fun s e => xl_of s (Bool.and_eq_true_iff.mp e).1) XL.keeps hdef hp hk (fun s e => recFacts_of (Bool.and_eq_true_iff.mp e).2) rfl (by first | assumption | decide +kernel) (by decide +kernel) ⟨rfl, rfl, rfl, rfl, rfl, by decide +kernel⟩ ?hw walk
  case hw => w_witness2
end Mine

end

section
open PySem PySem.W PyProof.Rows
namespace Mine
set_option maxRecDepth 100000
noncomputable abbrev pw : Program := PySem.Challenge.pw_pb0596_01

noncomputable def PureC (w : World) (p : Program) (loose : List Str) (mean : ExcName → Option Value) (mg mb : Str → Option Value) (h₀ : Heap) (dep : Nat) (f : Addr) (vs : List Value) (R : Value → Prop) : Prop :=
  ∀ (dp un : Nat) (gd : Option (List Code)) (cn : Str) (cs : Scope) (a : Addr) (ccd : Value) (cl : List (Str × Addr)) (outer : List Env) (A₀ : Around) (base : Heap) (L : Addr) (m : Str → Option Value) (news : List (Addr × Obj)) (s : Shared) (Q E : Value → Shared → Prop),
    Below A₀ base outer h₀ → Fr h₀ L s.heap m → Frag.In (K9 w.params) h₀ → News h₀ L s.heap news → Top p loose mean mg mb h₀ → cs.kind = .function → dp + dep < recursionLimit → un + 8 * dep < cLine →
    (∀ v h' tk', R v → Fr h₀ L h' m → News h₀ L h' news → Q v { s with heap := h', toks := tk' }) →
    wpAny (model pw w) (ktrTop dp un gd cn cs L a ccd cl outer) (call (.ref f) vs) Q E s
theorem nr1 {a1 d : Nat} {R : Prop} (h : a1 < d ∧ R) : d ≠ a1 := Nat.ne_of_gt h.1
theorem ns1 {a1 d : Nat} {R : Prop} (h : a1 < d ∧ R) : a1 ≠ d := Nat.ne_of_lt h.1
theorem nr2 {a1 a2 d : Nat} {R : Prop} (h : a1 < d ∧ a2 < d ∧ R) : d ≠ a2 := Nat.ne_of_gt h.2.1
theorem ns2 {a1 a2 d : Nat} {R : Prop} (h : a1 < d ∧ a2 < d ∧ R) : a2 ≠ d := Nat.ne_of_lt h.2.1
theorem nr3 {a1 a2 a3 d : Nat} {R : Prop} (h : a1 < d ∧ a2 < d ∧ a3 < d ∧ R) : d ≠ a3 := Nat.ne_of_gt h.2.2.1
theorem ns3 {a1 a2 a3 d : Nat} {R : Prop} (h : a1 < d ∧ a2 < d ∧ a3 < d ∧ R) : a3 ≠ d := Nat.ne_of_lt h.2.2.1
theorem nr4 {a1 a2 a3 a4 d : Nat} {R : Prop} (h : a1 < d ∧ a2 < d ∧ a3 < d ∧ a4 < d ∧ R) : d ≠ a4 := Nat.ne_of_gt h.2.2.2.1
theorem ns4 {a1 a2 a3 a4 d : Nat} {R : Prop} (h : a1 < d ∧ a2 < d ∧ a3 < d ∧ a4 < d ∧ R) : a4 ≠ d := Nat.ne_of_lt h.2.2.2.1
theorem nr5 {a1 a2 a3 a4 a5 d : Nat} {R : Prop} (h : a1 < d ∧ a2 < d ∧ a3 < d ∧ a4 < d ∧ a5 < d ∧ R) : d ≠ a5 := Nat.ne_of_gt h.2.2.2.2.1
theorem ns5 {a1 a2 a3 a4 a5 d : Nat} {R : Prop} (h : a1 < d ∧ a2 < d ∧ a3 < d ∧ a4 < d ∧ a5 < d ∧ R) : a5 ≠ d := Nat.ne_of_lt h.2.2.2.2.1
theorem nr6 {a1 a2 a3 a4 a5 a6 d : Nat} {R : Prop} (h : a1 < d ∧ a2 < d ∧ a3 < d ∧ a4 < d ∧ a5 < d ∧ a6 < d ∧ R) : d ≠ a6 := Nat.ne_of_gt h.2.2.2.2.2.1
theorem ns6 {a1 a2 a3 a4 a5 a6 d : Nat} {R : Prop} (h : a1 < d ∧ a2 < d ∧ a3 < d ∧ a4 < d ∧ a5 < d ∧ a6 < d ∧ R) : a6 ≠ d := Nat.ne_of_lt h.2.2.2.2.2.1
theorem nr7 {a1 a2 a3 a4 a5 a6 a7 d : Nat} {R : Prop} (h : a1 < d ∧ a2 < d ∧ a3 < d ∧ a4 < d ∧ a5 < d ∧ a6 < d ∧ a7 < d ∧ R) : d ≠ a7 := Nat.ne_of_gt h.2.2.2.2.2.2.1
theorem ns7 {a1 a2 a3 a4 a5 a6 a7 d : Nat} {R : Prop} (h : a1 < d ∧ a2 < d ∧ a3 < d ∧ a4 < d ∧ a5 < d ∧ a6 < d ∧ a7 < d ∧ R) : a7 ≠ d := Nat.ne_of_lt h.2.2.2.2.2.2.1
theorem nr8 {a1 a2 a3 a4 a5 a6 a7 a8 d : Nat} {R : Prop} (h : a1 < d ∧ a2 < d ∧ a3 < d ∧ a4 < d ∧ a5 < d ∧ a6 < d ∧ a7 < d ∧ a8 < d ∧ R) : d ≠ a8 := Nat.ne_of_gt h.2.2.2.2.2.2.2.1
theorem ns8 {a1 a2 a3 a4 a5 a6 a7 a8 d : Nat} {R : Prop} (h : a1 < d ∧ a2 < d ∧ a3 < d ∧ a4 < d ∧ a5 < d ∧ a6 < d ∧ a7 < d ∧ a8 < d ∧ R) : a8 ≠ d := Nat.ne_of_lt h.2.2.2.2.2.2.2.1
theorem nr9 {a1 a2 a3 a4 a5 a6 a7 a8 a9 d : Nat} {R : Prop} (h : a1 < d ∧ a2 < d ∧ a3 < d ∧ a4 < d ∧ a5 < d ∧ a6 < d ∧ a7 < d ∧ a8 < d ∧ a9 < d ∧ R) : d ≠ a9 := Nat.ne_of_gt h.2.2.2.2.2.2.2.2.1
theorem ns9 {a1 a2 a3 a4 a5 a6 a7 a8 a9 d : Nat} {R : Prop} (h : a1 < d ∧ a2 < d ∧ a3 < d ∧ a4 < d ∧ a5 < d ∧ a6 < d ∧ a7 < d ∧ a8 < d ∧ a9 < d ∧ R) : a9 ≠ d := Nat.ne_of_lt h.2.2.2.2.2.2.2.2.1
theorem nr10 {a1 a2 a3 a4 a5 a6 a7 a8 a9 a10 d : Nat} {R : Prop} (h : a1 < d ∧ a2 < d ∧ a3 < d ∧ a4 < d ∧ a5 < d ∧ a6 < d ∧ a7 < d ∧ a8 < d ∧ a9 < d ∧ a10 < d ∧ R) : d ≠ a10 := Nat.ne_of_gt h.2.2.2.2.2.2.2.2.2.1
theorem ns10 {a1 a2 a3 a4 a5 a6 a7 a8 a9 a10 d : Nat} {R : Prop} (h : a1 < d ∧ a2 < d ∧ a3 < d ∧ a4 < d ∧ a5 < d ∧ a6 < d ∧ a7 < d ∧ a8 < d ∧ a9 < d ∧ a10 < d ∧ R) : a10 ≠ d := Nat.ne_of_lt h.2.2.2.2.2.2.2.2.2.1
theorem nr11 {a1 a2 a3 a4 a5 a6 a7 a8 a9 a10 a11 d : Nat} {R : Prop} (h : a1 < d ∧ a2 < d ∧ a3 < d ∧ a4 < d ∧ a5 < d ∧ a6 < d ∧ a7 < d ∧ a8 < d ∧ a9 < d ∧ a10 < d ∧ a11 < d ∧ R) : d ≠ a11 := Nat.ne_of_gt h.2.2.2.2.2.2.2.2.2.2.1
theorem ns11 {a1 a2 a3 a4 a5 a6 a7 a8 a9 a10 a11 d : Nat} {R : Prop} (h : a1 < d ∧ a2 < d ∧ a3 < d ∧ a4 < d ∧ a5 < d ∧ a6 < d ∧ a7 < d ∧ a8 < d ∧ a9 < d ∧ a10 < d ∧ a11 < d ∧ R) : a11 ≠ d := Nat.ne_of_lt h.2.2.2.2.2.2.2.2.2.2.1
theorem nr12 {a1 a2 a3 a4 a5 a6 a7 a8 a9 a10 a11 a12 d : Nat} {R : Prop} (h : a1 < d ∧ a2 < d ∧ a3 < d ∧ a4 < d ∧ a5 < d ∧ a6 < d ∧ a7 < d ∧ a8 < d ∧ a9 < d ∧ a10 < d ∧ a11 < d ∧ a12 < d ∧ R) : d ≠ a12 := Nat.ne_of_gt h.2.2.2.2.2.2.2.2.2.2.2.1
theorem ns12 {a1 a2 a3 a4 a5 a6 a7 a8 a9 a10 a11 a12 d : Nat} {R : Prop} (h : a1 < d ∧ a2 < d ∧ a3 < d ∧ a4 < d ∧ a5 < d ∧ a6 < d ∧ a7 < d ∧ a8 < d ∧ a9 < d ∧ a10 < d ∧ a11 < d ∧ a12 < d ∧ R) : a12 ≠ d := Nat.ne_of_lt h.2.2.2.2.2.2.2.2.2.2.2.1
theorem nt1 {a1 d : Nat} (h : a1 < d) : d ≠ a1 := Nat.ne_of_gt h
theorem nu1 {a1 d : Nat} (h : a1 < d) : a1 ≠ d := Nat.ne_of_lt h
theorem nt2 {a1 a2 d : Nat} (h : a1 < d ∧ a2 < d) : d ≠ a2 := Nat.ne_of_gt h.2
theorem nu2 {a1 a2 d : Nat} (h : a1 < d ∧ a2 < d) : a2 ≠ d := Nat.ne_of_lt h.2
theorem nt3 {a1 a2 a3 d : Nat} (h : a1 < d ∧ a2 < d ∧ a3 < d) : d ≠ a3 := Nat.ne_of_gt h.2.2
theorem nu3 {a1 a2 a3 d : Nat} (h : a1 < d ∧ a2 < d ∧ a3 < d) : a3 ≠ d := Nat.ne_of_lt h.2.2
theorem nt4 {a1 a2 a3 a4 d : Nat} (h : a1 < d ∧ a2 < d ∧ a3 < d ∧ a4 < d) : d ≠ a4 := Nat.ne_of_gt h.2.2.2
theorem nu4 {a1 a2 a3 a4 d : Nat} (h : a1 < d ∧ a2 < d ∧ a3 < d ∧ a4 < d) : a4 ≠ d := Nat.ne_of_lt h.2.2.2
theorem nt5 {a1 a2 a3 a4 a5 d : Nat} (h : a1 < d ∧ a2 < d ∧ a3 < d ∧ a4 < d ∧ a5 < d) : d ≠ a5 := Nat.ne_of_gt h.2.2.2.2
theorem nu5 {a1 a2 a3 a4 a5 d : Nat} (h : a1 < d ∧ a2 < d ∧ a3 < d ∧ a4 < d ∧ a5 < d) : a5 ≠ d := Nat.ne_of_lt h.2.2.2.2
theorem nt6 {a1 a2 a3 a4 a5 a6 d : Nat} (h : a1 < d ∧ a2 < d ∧ a3 < d ∧ a4 < d ∧ a5 < d ∧ a6 < d) : d ≠ a6 := Nat.ne_of_gt h.2.2.2.2.2
theorem nu6 {a1 a2 a3 a4 a5 a6 d : Nat} (h : a1 < d ∧ a2 < d ∧ a3 < d ∧ a4 < d ∧ a5 < d ∧ a6 < d) : a6 ≠ d := Nat.ne_of_lt h.2.2.2.2.2
theorem nt7 {a1 a2 a3 a4 a5 a6 a7 d : Nat} (h : a1 < d ∧ a2 < d ∧ a3 < d ∧ a4 < d ∧ a5 < d ∧ a6 < d ∧ a7 < d) : d ≠ a7 := Nat.ne_of_gt h.2.2.2.2.2.2
theorem nu7 {a1 a2 a3 a4 a5 a6 a7 d : Nat} (h : a1 < d ∧ a2 < d ∧ a3 < d ∧ a4 < d ∧ a5 < d ∧ a6 < d ∧ a7 < d) : a7 ≠ d := Nat.ne_of_lt h.2.2.2.2.2.2
theorem nt8 {a1 a2 a3 a4 a5 a6 a7 a8 d : Nat} (h : a1 < d ∧ a2 < d ∧ a3 < d ∧ a4 < d ∧ a5 < d ∧ a6 < d ∧ a7 < d ∧ a8 < d) : d ≠ a8 := Nat.ne_of_gt h.2.2.2.2.2.2.2
theorem nu8 {a1 a2 a3 a4 a5 a6 a7 a8 d : Nat} (h : a1 < d ∧ a2 < d ∧ a3 < d ∧ a4 < d ∧ a5 < d ∧ a6 < d ∧ a7 < d ∧ a8 < d) : a8 ≠ d := Nat.ne_of_lt h.2.2.2.2.2.2.2
theorem nz {a b : Nat} (e : Nat.ble a b = true) : a ≤ b := Nat.le_of_ble_eq_true e
theorem nc {a b c : Nat} (h : a ≤ b) (e : Nat.ble b c = true) : a ≤ c := Nat.le_trans h (Nat.le_of_ble_eq_true e)
theorem nl {a b c : Nat} (h : a = b) (k : b ≤ c) : a ≤ c := h ▸ k
theorem nm {a b c : Nat} (h : b = a) (k : b ≤ c) : a ≤ c := h ▸ k
theorem nn {a b c : Nat} (h : a ≤ b) (k : b ≤ c) : a ≤ c := Nat.le_trans h k
theorem np {dp b n : Nat} (h : dp + b < n) : dp < n := Nat.lt_of_le_of_lt (Nat.le_add_right _ _) h
theorem nq {dp a b n : Nat} (h : dp + b < n) (e : Nat.ble a b = true) : dp + a < n := Nat.lt_of_le_of_lt (Nat.add_le_add_left (Nat.le_of_ble_eq_true e) _) h
theorem nv {dp a b c n : Nat} (h : dp + b < n) (e : Nat.ble (c + a) b = true) : dp + c + a < n := by rw [Nat.add_assoc]; exact nq h e
theorem i1 (n : Nat) : (0 : Int) ≤ (n : Int) - 1 + 1 := by rw [Int.sub_add_cancel]; exact Int.natCast_nonneg _
theorem i1' {n : Nat} (h : 0 < n) : (0 : Int) < (n : Int) - 1 + 1 := by rw [Int.sub_add_cancel]; exact Int.natCast_pos.mpr h
theorem i2 {n m : Nat} (h : 0 < n) (k : n ≤ m) : 0 ≤ (n : Int) - 1 ∧ (n : Int) - 1 < (m : Int) := ⟨Int.sub_nonneg_of_le (Int.ofNat_le.mpr h), Int.sub_one_lt_of_le (Int.ofNat_le.mpr k)⟩
theorem i2' {n m : Nat} (h : 0 < n) (k : n ≤ m) : 0 ≤ (n : Int) - 1 + 1 - 1 ∧ (n : Int) - 1 + 1 - 1 < (m : Int) := by rw [Int.sub_add_cancel]; exact i2 h k
theorem i4 (n : Nat) : ((n : Int) - 1).toNat = n - 1 := Int.toNat_sub n 1
theorem i3 (n : Nat) : n - 1 = ((n : Int) - 1 + 1 - 1).toNat := by rw [Int.sub_add_cancel]; exact (i4 n).symm
theorem i5 {n c : Nat} (h : n = c) : ((n : Int) - 1).toNat = c - 1 := h ▸ i4 n
theorem i6 {n c : Nat} (h : 0 < c) (e : n = c) : (0 : Int) ≤ (n : Int) - 1 := (i2 (e ▸ h) (Nat.le_refl _)).1
theorem i7 {n : Nat} (h : n ≤ 100) : (n : Int) - 1 ≤ 100 := Int.le_trans (Int.sub_le_self _ (by decide)) (Int.ofNat_le.mpr h)
theorem ia {i a b : Nat} (h : i < a) (e : a = b) : i < b := e ▸ h
theorem ib {i a b : Nat} (h : i < a) (e : b = a) : i < b := e ▸ h
theorem ic {a b l n : Nat} (h : b ≤ l) (e : Nat.ble l n = true) (k : a ≤ n - l) : a + b ≤ n := Nat.le_trans (Nat.add_le_add k h) (Nat.le_of_eq (Nat.sub_add_cancel (Nat.le_of_ble_eq_true e)))
theorem id1 {a b n : Nat} (h : b ≤ n) : min a b ≤ n := Nat.le_trans (Nat.min_le_right _ _) h
theorem id2 {a b n : Nat} (h : a ≤ n) : min a b ≤ n := Nat.le_trans (Nat.min_le_left _ _) h
theorem ie {a b m : Nat} (h : b ≤ 900) (k : m ≤ 2) : min a b + m ≤ 2000 := ic k rfl (Nat.le_trans (id1 h) (Nat.le_of_ble_eq_true rfl))
theorem ie' {a b m c : Nat} (h : b ≤ 900) (k : m ≤ 2) : min a b + m + (b - c) ≤ 2000 := ic (Nat.le_trans (Nat.sub_le _ _) h) rfl (ic k rfl (Nat.le_trans (id1 h) (Nat.le_of_ble_eq_true rfl)))
theorem ig {i k a b n : Nat} (h : i < k) (l : a ≤ b + i) (e : Nat.ble (b + k) n = true) : a ≤ n := Nat.le_trans l (Nat.le_trans (Nat.add_le_add_left (Nat.le_of_lt h) b) (Nat.le_of_ble_eq_true e))
theorem ih {i k a b n : Nat} (h : i < k) (l : a ≤ i + b) (e : Nat.ble (k + b) n = true) : a ≤ n := Nat.le_trans l (Nat.le_trans (Nat.add_le_add_right (Nat.le_of_lt h) b) (Nat.le_of_ble_eq_true e))
theorem ij {a b n : Nat} (h : a ≤ n) : a - b ≤ n := Nat.le_trans (Nat.sub_le _ _) h
theorem ik {c n k m : Nat} (h : n ≤ k) (l : c ≤ 9) (e : Nat.ble (k + 9) m = true) : n + (c - 1) ≤ m := Nat.le_trans (Nat.add_le_add h (ij l)) (Nat.le_of_ble_eq_true e)
theorem nw1 {a b1 b2 b3 c : Nat} (h : (a ≠ b1 ∧ a ≠ b2 ∧ a ≠ b3) ∧ c ≠ b1 ∧ c ≠ b2 ∧ c ≠ b3) : a ≠ b1 := h.1.1
theorem nw2 {a b1 b2 b3 c : Nat} (h : (a ≠ b1 ∧ a ≠ b2 ∧ a ≠ b3) ∧ c ≠ b1 ∧ c ≠ b2 ∧ c ≠ b3) : a ≠ b2 := h.1.2.1
theorem nw3 {a b1 b2 b3 c : Nat} (h : (a ≠ b1 ∧ a ≠ b2 ∧ a ≠ b3) ∧ c ≠ b1 ∧ c ≠ b2 ∧ c ≠ b3) : a ≠ b3 := h.1.2.2
theorem nw4 {a b1 b2 b3 c : Nat} (h : (a ≠ b1 ∧ a ≠ b2 ∧ a ≠ b3) ∧ c ≠ b1 ∧ c ≠ b2 ∧ c ≠ b3) : c ≠ b1 := h.2.1
theorem nw5 {a b1 b2 b3 c : Nat} (h : (a ≠ b1 ∧ a ≠ b2 ∧ a ≠ b3) ∧ c ≠ b1 ∧ c ≠ b2 ∧ c ≠ b3) : c ≠ b2 := h.2.2.1
theorem nw6 {a b1 b2 b3 c : Nat} (h : (a ≠ b1 ∧ a ≠ b2 ∧ a ≠ b3) ∧ c ≠ b1 ∧ c ≠ b2 ∧ c ≠ b3) : c ≠ b3 := h.2.2.2
theorem nk1 {a b1 b2 b3 b4 : Nat} (h : a ≠ b1 ∧ a ≠ b2 ∧ a ≠ b3 ∧ a ≠ b4) : b1 ≠ a := Ne.symm h.1
theorem nk2 {a b1 b2 b3 b4 : Nat} (h : a ≠ b1 ∧ a ≠ b2 ∧ a ≠ b3 ∧ a ≠ b4) : b2 ≠ a := Ne.symm h.2.1
theorem nk3 {a b1 b2 b3 b4 : Nat} (h : a ≠ b1 ∧ a ≠ b2 ∧ a ≠ b3 ∧ a ≠ b4) : b3 ≠ a := Ne.symm h.2.2.1
theorem nk4 {a b1 b2 b3 b4 : Nat} (h : a ≠ b1 ∧ a ≠ b2 ∧ a ≠ b3 ∧ a ≠ b4) : b4 ≠ a := Ne.symm h.2.2.2
theorem fill0 : PySem.Challenge.rw_pb0596_01.foot = 6 ∧ K9 = K9 := by
  k_with_none
  k_with "my ne" => (first | (with_reducible first | assumption | exact Ne.symm (by assumption) | exact Mine.nr1 (by assumption) | exact Mine.ns1 (by assumption) | exact Mine.nt1 (by assumption) | exact Mine.nu1 (by assumption) | exact Mine.nr2 (by assumption) | exact Mine.ns2 (by assumption) | exact Mine.nt2 (by assumption) | exact Mine.nu2 (by assumption) | exact Mine.nr3 (by assumption) | exact Mine.ns3 (by assumption) | exact Mine.nt3 (by assumption) | exact Mine.nu3 (by assumption) | exact Mine.nr4 (by assumption) | exact Mine.ns4 (by assumption) | exact Mine.nt4 (by assumption) | exact Mine.nu4 (by assumption) | exact Mine.nr5 (by assumption) | exact Mine.ns5 (by assumption) | exact Mine.nt5 (by assumption) | exact Mine.nu5 (by assumption) | exact Mine.nr6 (by assumption) | exact Mine.ns6 (by assumption) | exact Mine.nt6 (by assumption) | exact Mine.nu6 (by assumption) | exact Mine.nr7 (by assumption) | exact Mine.ns7 (by assumption) | exact Mine.nt7 (by assumption) | exact Mine.nu7 (by assumption) | exact Mine.nr8 (by assumption) | exact Mine.ns8 (by assumption) | exact Mine.nt8 (by assumption) | exact Mine.nu8 (by assumption) | exact Mine.nr9 (by assumption) | exact Mine.ns9 (by assumption) | exact Mine.nr10 (by assumption) | exact Mine.ns10 (by assumption) | exact Mine.nr11 (by assumption) | exact Mine.ns11 (by assumption) | exact Mine.nr12 (by assumption) | exact Mine.ns12 (by assumption) | exact Mine.nw1 (by assumption) | exact Mine.nw2 (by assumption) | exact Mine.nw3 (by assumption) | exact Mine.nw4 (by assumption) | exact Mine.nw5 (by assumption) | exact Mine.nw6 (by assumption) | exact Mine.nk1 (by assumption) | exact Mine.nk2 (by assumption) | exact Mine.nk3 (by assumption) | exact Mine.nk4 (by assumption)) | fail "no")
  k_with "my om" => (first | ((with_reducible show @Eq Int _ _); with_reducible first | assumption | exact Eq.symm (by assumption) | exact Int.toNat_of_nonneg (by assumption)) | fail "no")
  k_with "my om" => (first | ((with_reducible show And (@LE.le Int _ _ _) _); with_reducible first | assumption | (refine Mine.i2 (by assumption) ?_; omega) | (refine Mine.i2' (by assumption) ?_; omega)) | fail "no")
  k_with "my om" => (first | ((with_reducible show @LT.lt Int _ _ _); first | (with_reducible first | assumption | exact Mine.i1' (by assumption) | exact Int.ofNat_lt.mpr (by assumption) | exact And.left (by assumption) | exact And.right (by assumption) | exact Int.lt_of_not_le (by assumption)) | decide +kernel) | fail "no")
  k_with "my om" => (first | ((with_reducible show @LE.le Int _ _ _); first | (with_reducible first | assumption | exact Int.natCast_nonneg _ | exact Int.le_refl _ | exact Mine.i1 _ | exact Int.ofNat_le.mpr (by assumption) | exact Mine.i6 (by assumption) (by assumption) | (refine Mine.i7 ?_; omega) | exact And.left (by assumption) | exact And.right (by assumption) | exact Int.le_of_not_lt (by assumption) | exact Int.le_of_lt (by assumption)) | decide +kernel) | fail "no")
  k_with "my om" => (first | ((with_reducible show @Eq Nat _ _); with_reducible first | assumption | exact Eq.symm (by assumption) | exact Mine.i5 (by assumption) | exact Mine.i4 _ | exact Mine.i3 _ | exact Eq.symm (Mine.i4 _) | exact Nat.add_sub_cancel_left .. | exact Nat.min_eq_left (by assumption) | exact Eq.trans (by assumption) (by assumption) | exact Eq.trans (Eq.symm (by assumption)) (by assumption) | exact Eq.trans (by assumption) (Eq.symm (by assumption))) | fail "no")
  k_with "my om" => (first | ((with_reducible show @LT.lt Nat _ _ _); with_reducible first | assumption | exact Mine.np (by assumption) | exact Mine.nq (by assumption) rfl | exact Mine.nv (by assumption) rfl | exact Mine.ia (by assumption) (by assumption) | exact Mine.ib (by assumption) (by assumption) | exact Nat.lt_of_lt_of_le (by assumption) (by assumption) | exact Nat.succ_lt_succ (by assumption) | exact And.left (by assumption) | exact And.right (by assumption) | exact Nat.lt_of_not_le (by assumption) | exact Mine.ia (Mine.ia (by assumption) (by assumption)) (by assumption) | exact Mine.ib (Mine.ia (by assumption) (by assumption)) (by assumption) | exact Mine.ia (Mine.ib (by assumption) (by assumption)) (by assumption) | exact Mine.ib (Mine.ib (by assumption) (by assumption)) (by assumption)) | fail "no")
  k_with "my om" => (first | ((with_reducible show @LE.le Nat _ _ _); first | (with_reducible first | assumption | exact Mine.nc (by assumption) rfl | exact Nat.le_refl _ | exact Mine.nl (by assumption) (by assumption) | exact Mine.nm (by assumption) (by assumption) | exact Mine.nn (by assumption) (by assumption) | exact Mine.nn (by assumption) (Mine.nc (by assumption) rfl) | exact Mine.nl (by assumption) (Mine.nc (by assumption) rfl) | exact Mine.nm (by assumption) (Mine.nc (by assumption) rfl) | exact Mine.nl (by assumption) (Mine.nl (by assumption) (Mine.nc (by assumption) rfl)) | exact Mine.nl (by assumption) (Mine.nn (by assumption) (Mine.nc (by assumption) rfl)) | exact Mine.nm (by assumption) (Mine.nn (by assumption) (Mine.nc (by assumption) rfl)) | exact Mine.nl (by assumption) (Mine.nm (by assumption) (Mine.nc (by assumption) rfl)) | exact Mine.nm (by assumption) (Mine.nl (by assumption) (Mine.nc (by assumption) rfl)) | exact Mine.nm (by assumption) (Mine.nm (by assumption) (Mine.nc (by assumption) rfl)) | exact Nat.le_add_right _ _ | exact Nat.succ_le_succ (by assumption) | exact Nat.le_of_eq (by assumption) | exact Nat.le_of_eq (Eq.symm (by assumption)) | exact Nat.le_succ_of_le (by assumption) | exact Nat.le_of_not_lt (by assumption) | exact Int.toNat_le_toNat (by assumption) | exact Mine.ig (by assumption) (by assumption) rfl | exact Mine.ih (by assumption) (by assumption) rfl | exact And.left (by assumption) | exact And.right (by assumption) | (refine Mine.ie ?_ (by assumption); omega) | (refine Mine.ie' ?_ (by assumption); omega) | (refine Mine.id1 ?_; omega) | (refine Mine.ij ?_; omega) | (refine Mine.ic (by assumption) rfl ?_; omega)) | exact Mine.nz rfl) | fail "no")
  k_with "my own" => (first | assumption | exact Mine.PAt.of (by assumption) (PySem.SameStack.mark _ _) | exact Mine.PAt.of (by assumption) (PySem.SameStack.unmark _ _) | fail "no")
  k_fill
  exact ⟨rfl, rfl⟩
end Mine

end

local macro_rules | `(tactic| walk_at $s:str) => `(tactic| k_extra $s)
local macro_rules | `(tactic| k_ne) => `(tactic| (refine PySem.W.neN ?_; (try dsimp only); walk_at "my ne"))
local macro_rules | `(tactic| omega) => `(tactic| walk_at "my om")
local macro_rules | `(tactic| k_inst) => `(tactic| walk_at "my inst")
local macro_rules | `(tactic| k_all) => `(tactic| walk_at "my all")
local macro_rules | `(tactic| passes_own) => `(tactic| walk_at "my own")

section
open PySem PySem.W PyProof.Rows PySem.Calls
namespace Mine
set_option maxRecDepth 100000

noncomputable abbrev Kp (h h' : Heap) : Prop := ∀ b o, h.get? b = some o → h'.get? b = some o
theorem Kp.refl (h : Heap) : Kp h h := fun _ _ e => e
theorem Kp.trans {a b c : Heap} (x : Kp a b) (y : Kp b c) : Kp a c := fun _ _ e => y _ _ (x _ _ e)

@[reducible] noncomputable def Ar (dp un : Nat) (fr : Option (List Env)) (gd : Option (List Code)) : Around := { handled := none, depth := dp, frames := fr, guards := gd, units := un }

theorem lim1 {dp a b n : Nat} (h : dp + b < n) (e : Nat.ble (1 + a) b = true) : dp + 1 + a < n := by have := Nat.le_of_ble_eq_true e; omega
theorem lim3 {un a b n : Nat} (h : un + b < n) (e : Nat.ble (3 + a) b = true) : un + 3 + a < n := by have := Nat.le_of_ble_eq_true e; omega
structure Gr (w : World) (base : Heap) : Prop where
  X : Frag.In (K9 w.params) base
  T : ∃ p loose mean mg mb, Top p loose mean mg mb base

noncomputable def CC (w : World) (base : Heap) (f : Addr) (args : List Value) (dep : Nat) (pre : Heap → Prop) (post : Heap → Value → Heap → Prop) : Prop :=
  ∀ (dp un : Nat) (fr : Option (List Env)) (gd : Option (List Code)) (s : Shared) (Q E : Value → Shared → Prop), dp + dep < recursionLimit → un + 8 * dep < cLine → Kp base s.heap → pre s.heap →
    (∀ v h' tk', post s.heap v h' → Q v { s with heap := h', toks := tk' }) → wpAny (model pw w) (Ar dp un fr gd) (call (.ref f) args) Q E s

noncomputable def PAt (M : Model) (A : Around) (env : Env) (E : Value → Shared → Prop) : Prop := ∀ A', SameStack A' A → PassesOwnAt M A' A env E
theorem PAt.of {M : Model} {A A' : Around} {env : Env} {E : Value → Shared → Prop} (h : PAt M A env E) (k : SameStack A' A) : PassesOwnAt M A' A env E := h A' k
section
variable {w : World} {base : Heap} {s : Shared} {A : Around} {Q E : Value → Shared → Prop} {p : Program} {loose : List Str} {mean : ExcName → Option Value} {mg mb : Str → Option Value}
  {name qual : Str} {params : Arguments} {body : List Stmt} {scope : Scope} {dV kV doc pm cdv ct oc : Value} {an od : Option Addr} {osl : Array (Option Value)} {f : Addr} {args : List Value} {binds : List (Str × Value)}

theorem enter (led : List (Addr × Obj)) (X : Frag.In (K9 w.params) base) (T : Top p loose mean mg mb base) (hb : Kp base s.heap) (hn : ∀ p ∈ led, s.heap.get? p.1 = some p.2 ∧ base.get? p.1 = none)
    (ho : (K9 w.params).lookup f = some ⟨oc, od, .func (fnOf name qual params body scope dV kV doc pm an cdv ct), osl⟩) (hcd : codeIn (K9 w.params) cdv qual = true) (hroom : A.depth < recursionLimit)
    (hbind : BindsTo s (fnOf name qual params body scope dV kV doc pm an cdv ct) ⟨args, []⟩ binds) (hloc : ∀ y ∈ binds, scope.names.lookup y.1 = some .local)
    (h : ∀ (E9 : Value → Shared → Prop) (Q9 : Flow → Shared → Prop) g L h₁ gs dr tk0 os, (∀ fl h' tk', Q (match fl with | .ret v => v | _ => .none) { s with heap := h', toks := tk' } → Q9 fl ⟨h', gs, dr, tk', os⟩) → (∀ e h' tk', wpAny (model pw w) (A.deeper (envOf qual scope L f cdv)) (leaving (envOf qual scope L f cdv) e) (fun _ s'' => E e s'') (fun e' s'' => E e' s'') { s with heap := h', toks := tk' } → E9 e ⟨h', gs, dr, tk', os⟩) → PassesOwn (model pw w) (A.deeper (envOf qual scope L f cdv)) (envOf qual scope L f cdv) E9 → PAt (model pw w) (A.deeper (envOf qual scope L f cdv)) (envOf qual scope L f cdv) E9 → Kp base g → (∀ b o, s.heap.get? b = some o → b ∉ led.map (·.1) → g.get? b = some o) → Frag.In (K9 w.params) g → Top p loose mean mg mb g → Fr g L h₁ (fun y => binds.reverse.lookup y) → News g L h₁ led → s.heap.get? L = none →
      wpAny (model pw w) (A.deeper (envOf qual scope L f cdv)) (execs body (envOf qual scope L f cdv))
        Q9 E9 ⟨h₁, gs, dr, tk0, os⟩)
    (hco : scope.isCoroutine = false := by rfl) (hgen : scope.isGenerator = false := by rfl) (hk : scope.kind = .function := by rfl)
    (hcell : ∀ x ∈ scope.names, x.2 ≠ .cell := by decide) : wpAny (model pw w) A (call (.ref f) args) Q E s := by
  refine wpAny_call ?_
  have hg : Kp base (hideAll s.heap (led.map (·.1))) := fun b o e => hideAll_get _ (hb b o e) fun hm => by
    obtain ⟨q, hq, rfl⟩ := List.mem_map.mp hm
    rw [(hn q hq).2] at e; cases e
  refine codeAny_call_def (fd := fnOf name qual params body scope dV kV doc pm an cdv ct) (body := body) (binds := binds) hroom (hb _ _ (X _ _ ho)) rfl (T.nolimit.keeps hb) (codeRec_of (X.keeps hb) hcd) rfl hbind hcell hloc (fun h₁ hns hk₁ => ?_) hco hgen hk
  exact h _ _ (hideAll s.heap (led.map (·.1))) s.heap.objs.size h₁ s.gens s.drawn (s.toks + binds.length) s.os (fun _ _ _ z => z) (fun _ _ _ z => z) PassesOwn.leaving (fun _ k => PassesOwnAt.leavingOf k) hg (fun b o e hb => hideAll_get _ e hb) (X.keeps hg) (T.keeps hg)
    ⟨hns, fun b o e => hk₁ b o (of_hideAll _ e), Nat.le_of_eq (hideAll_size _ _)⟩
    (fun p hp => ⟨hk₁ _ _ (hn p hp).1, Nat.ne_of_lt (Heap.lt_size (hn p hp).1), hideAll_none _ (List.mem_map_of_mem hp)⟩)
    (by cases hq : s.heap.get? s.heap.objs.size with
        | none => rfl
        | some o => exact absurd (Heap.lt_size hq) (Nat.lt_irrefl _))

theorem use_pure {args : List Value} {dep dp un : Nat} {fr : Option (List Env)} {gd : Option (List Code)} {g : Heap} {L : Addr} {m : Str → Option Value} {news : List (Addr × Obj)} {pre : Heap → Prop} {R : Value → Prop}
    (C : CC w base f args dep pre (fun h v h' => Kp h h' ∧ R v)) (hB : Kp base g) (F : Fr g L s.heap m) (N : News g L s.heap news) (hp : pre s.heap) (hd : dp + dep < recursionLimit) (hu : un + 8 * dep < cLine)
    (h : ∀ v h' tk', R v → Kp s.heap h' → Fr g L h' m → News g L h' news → Q v { s with heap := h', toks := tk' }) : wpAny (model pw w) (Ar dp un fr gd) (call (.ref f) args) Q E s :=
  C _ _ _ _ _ _ _ hd hu (hB.trans F.keep) hp fun v h' tk' ⟨hk, hR⟩ => h v h' tk' hR hk (F.keeps hk) (N.grown hk)
end
section
variable {s : Shared} {Q : Value → Shared → Prop} {g h' : Heap} {L : Addr} {m : Str → Option Value} {R : Value → Prop} {v : Value} {tk : Nat}
theorem pure_end (hret : ∀ v h' tk', (fun h v h' => Kp h h' ∧ R v) s.heap v h' → Q v { s with heap := h', toks := tk' }) (hG : ∀ b o, s.heap.get? b = some o → ¬ b ∈ List.map (fun x => x.fst) ([] : List (Addr × Obj)) → g.get? b = some o) (F : Fr g L h' m) (hR : R v) :
    Q v { s with heap := h', toks := tk } := hret v h' tk ⟨fun b o e => F.keep b o (hG b o e (fun h => nomatch h)), hR⟩
end
noncomputable def S (x : String) : Str := Str.ofString x
noncomputable def isin (l : List Str) (x : Str) : Bool := l.any fun y => y == x
noncomputable def joinsF (l r : Str) : Bool := if (l == S "L") = true then isin [S "L", S "V", S "LV", S "LVT"] r else if isin [S "LV", S "V"] l = true then isin [S "V", S "T"] r else (isin [S "LVT", S "T"] l && r == S "T")
theorem fill1 : PySem.Challenge.rw_pb0596_01.foot = 6 ∧ K9 = K9 := by
  k_with_none
  k_with "my ne" => (first | (with_reducible first | assumption | exact Ne.symm (by assumption) | exact Mine.nr1 (by assumption) | exact Mine.ns1 (by assumption) | exact Mine.nt1 (by assumption) | exact Mine.nu1 (by assumption) | exact Mine.nr2 (by assumption) | exact Mine.ns2 (by assumption) | exact Mine.nt2 (by assumption) | exact Mine.nu2 (by assumption) | exact Mine.nr3 (by assumption) | exact Mine.ns3 (by assumption) | exact Mine.nt3 (by assumption) | exact Mine.nu3 (by assumption) | exact Mine.nr4 (by assumption) | exact Mine.ns4 (by assumption) | exact Mine.nt4 (by assumption) | exact Mine.nu4 (by assumption) | exact Mine.nr5 (by assumption) | exact Mine.ns5 (by assumption) | exact Mine.nt5 (by assumption) | exact Mine.nu5 (by assumption) | exact Mine.nr6 (by assumption) | exact Mine.ns6 (by assumption) | exact Mine.nt6 (by assumption) | exact Mine.nu6 (by assumption) | exact Mine.nr7 (by assumption) | exact Mine.ns7 (by assumption) | exact Mine.nt7 (by assumption) | exact Mine.nu7 (by assumption) | exact Mine.nr8 (by assumption) | exact Mine.ns8 (by assumption) | exact Mine.nt8 (by assumption) | exact Mine.nu8 (by assumption) | exact Mine.nr9 (by assumption) | exact Mine.ns9 (by assumption) | exact Mine.nr10 (by assumption) | exact Mine.ns10 (by assumption) | exact Mine.nr11 (by assumption) | exact Mine.ns11 (by assumption) | exact Mine.nr12 (by assumption) | exact Mine.ns12 (by assumption) | exact Mine.nw1 (by assumption) | exact Mine.nw2 (by assumption) | exact Mine.nw3 (by assumption) | exact Mine.nw4 (by assumption) | exact Mine.nw5 (by assumption) | exact Mine.nw6 (by assumption) | exact Mine.nk1 (by assumption) | exact Mine.nk2 (by assumption) | exact Mine.nk3 (by assumption) | exact Mine.nk4 (by assumption)) | fail "no")
  k_with "my om" => (first | ((with_reducible show @Eq Int _ _); with_reducible first | assumption | exact Eq.symm (by assumption) | exact Int.toNat_of_nonneg (by assumption)) | fail "no")
  k_with "my om" => (first | ((with_reducible show And (@LE.le Int _ _ _) _); with_reducible first | assumption | (refine Mine.i2 (by assumption) ?_; omega) | (refine Mine.i2' (by assumption) ?_; omega)) | fail "no")
  k_with "my om" => (first | ((with_reducible show @LT.lt Int _ _ _); first | (with_reducible first | assumption | exact Mine.i1' (by assumption) | exact Int.ofNat_lt.mpr (by assumption) | exact And.left (by assumption) | exact And.right (by assumption) | exact Int.lt_of_not_le (by assumption)) | decide +kernel) | fail "no")
  k_with "my om" => (first | ((with_reducible show @LE.le Int _ _ _); first | (with_reducible first | assumption | exact Int.natCast_nonneg _ | exact Int.le_refl _ | exact Mine.i1 _ | exact Int.ofNat_le.mpr (by assumption) | exact Mine.i6 (by assumption) (by assumption) | (refine Mine.i7 ?_; omega) | exact And.left (by assumption) | exact And.right (by assumption) | exact Int.le_of_not_lt (by assumption) | exact Int.le_of_lt (by assumption)) | decide +kernel) | fail "no")
  k_with "my om" => (first | ((with_reducible show @Eq Nat _ _); with_reducible first | assumption | exact Eq.symm (by assumption) | exact Mine.i5 (by assumption) | exact Mine.i4 _ | exact Mine.i3 _ | exact Eq.symm (Mine.i4 _) | exact Nat.add_sub_cancel_left .. | exact Nat.min_eq_left (by assumption) | exact Eq.trans (by assumption) (by assumption) | exact Eq.trans (Eq.symm (by assumption)) (by assumption) | exact Eq.trans (by assumption) (Eq.symm (by assumption))) | fail "no")
  k_with "my om" => (first | ((with_reducible show @LT.lt Nat _ _ _); with_reducible first | assumption | exact Mine.np (by assumption) | exact Mine.nq (by assumption) rfl | exact Mine.nv (by assumption) rfl | exact Mine.ia (by assumption) (by assumption) | exact Mine.ib (by assumption) (by assumption) | exact Nat.lt_of_lt_of_le (by assumption) (by assumption) | exact Nat.succ_lt_succ (by assumption) | exact And.left (by assumption) | exact And.right (by assumption) | exact Nat.lt_of_not_le (by assumption) | exact Mine.ia (Mine.ia (by assumption) (by assumption)) (by assumption) | exact Mine.ib (Mine.ia (by assumption) (by assumption)) (by assumption) | exact Mine.ia (Mine.ib (by assumption) (by assumption)) (by assumption) | exact Mine.ib (Mine.ib (by assumption) (by assumption)) (by assumption)) | fail "no")
  k_with "my om" => (first | ((with_reducible show @LE.le Nat _ _ _); first | (with_reducible first | assumption | exact Mine.nc (by assumption) rfl | exact Nat.le_refl _ | exact Mine.nl (by assumption) (by assumption) | exact Mine.nm (by assumption) (by assumption) | exact Mine.nn (by assumption) (by assumption) | exact Mine.nn (by assumption) (Mine.nc (by assumption) rfl) | exact Mine.nl (by assumption) (Mine.nc (by assumption) rfl) | exact Mine.nm (by assumption) (Mine.nc (by assumption) rfl) | exact Mine.nl (by assumption) (Mine.nl (by assumption) (Mine.nc (by assumption) rfl)) | exact Mine.nl (by assumption) (Mine.nn (by assumption) (Mine.nc (by assumption) rfl)) | exact Mine.nm (by assumption) (Mine.nn (by assumption) (Mine.nc (by assumption) rfl)) | exact Mine.nl (by assumption) (Mine.nm (by assumption) (Mine.nc (by assumption) rfl)) | exact Mine.nm (by assumption) (Mine.nl (by assumption) (Mine.nc (by assumption) rfl)) | exact Mine.nm (by assumption) (Mine.nm (by assumption) (Mine.nc (by assumption) rfl)) | exact Nat.le_add_right _ _ | exact Nat.succ_le_succ (by assumption) | exact Nat.le_of_eq (by assumption) | exact Nat.le_of_eq (Eq.symm (by assumption)) | exact Nat.le_succ_of_le (by assumption) | exact Nat.le_of_not_lt (by assumption) | exact Int.toNat_le_toNat (by assumption) | exact Mine.ig (by assumption) (by assumption) rfl | exact Mine.ih (by assumption) (by assumption) rfl | exact And.left (by assumption) | exact And.right (by assumption) | (refine Mine.ie ?_ (by assumption); omega) | (refine Mine.ie' ?_ (by assumption); omega) | (refine Mine.id1 ?_; omega) | (refine Mine.ij ?_; omega) | (refine Mine.ic (by assumption) rfl ?_; omega)) | exact Mine.nz rfl) | fail "no")
  k_with "my own" => (first | assumption | exact Mine.PAt.of (by assumption) (PySem.SameStack.mark _ _) | exact Mine.PAt.of (by assumption) (PySem.SameStack.unmark _ _) | fail "no")
  k_fill
  exact ⟨rfl, rfl⟩

theorem joins_cc {w : World} {base : Heap} (G : Gr w base) (l r : Str) (t1 t2 : Tok) : CC w base 92 [.str l t1, .str r t2] 1 (fun _ => True) (fun h v h' => Kp h h' ∧ v = .bool (joinsF l r)) := by
  obtain ⟨X, p, loose, mean, mg, mb, T⟩ := G
  intro dp un fr gd s Q E hdp hun hb hp hret
  w_on
  k_dflt (refine enter (binds := [(Str.ofString "left", .str l t1), (Str.ofString "right", .str r t2)]) [] X T hb (fun _ h => nomatch h) (by k_is) (by k_is) (by show dp < recursionLimit; omega) (BindsTo.of_eq rfl) (locs rfl) (fun E9 Q9 g L h₁ g9s d9r t9k o9s hQ9 hE9 hP9 hA9 hB hG X' T' F' N' hL => ?_))
  try dsimp only
  try k_fold
  k_steps
  all_goals (try ((with_reducible refine hQ9 _ _ _ ?_); (try dsimp only)))
  all_goals (refine pure_end (s := s) (R := fun v => v = .bool (joinsF l r)) hret hG (by assumption) ?_)
  all_goals ((try dsimp only); simp_all [joinsF, isin, S])
end Mine

end

section
open PySem PySem.W PyProof.Rows
namespace Mine
set_option maxRecDepth 100000
set_option maxHeartbeats 0
noncomputable abbrev st9 (w : World) : Setting := ⟨PySem.Challenge.pw_pb0596_01, w.params⟩
-- what the tree asks of the class 52, read off the written part
theorem pk_call : ∀ (w : World) (v : Value), peek (K9 w.params) (st9 w) (callAny (.ref 52) ⟨[v], []⟩) = some (.again (.call (.builtin "type.__call__") ⟨[.ref 52, v], []⟩)) := by intro w v; kernel_rfl
theorem pk_tcall : ∀ (w : World) (v : Value), peek (K9 w.params) (st9 w) (checkBuiltinCall "type.__call__" ⟨[.ref 52, v], []⟩) = some () := by intro w v; kernel_rfl
theorem pk_new : ∀ (w : World) (v : Value), peek (K9 w.params) (st9 w) (checkBuiltinCall "Exception.__new__" ⟨[.ref 52, v], []⟩) = some () := by intro w v; kernel_rfl
theorem pk_mro : ∀ w : World, peek (K9 w.params) (st9 w) (mroOf (.ref 52)) = some [.ref 52, .ref 39, .type "Exception", .type "BaseException", .type "object"] := by intro w; kernel_rfl
theorem pk_made : ∀ w : World, peek (K9 w.params) (st9 w) (Bind.madeBy (.ref 52)) = some (some "Exception.__new__") := by intro w; kernel_rfl
theorem pk_type : ∀ w : World, peek (K9 w.params) (st9 w) (isType (.ref 52)) = some true := by intro w; kernel_rfl
theorem pk_here : ∀ w : World, peek (K9 w.params) (st9 w) (Bind.madeHere "BaseException.__new__" (.ref 52)) = some () := by intro w; kernel_rfl
theorem pk_bind : ∀ (w : World) (v : Value), peek (K9 w.params) (st9 w) (bindSpecial (.ref 36) v) = some (.ref 36, [v]) := by intro w v; kernel_rfl
theorem pk_E : ∀ w : World, mroIn (K9 w.params) 52 (.type "Exception") = some true := by intro w; kernel_rfl
theorem pk_A : ∀ w : World, mroIn (K9 w.params) 52 (.type "AttributeError") = some false := by intro w; kernel_rfl
theorem pk_N : ∀ w : World, mroIn (K9 w.params) 52 (.type "NameError") = some false := by intro w; kernel_rfl
theorem pk_self : ∀ w : World, mroIn (K9 w.params) 52 (.ref 52) = some true := by intro w; kernel_rfl
theorem pk_init : ∀ w : World, findIn (K9 w.params) (.ref 52) "__init__" = some (some (.ref 36)) := by intro w; kernel_rfl
theorem pk_obj (w : World) : ∃ c dd cd sl, (K9 w.params).lookup 52 = some ⟨c, dd, .cls cd, sl⟩ ∧ cd.hasDel = false := ⟨_, _, _, _, rfl, rfl⟩
noncomputable abbrev tupO (v : Value) : Obj := { cls := .type "tuple", data := .seq [v].toArray }
noncomputable abbrev excO (t : Addr) : Obj := { cls := .ref 52, data := .fields #[.ref t, .none, .none, .none, .bool false, .none] }
section
variable {w : World} {A : Around} {E : Value → Shared → Prop} {h : Heap} {g : Array GenState} {d : Drawn} {tk : Nat} {os : OsState} {v : Value}
theorem new_bad {R : Result → Shared → Prop} (X : Frag.In (K9 w.params) h) (hq : R (.ok (.ret (.ref (h.objs.size + 1)))) ⟨(h.push (tupO v)).push (excO h.objs.size), g, d, tk, os⟩) :
    codeAny (model pw w) A (.builtin "Exception.__new__" ⟨[.ref 52, v], []⟩) R ⟨h, g, d, tk, os⟩ := by
  have F := PySem.F.excBase_Exception
  have l1 : PySem.W.Looks (model pw w) h (isType (.ref 52)) true := .of_peek X (pk_type w)
  have l3 : PySem.W.Looks (model pw w) h (Bind.madeHere "BaseException.__new__" (.ref 52)) () := .of_peek X (pk_here w)
  have e1 := F.ends
  refine codeAny_builtinAt F.entry (PySem.wpAt_bind (PySem.wpAt_bind (PySem.wpAt_stack fun p below => PySem.wpAt_of_wpAny ?_)))
  refine wpAny_ite_true (decide_eq_true e1) (wpAny_pure (PySem.wpAt_of_wpAny ?_))
  rw [F.owner]
  have l4 := looks_mroIn (M := model pw w) X (pk_E w)
  have l5 := looks_mroIn (M := model pw w) X (pk_A w)
  have l6 := looks_mroIn (M := model pw w) X (pk_N w)
  obtain ⟨_, _, _, _, e52, del⟩ := pk_obj w
  replace e52 := X _ _ e52
  repeat (first | with_reducible exact hq | with_reducible refine Looks.here (by with_reducible assumption) ?_ | wp_step)
  rw [← show (h.push (tupO v)).objs.size = h.objs.size + 1 from Heap.size_push ..] at hq
  exact hq
noncomputable def NewE (h h' : Heap) (e : Addr) : Prop := (∀ b o, h.get? b = some o → h'.get? b = some o) ∧ h.get? e = none ∧ ∃ t, h'.get? e = some (excO t)
theorem newE (h : Heap) (v : Value) : NewE h ((h.push (tupO v)).push (excO h.objs.size)) (h.objs.size + 1) :=
  ⟨fun _ _ q => Heap.get?_push_of_some _ (Heap.get?_push_of_some _ q), Heap.get?_none_of_le (Nat.le_succ _), h.objs.size, Heap.get?_push_at (Heap.size_push ..).symm rfl⟩
theorem tcall_bad {Q : PySem.Fin → Shared → Prop} (X : Frag.In (K9 w.params) h)
    (hq : ∀ h' e, NewE h h' e → wpAny (model pw w) A (call (.ref 36) [.ref e, v]) (fun r s' => r = .none ∧ Q (.done (.ret (.ref e))) s') E ⟨h', g, d, tk, os⟩) :
    wpAny (model pw w) A (Builtin.«type.__call__» ⟨[.ref 52, v], []⟩) Q E ⟨h, g, d, tk, os⟩ := by
  have l1 : PySem.W.Looks (model pw w) h (mroOf (.ref 52)) [.ref 52, .ref 39, .type "Exception", .type "BaseException", .type "object"] := .of_peek X (pk_mro w)
  have l2 : PySem.W.Looks (model pw w) h (Bind.madeBy (.ref 52)) (some "Exception.__new__") := .of_peek X (pk_made w)
  repeat (first | with_reducible refine Looks.here l1 ?_ | with_reducible refine Looks.here l2 ?_ | wp_step)
  refine codeAny_call_builtin_code (Code.quiet_builtin _ PySem.F.excBase_Exception.quiet) ((PySem.W.Looks.of_peek X (pk_new w v)).at (new_bad X ?_))
  have N := newE h v
  generalize (h.push (tupO v)).push (excO h.objs.size) = h', h.objs.size + 1 = e at N
  have X' := X.keeps N.1
  obtain ⟨t, he⟩ := N.2.2
  have I : InstAt h' e (excO t) 52 none := ⟨he, rfl, rfl, trivial⟩
  have l3 : PySem.W.Looks (model pw w) h' (isInstance (.ref e) (.ref 52)) true := I.type.andThen (looks_mroIn X' (pk_self w))
  have l4 : PySem.W.Looks (model pw w) h' (specialOf (.ref e) "__init__") (some (.ref 36)) := I.type.andThen (looks_findIn X' (pk_init w))
  have l5 : PySem.W.Looks (model pw w) h' (bindSpecial (.ref 36) (.ref e)) (.ref 36, [.ref e]) := .of_peek X' (pk_bind w _)
  show wpAny _ _ _ _ _ _
  unfold callSpecial?
  repeat (first | with_reducible refine Looks.here l3 ?_ | with_reducible refine Looks.here l4 ?_ | with_reducible refine Looks.here l5 ?_ | ((dsimp only [List.cons_append, List.nil_append]); with_reducible refine wpAny_mono (hq h' e N) ?_ (fun _ _ q => q)) | wp_step)
  rintro _ s' ⟨rfl, q⟩
  repeat (first | with_reducible exact q | wp_step)
theorem call_52 {Q : Value → Shared → Prop} (X : Frag.In (K9 w.params) h)
    (hq : ∀ h' e, NewE h h' e → wpAny (model pw w) (A.under (.builtin "type.__call__" ⟨[.ref 52, v], []⟩)) (call (.ref 36) [.ref e, v]) (fun r s' => r = .none ∧ Q (.ref e) s') E ⟨h', g, d, tk, os⟩) :
    wpAny (model pw w) A (call (.ref 52) [v]) Q E ⟨h, g, d, tk, os⟩ := by
  refine wpAny_call (codeAny_of_tree ((PySem.W.Looks.of_peek X (pk_call w v)).at ?_))
  refine And.intro rfl ?_
  exact codeAny_call_builtin_at (Code.quiet_builtin _ (by decide +kernel)) entry_typeCall ((PySem.W.Looks.of_peek X (pk_tcall w v)).at (tcall_bad X hq))
theorem pk_told : ∀ w : World, findIn (K9 w.params) (.ref 52) (Str.ofString "told") = some none := by intro w; kernel_rfl
theorem pk_o : ∀ w : World, mroIn (K9 w.params) 52 (.type "object") = some true := by intro w; kernel_rfl
theorem pk_sa : ∀ w : World, findIn (K9 w.params) (.ref 52) "__setattr__" = some (some (.builtin "object.__setattr__")) := by intro w; kernel_rfl
theorem pk_dict (w : World) : ∃ cd, clsIn (K9 w.params) 52 = some cd ∧ cd.hasDict = true := ⟨_, rfl, rfl⟩
theorem not_over (self : Value) : PySem.refuseLoop self "__setattr__" [.ref 52, .ref 39, .type "Exception", .type "BaseException", .type "object"] = pure () := by
  rw [PySem.refuseLoop_ref, PySem.refuseLoop_ref]; exact PySem.F.store_Exception.passes self
theorem store_told {e t : Addr} {tk0 : Tok} {R : Result → Shared → Prop} (X : Frag.In (K9 w.params) h) (he : h.get? e = some (excO t))
    (hq : ∀ h' tk', h'.get? e = some { excO t with dict := some h.objs.size } → (∀ b o, b ≠ e → h.get? b = some o → h'.get? b = some o) → R (.ok (.ret .none)) ⟨h', g, d, tk', os⟩) :
    codeAny (model pw w) A (.call (.builtin "object.__setattr__") ⟨[.ref e, .str (Str.ofString "told") tk0, v], []⟩) R ⟨h, g, d, tk, os⟩ := by
  have SF := PySem.F.store_object
  have I : W.InstAt h e (excO t) 52 none := ⟨he, rfl, rfl, trivial⟩
  obtain ⟨cd, c1, c2⟩ := pk_dict w
  have l0 : PySem.W.Looks (model pw w) h (Builtin.ObjectAttr.refuseIfOverridden (.ref e) "__setattr__") () := I.type.andThen ((PySem.W.Looks.of_peek X (pk_mro w)).andThen (.of_pure (not_over _)))
  have l1 : PySem.W.Looks (model pw w) h (typeLookup (.ref 52) (Str.ofString "told")) none := looks_findIn X (pk_told w)
  have l2 : PySem.W.Looks (model pw w) h (classData 52) cd := looks_clsIn X c1
  have lo : PySem.W.Looks (model pw w) h (isInstance (.ref e) (.type "object")) true := I.type.andThen (looks_mroIn X (pk_o w))
  have chk : ∀ (A' : Around) (Q : Unit → Shared → Prop) (E' : Value → Shared → Prop), Q () ⟨h, g, d, tk, os⟩ → wpAny (model pw w) A' (checkBuiltinCall "object.__setattr__" ⟨[.ref e, .str (Str.ofString "told") tk0, v], []⟩) Q E' ⟨h, g, d, tk, os⟩ := fun A' Q E' q =>
    check_slot (i := "object.__setattr__") (owner := "object") (n := "__setattr__") SF.kind SF.split lo (SF.args (.ref e) (.str (Str.ofString "told") tk0) v) q
  refine codeAny_call_builtin SF.slot.plain SF.entry (chk _ _ _ ?_)
  rw [osa_eq]
  refine wpAny_bind (l0.at (wpAny_bind (I.type.at (wpAny_bind (l1.at (wpAny_bind (wpAny_pure ?_)))))))
  have own : ∀ (A' : Around) (Q : Option Addr → Shared → Prop) (E' : Value → Shared → Prop), Q (some h.objs.size) ⟨(h.push { cls := .type "dict", data := .dict #[] }).update e fun o => { o with dict := some h.objs.size }, g, d, tk, os⟩ → wpAny (model pw w) A' (instanceDict e true) Q E' ⟨h, g, d, tk, os⟩ := fun A' Q E' q => by
    unfold instanceDict
    refine wpAny_bind (wpAny_loadPart he ?_)
    refine wpAny_bind (l2.at ?_)
    rw [c2]
    repeat (first | with_reducible exact q | wp_step)
  have hd0 : ((h.push { cls := .type "dict", data := .dict #[] }).update e fun o => { o with dict := some h.objs.size }).get? h.objs.size = some { cls := .type "dict", data := .dict #[] } := by
    rw [Heap.get?_update_ne _ _ _ _ (Nat.ne_of_gt (Heap.lt_size he))]; exact Heap.get?_push_at rfl rfl
  have he1 : ((h.push { cls := .type "dict", data := .dict #[] }).update e fun o => { o with dict := some h.objs.size }).get? e = some { excO t with dict := some h.objs.size } := Heap.get?_update_self _ (Heap.get?_push_of_some _ he) rfl
  have hk1 : ∀ b o, b ≠ e → h.get? b = some o → ((h.push { cls := .type "dict", data := .dict #[] }).update e fun o => { o with dict := some h.objs.size }).get? b = some o := fun b o ne q => (Heap.get?_update_ne _ _ _ _ ne).trans (Heap.get?_push_of_some _ q)
  generalize (h.push { cls := .type "dict", data := .dict #[] }).update e (fun o => { o with dict := some h.objs.size }) = h1 at own hd0 he1 hk1
  show wpAny _ _ (Builtin.ObjectAttr.storeInOwnDict (.ref e) (.ref 52) (.str _ tk0) _ v false) _ _ _
  unfold Builtin.ObjectAttr.storeInOwnDict
  repeat (first | with_reducible refine own _ _ _ ?_ | with_reducible refine wpAny_askSetting ?_ | with_reducible refine wpAny_mkText ?_ | wp_step)
  exact hq _ _ ((Heap.get?_update_ne _ _ _ _ (Nat.ne_of_lt (Heap.lt_size he))).trans he1) fun b o ne q => (Heap.get?_update_ne _ _ _ _ (Nat.ne_of_lt (Heap.lt_size q))).trans (hk1 b o ne q)
theorem set_told {e t : Addr} {Q : Unit → Shared → Prop} (X : Frag.In (K9 w.params) h) (he : h.get? e = some (excO t))
    (hq : ∀ h' tk', h'.get? e = some { excO t with dict := some h.objs.size } → (∀ b o, b ≠ e → h.get? b = some o → h'.get? b = some o) → Q () ⟨h', g, d, tk', os⟩) :
    wpAny (model pw w) A (setAttr (.ref e) (Str.ofString "told") v) Q E ⟨h, g, d, tk, os⟩ :=
  set_plain (K := K9 w.params) (ox := excO t) (od := none) X ⟨he, rfl, rfl, trivial⟩ (pk_sa w) (store_told X he hq)
end
end Mine

end

section
open PySem PySem.W PyProof.Rows PySem.Calls
namespace Mine
set_option maxRecDepth 100000
set_option maxHeartbeats 0
theorem fillX3 : PySem.Challenge.rw_pb0596_01.foot = 6 ∧ K9 = K9 := by
  k_with_none
  k_with "my ne" => (first | (with_reducible first | assumption | exact Ne.symm (by assumption) | exact Mine.nr1 (by assumption) | exact Mine.ns1 (by assumption) | exact Mine.nt1 (by assumption) | exact Mine.nu1 (by assumption) | exact Mine.nr2 (by assumption) | exact Mine.ns2 (by assumption) | exact Mine.nt2 (by assumption) | exact Mine.nu2 (by assumption) | exact Mine.nr3 (by assumption) | exact Mine.ns3 (by assumption) | exact Mine.nt3 (by assumption) | exact Mine.nu3 (by assumption) | exact Mine.nr4 (by assumption) | exact Mine.ns4 (by assumption) | exact Mine.nt4 (by assumption) | exact Mine.nu4 (by assumption) | exact Mine.nr5 (by assumption) | exact Mine.ns5 (by assumption) | exact Mine.nt5 (by assumption) | exact Mine.nu5 (by assumption) | exact Mine.nr6 (by assumption) | exact Mine.ns6 (by assumption) | exact Mine.nt6 (by assumption) | exact Mine.nu6 (by assumption) | exact Mine.nr7 (by assumption) | exact Mine.ns7 (by assumption) | exact Mine.nt7 (by assumption) | exact Mine.nu7 (by assumption) | exact Mine.nr8 (by assumption) | exact Mine.ns8 (by assumption) | exact Mine.nt8 (by assumption) | exact Mine.nu8 (by assumption) | exact Mine.nr9 (by assumption) | exact Mine.ns9 (by assumption) | exact Mine.nr10 (by assumption) | exact Mine.ns10 (by assumption) | exact Mine.nr11 (by assumption) | exact Mine.ns11 (by assumption) | exact Mine.nr12 (by assumption) | exact Mine.ns12 (by assumption) | exact Mine.nw1 (by assumption) | exact Mine.nw2 (by assumption) | exact Mine.nw3 (by assumption) | exact Mine.nw4 (by assumption) | exact Mine.nw5 (by assumption) | exact Mine.nw6 (by assumption) | exact Mine.nk1 (by assumption) | exact Mine.nk2 (by assumption) | exact Mine.nk3 (by assumption) | exact Mine.nk4 (by assumption)) | fail "no")
  k_with "my om" => (first | ((with_reducible show @Eq Int _ _); with_reducible first | assumption | exact Eq.symm (by assumption) | exact Int.toNat_of_nonneg (by assumption)) | fail "no")
  k_with "my om" => (first | ((with_reducible show And (@LE.le Int _ _ _) _); with_reducible first | assumption | (refine Mine.i2 (by assumption) ?_; omega) | (refine Mine.i2' (by assumption) ?_; omega)) | fail "no")
  k_with "my om" => (first | ((with_reducible show @LT.lt Int _ _ _); first | (with_reducible first | assumption | exact Mine.i1' (by assumption) | exact Int.ofNat_lt.mpr (by assumption) | exact And.left (by assumption) | exact And.right (by assumption) | exact Int.lt_of_not_le (by assumption)) | decide +kernel) | fail "no")
  k_with "my om" => (first | ((with_reducible show @LE.le Int _ _ _); first | (with_reducible first | assumption | exact Int.natCast_nonneg _ | exact Int.le_refl _ | exact Mine.i1 _ | exact Int.ofNat_le.mpr (by assumption) | exact Mine.i6 (by assumption) (by assumption) | (refine Mine.i7 ?_; omega) | exact And.left (by assumption) | exact And.right (by assumption) | exact Int.le_of_not_lt (by assumption) | exact Int.le_of_lt (by assumption)) | decide +kernel) | fail "no")
  k_with "my om" => (first | ((with_reducible show @Eq Nat _ _); with_reducible first | assumption | exact Eq.symm (by assumption) | exact Mine.i5 (by assumption) | exact Mine.i4 _ | exact Mine.i3 _ | exact Eq.symm (Mine.i4 _) | exact Nat.add_sub_cancel_left .. | exact Nat.min_eq_left (by assumption) | exact Eq.trans (by assumption) (by assumption) | exact Eq.trans (Eq.symm (by assumption)) (by assumption) | exact Eq.trans (by assumption) (Eq.symm (by assumption))) | fail "no")
  k_with "my om" => (first | ((with_reducible show @LT.lt Nat _ _ _); with_reducible first | assumption | exact Mine.np (by assumption) | exact Mine.nq (by assumption) rfl | exact Mine.nv (by assumption) rfl | exact Mine.ia (by assumption) (by assumption) | exact Mine.ib (by assumption) (by assumption) | exact Nat.lt_of_lt_of_le (by assumption) (by assumption) | exact Nat.succ_lt_succ (by assumption) | exact And.left (by assumption) | exact And.right (by assumption) | exact Nat.lt_of_not_le (by assumption) | exact Mine.ia (Mine.ia (by assumption) (by assumption)) (by assumption) | exact Mine.ib (Mine.ia (by assumption) (by assumption)) (by assumption) | exact Mine.ia (Mine.ib (by assumption) (by assumption)) (by assumption) | exact Mine.ib (Mine.ib (by assumption) (by assumption)) (by assumption)) | fail "no")
  k_with "my om" => (first | ((with_reducible show @LE.le Nat _ _ _); first | (with_reducible first | assumption | exact Mine.nc (by assumption) rfl | exact Nat.le_refl _ | exact Mine.nl (by assumption) (by assumption) | exact Mine.nm (by assumption) (by assumption) | exact Mine.nn (by assumption) (by assumption) | exact Mine.nn (by assumption) (Mine.nc (by assumption) rfl) | exact Mine.nl (by assumption) (Mine.nc (by assumption) rfl) | exact Mine.nm (by assumption) (Mine.nc (by assumption) rfl) | exact Mine.nl (by assumption) (Mine.nl (by assumption) (Mine.nc (by assumption) rfl)) | exact Mine.nl (by assumption) (Mine.nn (by assumption) (Mine.nc (by assumption) rfl)) | exact Mine.nm (by assumption) (Mine.nn (by assumption) (Mine.nc (by assumption) rfl)) | exact Mine.nl (by assumption) (Mine.nm (by assumption) (Mine.nc (by assumption) rfl)) | exact Mine.nm (by assumption) (Mine.nl (by assumption) (Mine.nc (by assumption) rfl)) | exact Mine.nm (by assumption) (Mine.nm (by assumption) (Mine.nc (by assumption) rfl)) | exact Nat.le_add_right _ _ | exact Nat.succ_le_succ (by assumption) | exact Nat.le_of_eq (by assumption) | exact Nat.le_of_eq (Eq.symm (by assumption)) | exact Nat.le_succ_of_le (by assumption) | exact Nat.le_of_not_lt (by assumption) | exact Int.toNat_le_toNat (by assumption) | exact Mine.ig (by assumption) (by assumption) rfl | exact Mine.ih (by assumption) (by assumption) rfl | exact And.left (by assumption) | exact And.right (by assumption) | (refine Mine.ie ?_ (by assumption); omega) | (refine Mine.ie' ?_ (by assumption); omega) | (refine Mine.id1 ?_; omega) | (refine Mine.ij ?_; omega) | (refine Mine.ic (by assumption) rfl ?_; omega)) | exact Mine.nz rfl) | fail "no")
  k_with "my own" => (first | assumption | exact Mine.PAt.of (by assumption) (PySem.SameStack.mark _ _) | exact Mine.PAt.of (by assumption) (PySem.SameStack.unmark _ _) | fail "no")
  k_fill
  exact ⟨rfl, rfl⟩
theorem bad_cls (w : World) : ∃ nm q N bs sn sub ab col dd k0 k1 k2 k3 k5, (K9 w.params).lookup 52 = some (excClassObj nm q 52 N bs [.ref 39, .type "Exception", .type "BaseException", .type "object"] true sn sub ab col dd k0 k1 k2 k3 k5 "Exception.__new__") := ⟨_, _, _, _, _, _, _, _, _, _, _, _, _, _, rfl⟩
theorem told_set {w : World} {A : Around} {g : Heap} {L e t : Addr} {m : Str → Option Value} {s : Shared} {v : Value} {Q : Unit → Shared → Prop} {E : Value → Shared → Prop} (X : Frag.In (K9 w.params) g) (F : Fr g L s.heap m) (N : News g L s.heap [(e, excO t)])
    (h : ∀ h' tk' d, Fr g L h' m → News g L h' [(e, { excO t with dict := some d })] → Q () { s with heap := h', toks := tk' }) : wpAny (model pw w) A (setAttr (.ref e) (Str.ofString "told") v) Q E s := by
  obtain ⟨n1, n2, n3⟩ := N _ (.head _)
  obtain ⟨hp, gs, dr, tk, os⟩ := s
  refine set_told (X.keeps F.keep) n1 fun h' tk' h1 h2 => h h' tk' hp.objs.size ⟨F.ns.at' fun o q => h2 L o (Ne.symm n2) q, fun b o q => h2 b o (fun z => by rw [z, n3] at q; cases q) (F.keep b o q), F.above⟩ fun q hq => ?_
  rw [List.mem_singleton.mp hq]
  exact ⟨h1, n2, n3⟩
theorem none_of_sub {a b : Heap} {x : Addr} (k : Kp a b) (e : b.get? x = none) : a.get? x = none := by
  cases q : a.get? x with
  | none => rfl
  | some o => have := k x o q; rw [e] at this; cases this
theorem uinit_cc {w : World} {base : Heap} (G : Gr w base) (e t : Addr) (v : Value) (hnb : base.get? e = none) :
   CC w base 36 [.ref e, v] 1 (fun h => h.get? e = some (excO t)) (fun h r h' => r = .none ∧ (∃ d, h'.get? e = some { excO t with dict := some d }) ∧ ∀ b o, b ≠ e → h.get? b = some o → h'.get? b = some o) := by
  obtain ⟨X, p, loose, mean, mg, mb, T⟩ := G
  intro dp un fr gd s Q E hdp hun hb hp hret
  w_on
  k_dflt (refine enter (binds := [(Str.ofString "self", .ref e), (Str.ofString "told", v)]) [(e, excO t)] X T hb (fun q hq => by rw [List.mem_singleton.mp hq]; exact ⟨hp, hnb⟩) (by k_is) (by k_is) (by show dp < recursionLimit; omega) (binds_K (X.keeps hb) rfl (by k_is) rfl rfl rfl) (locs rfl) (fun E9 Q9 g L h₁ g9s d9r t9k o9s hQ9 hE9 hP9 hA9 hB hG X' T' F' N' hL => ?_))
  try dsimp only
  k_unmd
  try k_fold
  k_with "setAttr ref" => (k_here; k_dflt (refine' told_set X' ?kF ?kN ?_; (case kF => k_asm); (case kN => k_asm)); intro h9 tk9 d9 F9 N9; k_sweep)
  k_steps
  all_goals (try ((with_reducible refine hQ9 _ _ _ ?_); (try dsimp only)))
  all_goals (try dsimp only)
  all_goals (exact hret _ _ _ ⟨rfl, ⟨_, (N9 _ (.head _)).1⟩, fun b o hne q => F9.keep _ _ (hG b o q (by simpa using hne))⟩)
noncomputable def MadeE (h h' : Heap) (e : Addr) : Prop := (∀ b o, h.get? b = some o → h'.get? b = some o) ∧ h.get? e = none ∧ ∃ t d, h'.get? e = some { cls := .ref 52, dict := some d, data := .fields #[.ref t, .none, .none, .none, .bool false, .none] }
theorem call_bad {w : World} {base : Heap} (G : Gr w base) {dp un : Nat} {fr : Option (List Env)} {gd : Option (List Code)} {s : Shared} {v : Value} {Q E : Value → Shared → Prop} (hB : Kp base s.heap) (hdp : dp + 2 < recursionLimit) (hun : un + 24 < cLine)
    (h : ∀ h' e tk', MadeE s.heap h' e → Q (.ref e) { s with heap := h', toks := tk' }) : wpAny (model pw w) (Ar dp un fr gd) (call (.ref 52) [v]) Q E s := by
  have X := G.X
  obtain ⟨hp, g, d, t, os⟩ := s
  refine call_52 (X.keeps hB) fun h' e M => ?_
  obtain ⟨k, e2, t1, e1⟩ := M
  have hcu : (Code.builtin "type.__call__" ⟨[Value.ref 52, v], []⟩).cUnits ≤ 16 := Nat.le_of_ble_eq_true rfl
  refine uinit_cc G e t1 v (none_of_sub hB e2) _ _ _ _ ⟨h', g, d, t, os⟩ _ _ ?_ ?_ (fun b o q => k b o (hB b o q)) e1 ?_
  · exact hdp
  · show un + (Code.builtin "type.__call__" ⟨[Value.ref 52, v], []⟩).cUnits + 8 * 1 < cLine; omega
  · rintro r h2 tk' ⟨rfl, ⟨d2, hd2⟩, kp⟩
    exact ⟨rfl, h h2 e tk' ⟨fun b o q => kp b o (fun z => by rw [z, e2] at q; cases q) (k _ _ q), e2, t1, d2, hd2⟩⟩
end Mine

end

section
open PySem PySem.W PyProof.Rows PySem.Calls
namespace Mine
set_option maxRecDepth 100000
set_option maxHeartbeats 0
theorem fill2 : PySem.Challenge.rw_pb0596_01.foot = 6 ∧ K9 = K9 := by
  k_with_none
  k_with "my ne" => (first | (with_reducible first | assumption | exact Ne.symm (by assumption) | exact Mine.nr1 (by assumption) | exact Mine.ns1 (by assumption) | exact Mine.nt1 (by assumption) | exact Mine.nu1 (by assumption) | exact Mine.nr2 (by assumption) | exact Mine.ns2 (by assumption) | exact Mine.nt2 (by assumption) | exact Mine.nu2 (by assumption) | exact Mine.nr3 (by assumption) | exact Mine.ns3 (by assumption) | exact Mine.nt3 (by assumption) | exact Mine.nu3 (by assumption) | exact Mine.nr4 (by assumption) | exact Mine.ns4 (by assumption) | exact Mine.nt4 (by assumption) | exact Mine.nu4 (by assumption) | exact Mine.nr5 (by assumption) | exact Mine.ns5 (by assumption) | exact Mine.nt5 (by assumption) | exact Mine.nu5 (by assumption) | exact Mine.nr6 (by assumption) | exact Mine.ns6 (by assumption) | exact Mine.nt6 (by assumption) | exact Mine.nu6 (by assumption) | exact Mine.nr7 (by assumption) | exact Mine.ns7 (by assumption) | exact Mine.nt7 (by assumption) | exact Mine.nu7 (by assumption) | exact Mine.nr8 (by assumption) | exact Mine.ns8 (by assumption) | exact Mine.nt8 (by assumption) | exact Mine.nu8 (by assumption) | exact Mine.nr9 (by assumption) | exact Mine.ns9 (by assumption) | exact Mine.nr10 (by assumption) | exact Mine.ns10 (by assumption) | exact Mine.nr11 (by assumption) | exact Mine.ns11 (by assumption) | exact Mine.nr12 (by assumption) | exact Mine.ns12 (by assumption) | exact Mine.nw1 (by assumption) | exact Mine.nw2 (by assumption) | exact Mine.nw3 (by assumption) | exact Mine.nw4 (by assumption) | exact Mine.nw5 (by assumption) | exact Mine.nw6 (by assumption) | exact Mine.nk1 (by assumption) | exact Mine.nk2 (by assumption) | exact Mine.nk3 (by assumption) | exact Mine.nk4 (by assumption)) | fail "no")
  k_with "my om" => (first | ((with_reducible show @Eq Int _ _); with_reducible first | assumption | exact Eq.symm (by assumption) | exact Int.toNat_of_nonneg (by assumption)) | fail "no")
  k_with "my om" => (first | ((with_reducible show And (@LE.le Int _ _ _) _); with_reducible first | assumption | (refine Mine.i2 (by assumption) ?_; omega) | (refine Mine.i2' (by assumption) ?_; omega)) | fail "no")
  k_with "my om" => (first | ((with_reducible show @LT.lt Int _ _ _); first | (with_reducible first | assumption | exact Mine.i1' (by assumption) | exact Int.ofNat_lt.mpr (by assumption) | exact And.left (by assumption) | exact And.right (by assumption) | exact Int.lt_of_not_le (by assumption)) | decide +kernel) | fail "no")
  k_with "my om" => (first | ((with_reducible show @LE.le Int _ _ _); first | (with_reducible first | assumption | exact Int.natCast_nonneg _ | exact Int.le_refl _ | exact Mine.i1 _ | exact Int.ofNat_le.mpr (by assumption) | exact Mine.i6 (by assumption) (by assumption) | (refine Mine.i7 ?_; omega) | exact And.left (by assumption) | exact And.right (by assumption) | exact Int.le_of_not_lt (by assumption) | exact Int.le_of_lt (by assumption)) | decide +kernel) | fail "no")
  k_with "my om" => (first | ((with_reducible show @Eq Nat _ _); with_reducible first | assumption | exact Eq.symm (by assumption) | exact Mine.i5 (by assumption) | exact Mine.i4 _ | exact Mine.i3 _ | exact Eq.symm (Mine.i4 _) | exact Nat.add_sub_cancel_left .. | exact Nat.min_eq_left (by assumption) | exact Eq.trans (by assumption) (by assumption) | exact Eq.trans (Eq.symm (by assumption)) (by assumption) | exact Eq.trans (by assumption) (Eq.symm (by assumption))) | fail "no")
  k_with "my om" => (first | ((with_reducible show @LT.lt Nat _ _ _); with_reducible first | assumption | exact Mine.np (by assumption) | exact Mine.nq (by assumption) rfl | exact Mine.nv (by assumption) rfl | exact Mine.ia (by assumption) (by assumption) | exact Mine.ib (by assumption) (by assumption) | exact Nat.lt_of_lt_of_le (by assumption) (by assumption) | exact Nat.succ_lt_succ (by assumption) | exact And.left (by assumption) | exact And.right (by assumption) | exact Nat.lt_of_not_le (by assumption) | exact Mine.ia (Mine.ia (by assumption) (by assumption)) (by assumption) | exact Mine.ib (Mine.ia (by assumption) (by assumption)) (by assumption) | exact Mine.ia (Mine.ib (by assumption) (by assumption)) (by assumption) | exact Mine.ib (Mine.ib (by assumption) (by assumption)) (by assumption)) | fail "no")
  k_with "my om" => (first | ((with_reducible show @LE.le Nat _ _ _); first | (with_reducible first | assumption | exact Mine.nc (by assumption) rfl | exact Nat.le_refl _ | exact Mine.nl (by assumption) (by assumption) | exact Mine.nm (by assumption) (by assumption) | exact Mine.nn (by assumption) (by assumption) | exact Mine.nn (by assumption) (Mine.nc (by assumption) rfl) | exact Mine.nl (by assumption) (Mine.nc (by assumption) rfl) | exact Mine.nm (by assumption) (Mine.nc (by assumption) rfl) | exact Mine.nl (by assumption) (Mine.nl (by assumption) (Mine.nc (by assumption) rfl)) | exact Mine.nl (by assumption) (Mine.nn (by assumption) (Mine.nc (by assumption) rfl)) | exact Mine.nm (by assumption) (Mine.nn (by assumption) (Mine.nc (by assumption) rfl)) | exact Mine.nl (by assumption) (Mine.nm (by assumption) (Mine.nc (by assumption) rfl)) | exact Mine.nm (by assumption) (Mine.nl (by assumption) (Mine.nc (by assumption) rfl)) | exact Mine.nm (by assumption) (Mine.nm (by assumption) (Mine.nc (by assumption) rfl)) | exact Nat.le_add_right _ _ | exact Nat.succ_le_succ (by assumption) | exact Nat.le_of_eq (by assumption) | exact Nat.le_of_eq (Eq.symm (by assumption)) | exact Nat.le_succ_of_le (by assumption) | exact Nat.le_of_not_lt (by assumption) | exact Int.toNat_le_toNat (by assumption) | exact Mine.ig (by assumption) (by assumption) rfl | exact Mine.ih (by assumption) (by assumption) rfl | exact And.left (by assumption) | exact And.right (by assumption) | (refine Mine.ie ?_ (by assumption); omega) | (refine Mine.ie' ?_ (by assumption); omega) | (refine Mine.id1 ?_; omega) | (refine Mine.ij ?_; omega) | (refine Mine.ic (by assumption) rfl ?_; omega)) | exact Mine.nz rfl) | fail "no")
  k_with "my own" => (first | assumption | exact Mine.PAt.of (by assumption) (PySem.SameStack.mark _ _) | exact Mine.PAt.of (by assumption) (PySem.SameStack.unmark _ _) | fail "no")
  k_fill
  exact ⟨rfl, rfl⟩
/-- ascending, by places -/
noncomputable def Asc (ns : List Int) : Prop := ∀ i j, i ≤ j → j < ns.length → ns.getD i 0 ≤ ns.getD j 0
structure PbInv (ns : List Int) (x lo hi : Int) : Prop where
  a : 0 ≤ lo
  b : lo ≤ hi
  c : hi ≤ (ns.length : Int)
  d : ∀ i : Nat, (i : Int) < lo → ns.getD i 0 ≤ x
  e : ∀ i : Nat, hi ≤ (i : Int) → i < ns.length → x < ns.getD i 0
theorem pb_start {ns : List Int} {x : Int} : PbInv ns x 0 (ns.length : Int) := ⟨by omega, by omega, by omega, fun i h => by omega, fun i h h' => by omega⟩
theorem pb_mid {lo hi : Int} (h : lo < hi) : lo ≤ (lo + hi).fdiv 2 ∧ (lo + hi).fdiv 2 < hi := by
  have : (lo + hi).fdiv 2 = (lo + hi) / 2 := Int.fdiv_eq_ediv_of_nonneg _ (by omega)
  omega
theorem pb_up {ns : List Int} {x lo hi : Int} (hs : Asc ns) (I : PbInv ns x lo hi) (h : lo < hi) (hx : ns.getD ((lo + hi).fdiv 2).toNat 0 ≤ x) : PbInv ns x ((lo + hi).fdiv 2 + 1) hi := by
  have hm := pb_mid h
  have ha := I.a
  have hc := I.c
  refine ⟨by omega, by omega, by omega, fun i hi' => ?_, I.e⟩
  refine Int.le_trans (hs i ((lo + hi).fdiv 2).toNat ?_ ?_) hx
  · have := I.a; omega
  · have := I.a; have := I.c; omega
theorem pb_down {ns : List Int} {x lo hi : Int} (hs : Asc ns) (I : PbInv ns x lo hi) (h : lo < hi) (hx : x < ns.getD ((lo + hi).fdiv 2).toNat 0) : PbInv ns x lo ((lo + hi).fdiv 2) := by
  have hm := pb_mid h
  have ha := I.a
  have hc := I.c
  refine ⟨by omega, by omega, by omega, I.d, fun i hi' hl => ?_⟩
  refine Int.lt_of_lt_of_le hx (hs ((lo + hi).fdiv 2).toNat i ?_ hl)
  have := I.a; omega
/-- how many are at most x -/
noncomputable def cnt (ns : List Int) (x : Int) : Nat := (ns.filter fun n => decide (n ≤ x)).length
theorem cnt_of {x : Int} : ∀ {ns : List Int} {k : Nat}, k ≤ ns.length → (∀ i : Nat, i < k → ns.getD i 0 ≤ x) → (∀ i : Nat, k ≤ i → i < ns.length → x < ns.getD i 0) → cnt ns x = k
  | [], k, h, _, _ => by simp [cnt] at *; omega
  | n :: r, 0, _, _, he => by
    have h0 := he 0 (Nat.le_refl _) (by simp)
    have ih := cnt_of (x := x) (ns := r) (k := 0) (Nat.zero_le _) (fun i h => absurd h (Nat.not_lt_zero _)) (fun i _ hl => by simpa using he (i + 1) (Nat.zero_le _) (by simp; omega))
    simp only [List.getD_cons_zero] at h0
    simp only [cnt, List.filter_cons, show ¬ n ≤ x from by omega, decide_false, Bool.false_eq_true, if_false]
    exact ih
  | n :: r, k + 1, h, hd, he => by
    have h0 := hd 0 (Nat.zero_lt_succ _)
    have ih := cnt_of (x := x) (ns := r) (k := k) (by simpa using h) (fun i h => by simpa using hd (i + 1) (by omega)) (fun i h hl => by simpa using he (i + 1) (by omega) (by simp; omega))
    simp only [List.getD_cons_zero] at h0
    simp only [cnt, List.filter_cons, h0, decide_true, if_true, List.length_cons]
    rw [show (List.filter (fun n => decide (n ≤ x)) r).length = cnt r x from rfl, ih]
theorem pb_fin {ns : List Int} {x lo hi : Int} (I : PbInv ns x lo hi) (h : ¬ lo < hi) : lo = (cnt ns x : Int) := by
  have ha := I.a
  have hb := I.b
  have hc := I.c
  have := cnt_of (x := x) (ns := ns) (k := lo.toNat) (by omega) (fun i h => I.d i (by omega)) (fun i h' hl => I.e i (by omega) hl)
  omega
theorem pb_ret {ns : List Int} {x lo hi : Int} {t₀ : Tok} (I : PbInv ns x lo hi) (h : ¬ lo < hi) : ∃ t, Value.int (lo - 1) t₀ = .int ((cnt ns x : Int) - 1) t := ⟨t₀, by rw [pb_fin I h]⟩
theorem pb_idx {ns : List Int} {x lo hi : Int} (I : PbInv ns x lo hi) (h : lo < hi) : 0 ≤ (lo + hi).fdiv 2 ∧ (lo + hi).fdiv 2 < (ns.length : Int) := by
  have hm := pb_mid h
  have ha := I.a
  have hc := I.c
  omega
theorem item_ints {prog : Program} {w : World} {A : Around} {E : Value → Shared → Prop} {s : Shared} {value slice : PySem.Expr} {l : Addr} {vs : List Value} {ns : List Int} {k : Int} {u : Tok} {Q : Value → Shared → Prop}
    (hl : s.heap.IsList l vs.toArray) (hi : IntsAre vs ns) (hlen : ns.length ≤ 100) (hk : 0 ≤ k ∧ k < (ns.length : Int)) (h : ∀ t, Q (.int (ns.getD k.toNat 0) t) s)
    (hs : subscripted slice false (.ref l) (.int k u) = operate [.ref l, .int k u] (getItem (.ref l) (.int k u)) := by with_unfolding_all rfl) :
    wpAny (model prog w) A (subscriptTail value slice (.ref l) (.int k u)) Q E s := by
  have hx : ns[k.toNat]? = some (ns.getD k.toNat 0) := by
    rw [List.getD_eq_getElem?_getD]
    have : k.toNat < ns.length := by omega
    simp [this]
  obtain ⟨t, ht⟩ := hi.get _ _ hx
  exact tail_any hl.typeIs slot_list_getitem.lookup (wpAny_getItem_list hl hk.1 (by omega) (by simpa using ht) (h t)) hs
theorem pbh_cc {w : World} {base : Heap} (G : Gr w base) (l : Addr) (vs : List Value) (ns : List Int) (x : Int) (t : Tok) (hlen : ns.length ≤ 100) (hs : Asc ns) :
   CC w base 61 [.ref l, .int x t] 1 (fun h => h.IsList l vs.toArray ∧ IntsAre vs ns) (fun h v h' => Kp h h' ∧ ∃ t, v = .int ((cnt ns x : Int) - 1) t) := by
  obtain ⟨X, p, loose, mean, mg, mb, T⟩ := G
  intro dp un fr gd s Q E hdp hun hb hp hret
  obtain ⟨hl, hi⟩ := hp
  w_on
  k_dflt (refine enter (binds := [(Str.ofString "firsts", .ref l), (Str.ofString "number", .int x t)]) [] X T hb (fun _ h => nomatch h) (by k_is) (by k_is) (by show dp < recursionLimit; omega) (BindsTo.of_eq rfl) (locs rfl) (fun E9 Q9 g L h₁ g9s d9r t9k o9s hQ9 hE9 hP9 hA9 hB hG X' T' F' N' hL => ?_))
  try dsimp only
  have hl' : g.IsList l vs.toArray := hl.at fun o e => hG _ _ e (fun h => nomatch h)
  k_unmd
  try k_fold
  k_with "exec While Compare cons nil" => k_while (fun script lo hi => PbInv script x lo hi) (fun script lo hi => (hi - lo).toNat) "low" "high"
  k_with "subscriptTail Name Name ref int" => ((with_unfolding_all refine' item_ints (ns := ns) ?k1 hi hlen ?k2 ?_); (case k1 => is_list); (case k2 => exact pb_idx (by assumption) (by assumption)); intro t9)
  k_with "state" => first | exact pb_start | exact pb_up hs (by assumption) (by assumption) (by assumption) | exact pb_down hs (by assumption) (by assumption) (by omega)
  k_with "measure" => (have hm9 := pb_mid (by assumption); omega)
  k_steps
  all_goals (try ((with_reducible refine hQ9 _ _ _ ?_); (try dsimp only)))
  all_goals (try dsimp only [InvPost])
  all_goals (refine pure_end (s := s) (R := fun v => ∃ t, v = .int ((cnt ns x : Int) - 1) t) hret hG (by assumption) ?_)
  all_goals ((try dsimp only); exact pb_ret (by assumption) (by assumption))
end Mine

end

section
open PySem PySem.W PyProof.Rows PySem.Calls
namespace Mine
set_option maxRecDepth 100000
set_option maxHeartbeats 0
theorem fill3 : PySem.Challenge.rw_pb0596_01.foot = 6 ∧ K9 = K9 := by
  k_with_none
  k_with "my ne" => (first | (with_reducible first | assumption | exact Ne.symm (by assumption) | exact Mine.nr1 (by assumption) | exact Mine.ns1 (by assumption) | exact Mine.nt1 (by assumption) | exact Mine.nu1 (by assumption) | exact Mine.nr2 (by assumption) | exact Mine.ns2 (by assumption) | exact Mine.nt2 (by assumption) | exact Mine.nu2 (by assumption) | exact Mine.nr3 (by assumption) | exact Mine.ns3 (by assumption) | exact Mine.nt3 (by assumption) | exact Mine.nu3 (by assumption) | exact Mine.nr4 (by assumption) | exact Mine.ns4 (by assumption) | exact Mine.nt4 (by assumption) | exact Mine.nu4 (by assumption) | exact Mine.nr5 (by assumption) | exact Mine.ns5 (by assumption) | exact Mine.nt5 (by assumption) | exact Mine.nu5 (by assumption) | exact Mine.nr6 (by assumption) | exact Mine.ns6 (by assumption) | exact Mine.nt6 (by assumption) | exact Mine.nu6 (by assumption) | exact Mine.nr7 (by assumption) | exact Mine.ns7 (by assumption) | exact Mine.nt7 (by assumption) | exact Mine.nu7 (by assumption) | exact Mine.nr8 (by assumption) | exact Mine.ns8 (by assumption) | exact Mine.nt8 (by assumption) | exact Mine.nu8 (by assumption) | exact Mine.nr9 (by assumption) | exact Mine.ns9 (by assumption) | exact Mine.nr10 (by assumption) | exact Mine.ns10 (by assumption) | exact Mine.nr11 (by assumption) | exact Mine.ns11 (by assumption) | exact Mine.nr12 (by assumption) | exact Mine.ns12 (by assumption) | exact Mine.nw1 (by assumption) | exact Mine.nw2 (by assumption) | exact Mine.nw3 (by assumption) | exact Mine.nw4 (by assumption) | exact Mine.nw5 (by assumption) | exact Mine.nw6 (by assumption) | exact Mine.nk1 (by assumption) | exact Mine.nk2 (by assumption) | exact Mine.nk3 (by assumption) | exact Mine.nk4 (by assumption)) | fail "no")
  k_with "my om" => (first | ((with_reducible show @Eq Int _ _); with_reducible first | assumption | exact Eq.symm (by assumption) | exact Int.toNat_of_nonneg (by assumption)) | fail "no")
  k_with "my om" => (first | ((with_reducible show And (@LE.le Int _ _ _) _); with_reducible first | assumption | (refine Mine.i2 (by assumption) ?_; omega) | (refine Mine.i2' (by assumption) ?_; omega)) | fail "no")
  k_with "my om" => (first | ((with_reducible show @LT.lt Int _ _ _); first | (with_reducible first | assumption | exact Mine.i1' (by assumption) | exact Int.ofNat_lt.mpr (by assumption) | exact And.left (by assumption) | exact And.right (by assumption) | exact Int.lt_of_not_le (by assumption)) | decide +kernel) | fail "no")
  k_with "my om" => (first | ((with_reducible show @LE.le Int _ _ _); first | (with_reducible first | assumption | exact Int.natCast_nonneg _ | exact Int.le_refl _ | exact Mine.i1 _ | exact Int.ofNat_le.mpr (by assumption) | exact Mine.i6 (by assumption) (by assumption) | (refine Mine.i7 ?_; omega) | exact And.left (by assumption) | exact And.right (by assumption) | exact Int.le_of_not_lt (by assumption) | exact Int.le_of_lt (by assumption)) | decide +kernel) | fail "no")
  k_with "my om" => (first | ((with_reducible show @Eq Nat _ _); with_reducible first | assumption | exact Eq.symm (by assumption) | exact Mine.i5 (by assumption) | exact Mine.i4 _ | exact Mine.i3 _ | exact Eq.symm (Mine.i4 _) | exact Nat.add_sub_cancel_left .. | exact Nat.min_eq_left (by assumption) | exact Eq.trans (by assumption) (by assumption) | exact Eq.trans (Eq.symm (by assumption)) (by assumption) | exact Eq.trans (by assumption) (Eq.symm (by assumption))) | fail "no")
  k_with "my om" => (first | ((with_reducible show @LT.lt Nat _ _ _); with_reducible first | assumption | exact Mine.np (by assumption) | exact Mine.nq (by assumption) rfl | exact Mine.nv (by assumption) rfl | exact Mine.ia (by assumption) (by assumption) | exact Mine.ib (by assumption) (by assumption) | exact Nat.lt_of_lt_of_le (by assumption) (by assumption) | exact Nat.succ_lt_succ (by assumption) | exact And.left (by assumption) | exact And.right (by assumption) | exact Nat.lt_of_not_le (by assumption) | exact Mine.ia (Mine.ia (by assumption) (by assumption)) (by assumption) | exact Mine.ib (Mine.ia (by assumption) (by assumption)) (by assumption) | exact Mine.ia (Mine.ib (by assumption) (by assumption)) (by assumption) | exact Mine.ib (Mine.ib (by assumption) (by assumption)) (by assumption)) | fail "no")
  k_with "my om" => (first | ((with_reducible show @LE.le Nat _ _ _); first | (with_reducible first | assumption | exact Mine.nc (by assumption) rfl | exact Nat.le_refl _ | exact Mine.nl (by assumption) (by assumption) | exact Mine.nm (by assumption) (by assumption) | exact Mine.nn (by assumption) (by assumption) | exact Mine.nn (by assumption) (Mine.nc (by assumption) rfl) | exact Mine.nl (by assumption) (Mine.nc (by assumption) rfl) | exact Mine.nm (by assumption) (Mine.nc (by assumption) rfl) | exact Mine.nl (by assumption) (Mine.nl (by assumption) (Mine.nc (by assumption) rfl)) | exact Mine.nl (by assumption) (Mine.nn (by assumption) (Mine.nc (by assumption) rfl)) | exact Mine.nm (by assumption) (Mine.nn (by assumption) (Mine.nc (by assumption) rfl)) | exact Mine.nl (by assumption) (Mine.nm (by assumption) (Mine.nc (by assumption) rfl)) | exact Mine.nm (by assumption) (Mine.nl (by assumption) (Mine.nc (by assumption) rfl)) | exact Mine.nm (by assumption) (Mine.nm (by assumption) (Mine.nc (by assumption) rfl)) | exact Nat.le_add_right _ _ | exact Nat.succ_le_succ (by assumption) | exact Nat.le_of_eq (by assumption) | exact Nat.le_of_eq (Eq.symm (by assumption)) | exact Nat.le_succ_of_le (by assumption) | exact Nat.le_of_not_lt (by assumption) | exact Int.toNat_le_toNat (by assumption) | exact Mine.ig (by assumption) (by assumption) rfl | exact Mine.ih (by assumption) (by assumption) rfl | exact And.left (by assumption) | exact And.right (by assumption) | (refine Mine.ie ?_ (by assumption); omega) | (refine Mine.ie' ?_ (by assumption); omega) | (refine Mine.id1 ?_; omega) | (refine Mine.ij ?_; omega) | (refine Mine.ic (by assumption) rfl ?_; omega)) | exact Mine.nz rfl) | fail "no")
  k_with "my own" => (first | assumption | exact Mine.PAt.of (by assumption) (PySem.SameStack.mark _ _) | exact Mine.PAt.of (by assumption) (PySem.SameStack.unmark _ _) | fail "no")
  k_fill
  k_with "my inst" => (first | exact InstAt.up (by assumption) (Fr.keep (by k_asm)) | fail "no")
  exact ⟨rfl, rfl⟩
theorem InstAt.up {h h' : Heap} {x C : Addr} {ox : Obj} {od : Option Obj} (I : PySem.W.InstAt h x ox C od) (k : Kp h h') : PySem.W.InstAt h' x ox C od := by
  refine ⟨k _ _ I.at_, I.cls, I.no, ?_⟩
  have hd := I.dict
  revert hd
  cases ox.dict <;> cases od <;> first | exact fun h => h | exact fun h => k _ _ h
@[reducible] noncomputable def rdEs (w : World) (t0 t1 t2 : Tok) (dv : Value) (ls lv : Addr) : List DictEntry :=
  [⟨PyData.keyHash w.params (Str.ofString "default"), .str (Str.ofString "default") t0, dv⟩, ⟨PyData.keyHash w.params (Str.ofString "starts"), .str (Str.ofString "starts") t1, .ref ls⟩, ⟨PyData.keyHash w.params (Str.ofString "values"), .str (Str.ofString "values") t2, .ref lv⟩]
structure MapAt (w : World) (h : Heap) (rm rd ls lv : Addr) (t0 t1 t2 : Tok) (dv : Value) (n : Nat) (vs : List Value) (ns : List Int) (xs : List Value) : Prop where
  inst : PySem.W.InstAt h rm (instObj 242 rd) 242 (some (dictOf (rdEs w t0 t1 t2 dv ls lv) n))
  sl : h.IsList ls vs.toArray
  si : IntsAre vs ns
  vl : h.IsList lv xs.toArray
  ln : ns.length = xs.length
  mo : ns.length ≤ 100
  asc : Asc ns
  zero : ns.getD 0 0 = 0 ∧ 0 < ns.length
theorem item_list {prog : Program} {w : World} {A : Around} {E : Value → Shared → Prop} {s : Shared} {value slice : PySem.Expr} {l : Addr} {xs : List Value} {k : Int} {u : Tok} {Q : Value → Shared → Prop}
    (hl : s.heap.IsList l xs.toArray) (hlen : xs.length ≤ 100) (hk : 0 ≤ k ∧ k < (xs.length : Int)) (h : ∀ v, xs[k.toNat]? = some v → Q v s)
    (hs : subscripted slice false (.ref l) (.int k u) = operate [.ref l, .int k u] (getItem (.ref l) (.int k u)) := by with_unfolding_all rfl) :
    wpAny (model prog w) A (subscriptTail value slice (.ref l) (.int k u)) Q E s := by
  have hx : xs[k.toNat]? = some (xs[k.toNat]'(by omega)) := by
    have : k.toNat < xs.length := by omega
    simp [this]
  exact tail_any hl.typeIs slot_list_getitem.lookup (wpAny_getItem_list hl hk.1 (by omega) (by simpa using hx) (h _ hx)) hs
theorem cnt_pos {ns : List Int} {x : Int} (hz : ns.getD 0 0 = 0 ∧ 0 < ns.length) (hx : 0 ≤ x) : 0 < cnt ns x := by
  cases ns with
  | nil => exact absurd hz.2 (by simp)
  | cons n r =>
    have h0 : n = 0 := by simpa using hz.1
    subst h0
    simp [cnt, hx]
theorem cnt_le (ns : List Int) (x : Int) : cnt ns x ≤ ns.length := List.length_filter_le _ _
theorem rget_cc {w : World} {base : Heap} (G : Gr w base) (rm rd ls lv : Addr) (t0 t1 t2 : Tok) (dv : Value) (n : Nat) (vs : List Value) (ns : List Int) (xs : List Value) (x : Int) (t : Tok) (hx : 0 ≤ x) :
   CC w base 218 [.ref rm, .int x t] 2 (fun h => MapAt w h rm rd ls lv t0 t1 t2 dv n vs ns xs) (fun h v h' => Kp h h' ∧ xs[cnt ns x - 1]? = some v) := by
  have G' := G
  obtain ⟨X, p, loose, mean, mg, mb, T⟩ := G
  intro dp un fr gd s Q E hdp hun hb hp hret
  obtain ⟨I, hl, hi, hv, hlen, hmost, hasc, hz⟩ := hp
  w_on
  k_dflt (refine enter (binds := [(Str.ofString "self", .ref rm), (Str.ofString "code", .int x t)]) [] X T hb (fun _ h => nomatch h) (by k_is) (by k_is) (by show dp < recursionLimit; omega) (BindsTo.of_eq rfl) (locs rfl) (fun E9 Q9 g L h₁ g9s d9r t9k o9s hQ9 hE9 hP9 hA9 hB hG X' T' F' N' hL => ?_))
  try dsimp only
  have hk : Kp s.heap g := fun b o e => hG _ _ e (fun h => nomatch h)
  have I' := InstAt.up I hk
  have hl' : g.IsList ls vs.toArray := hl.at fun o e => hk _ _ e
  have hv' : g.IsList lv xs.toArray := hv.at fun o e => hk _ _ e
  k_unmd
  try k_fold
  k_with "call ref" => ((refine' use_pure (pbh_cc G' ls vs ns x t hmost hasc) hB ?kF ?kN ?kp ?kd ?ku ?_); (case kF => k_asm); (case kN => k_asm); (case kp => exact ⟨by is_list, hi⟩); (case kd => k_dflt (exact lim1 hdp rfl)); (case ku => k_dflt (exact lim3 hun rfl)); intro v9 h9 tk9 hR9 hk9 F9 N9; (obtain ⟨t9, e9⟩ := hR9); subst e9; k_sweep)
  k_with "subscriptTail" => ((with_unfolding_all refine' item_list (xs := xs) ?k1 (by omega) ?k2 ?_); (case k1 => is_list); (case k2 => (have h1 := cnt_pos hz hx; have h2 := cnt_le ns x; omega)); intro v9 hv9)
  k_steps
  all_goals (try ((with_reducible refine hQ9 _ _ _ ?_); (try dsimp only)))
  all_goals (refine pure_end (s := s) (R := fun v => xs[cnt ns x - 1]? = some v) hret hG (by assumption) ?_)
  all_goals (have e9 : cnt ns x - 1 = ((cnt ns x : Int) - 1).toNat := by omega)
  all_goals (rw [e9]; assumption)
end Mine

end

section
open PySem PySem.W PyProof.Rows PySem.Calls
namespace Mine
set_option maxRecDepth 100000
set_option maxHeartbeats 0
theorem fill4 : PySem.Challenge.rw_pb0596_01.foot = 6 ∧ K9 = K9 := by
  k_with_none
  k_with "my ne" => (first | (with_reducible first | assumption | exact Ne.symm (by assumption) | exact Mine.nr1 (by assumption) | exact Mine.ns1 (by assumption) | exact Mine.nt1 (by assumption) | exact Mine.nu1 (by assumption) | exact Mine.nr2 (by assumption) | exact Mine.ns2 (by assumption) | exact Mine.nt2 (by assumption) | exact Mine.nu2 (by assumption) | exact Mine.nr3 (by assumption) | exact Mine.ns3 (by assumption) | exact Mine.nt3 (by assumption) | exact Mine.nu3 (by assumption) | exact Mine.nr4 (by assumption) | exact Mine.ns4 (by assumption) | exact Mine.nt4 (by assumption) | exact Mine.nu4 (by assumption) | exact Mine.nr5 (by assumption) | exact Mine.ns5 (by assumption) | exact Mine.nt5 (by assumption) | exact Mine.nu5 (by assumption) | exact Mine.nr6 (by assumption) | exact Mine.ns6 (by assumption) | exact Mine.nt6 (by assumption) | exact Mine.nu6 (by assumption) | exact Mine.nr7 (by assumption) | exact Mine.ns7 (by assumption) | exact Mine.nt7 (by assumption) | exact Mine.nu7 (by assumption) | exact Mine.nr8 (by assumption) | exact Mine.ns8 (by assumption) | exact Mine.nt8 (by assumption) | exact Mine.nu8 (by assumption) | exact Mine.nr9 (by assumption) | exact Mine.ns9 (by assumption) | exact Mine.nr10 (by assumption) | exact Mine.ns10 (by assumption) | exact Mine.nr11 (by assumption) | exact Mine.ns11 (by assumption) | exact Mine.nr12 (by assumption) | exact Mine.ns12 (by assumption) | exact Mine.nw1 (by assumption) | exact Mine.nw2 (by assumption) | exact Mine.nw3 (by assumption) | exact Mine.nw4 (by assumption) | exact Mine.nw5 (by assumption) | exact Mine.nw6 (by assumption) | exact Mine.nk1 (by assumption) | exact Mine.nk2 (by assumption) | exact Mine.nk3 (by assumption) | exact Mine.nk4 (by assumption)) | fail "no")
  k_with "my om" => (first | ((with_reducible show @Eq Int _ _); with_reducible first | assumption | exact Eq.symm (by assumption) | exact Int.toNat_of_nonneg (by assumption)) | fail "no")
  k_with "my om" => (first | ((with_reducible show And (@LE.le Int _ _ _) _); with_reducible first | assumption | (refine Mine.i2 (by assumption) ?_; omega) | (refine Mine.i2' (by assumption) ?_; omega)) | fail "no")
  k_with "my om" => (first | ((with_reducible show @LT.lt Int _ _ _); first | (with_reducible first | assumption | exact Mine.i1' (by assumption) | exact Int.ofNat_lt.mpr (by assumption) | exact And.left (by assumption) | exact And.right (by assumption) | exact Int.lt_of_not_le (by assumption)) | decide +kernel) | fail "no")
  k_with "my om" => (first | ((with_reducible show @LE.le Int _ _ _); first | (with_reducible first | assumption | exact Int.natCast_nonneg _ | exact Int.le_refl _ | exact Mine.i1 _ | exact Int.ofNat_le.mpr (by assumption) | exact Mine.i6 (by assumption) (by assumption) | (refine Mine.i7 ?_; omega) | exact And.left (by assumption) | exact And.right (by assumption) | exact Int.le_of_not_lt (by assumption) | exact Int.le_of_lt (by assumption)) | decide +kernel) | fail "no")
  k_with "my om" => (first | ((with_reducible show @Eq Nat _ _); with_reducible first | assumption | exact Eq.symm (by assumption) | exact Mine.i5 (by assumption) | exact Mine.i4 _ | exact Mine.i3 _ | exact Eq.symm (Mine.i4 _) | exact Nat.add_sub_cancel_left .. | exact Nat.min_eq_left (by assumption) | exact Eq.trans (by assumption) (by assumption) | exact Eq.trans (Eq.symm (by assumption)) (by assumption) | exact Eq.trans (by assumption) (Eq.symm (by assumption))) | fail "no")
  k_with "my om" => (first | ((with_reducible show @LT.lt Nat _ _ _); with_reducible first | assumption | exact Mine.np (by assumption) | exact Mine.nq (by assumption) rfl | exact Mine.nv (by assumption) rfl | exact Mine.ia (by assumption) (by assumption) | exact Mine.ib (by assumption) (by assumption) | exact Nat.lt_of_lt_of_le (by assumption) (by assumption) | exact Nat.succ_lt_succ (by assumption) | exact And.left (by assumption) | exact And.right (by assumption) | exact Nat.lt_of_not_le (by assumption) | exact Mine.ia (Mine.ia (by assumption) (by assumption)) (by assumption) | exact Mine.ib (Mine.ia (by assumption) (by assumption)) (by assumption) | exact Mine.ia (Mine.ib (by assumption) (by assumption)) (by assumption) | exact Mine.ib (Mine.ib (by assumption) (by assumption)) (by assumption)) | fail "no")
  k_with "my om" => (first | ((with_reducible show @LE.le Nat _ _ _); first | (with_reducible first | assumption | exact Mine.nc (by assumption) rfl | exact Nat.le_refl _ | exact Mine.nl (by assumption) (by assumption) | exact Mine.nm (by assumption) (by assumption) | exact Mine.nn (by assumption) (by assumption) | exact Mine.nn (by assumption) (Mine.nc (by assumption) rfl) | exact Mine.nl (by assumption) (Mine.nc (by assumption) rfl) | exact Mine.nm (by assumption) (Mine.nc (by assumption) rfl) | exact Mine.nl (by assumption) (Mine.nl (by assumption) (Mine.nc (by assumption) rfl)) | exact Mine.nl (by assumption) (Mine.nn (by assumption) (Mine.nc (by assumption) rfl)) | exact Mine.nm (by assumption) (Mine.nn (by assumption) (Mine.nc (by assumption) rfl)) | exact Mine.nl (by assumption) (Mine.nm (by assumption) (Mine.nc (by assumption) rfl)) | exact Mine.nm (by assumption) (Mine.nl (by assumption) (Mine.nc (by assumption) rfl)) | exact Mine.nm (by assumption) (Mine.nm (by assumption) (Mine.nc (by assumption) rfl)) | exact Nat.le_add_right _ _ | exact Nat.succ_le_succ (by assumption) | exact Nat.le_of_eq (by assumption) | exact Nat.le_of_eq (Eq.symm (by assumption)) | exact Nat.le_succ_of_le (by assumption) | exact Nat.le_of_not_lt (by assumption) | exact Int.toNat_le_toNat (by assumption) | exact Mine.ig (by assumption) (by assumption) rfl | exact Mine.ih (by assumption) (by assumption) rfl | exact And.left (by assumption) | exact And.right (by assumption) | (refine Mine.ie ?_ (by assumption); omega) | (refine Mine.ie' ?_ (by assumption); omega) | (refine Mine.id1 ?_; omega) | (refine Mine.ij ?_; omega) | (refine Mine.ic (by assumption) rfl ?_; omega)) | exact Mine.nz rfl) | fail "no")
  k_with "my own" => (first | assumption | exact Mine.PAt.of (by assumption) (PySem.SameStack.mark _ _) | exact Mine.PAt.of (by assumption) (PySem.SameStack.unmark _ _) | fail "no")
  k_fill
  k_with "my inst" => (first | exact InstAt.up (by assumption) (Fr.keep (by k_asm)) | fail "no")
  exact ⟨rfl, rfl⟩
section
variable {prog : Program} {w : World} {A : Around} {E : Value → Shared → Prop} {s : Shared} {h₀ : Heap} {L d : Addr} {m : Str → Option Value} {kvs : List (Str × Value)} {x : Str} {t : Tok} {v : Value}
theorem d_in {Q : Value → Shared → Prop} (hd : h₀.DictOf (strKind prog w) d kvs) (F : Fr h₀ L s.heap m) (lo : (d == sysModules) = false) (b : Bool) (hb : (valueAt kvs x).isSome = b) (h : Q (.bool b) { s with toks := s.toks + 1 }) :
    wpAny (model prog w) A (compareOp .In (.str x t) (.ref d)) Q E s := wpAny_in_of (strKind_is prog w x t) lo (hd.keep F.keep).mapOf (by rw [hb]; exact h)
theorem d_item {value slice : PySem.Expr} {Q : Value → Shared → Prop} (hd : h₀.DictOf (strKind prog w) d kvs) (F : Fr h₀ L s.heap m) (hl : valueAt kvs x = some v) (h : Q v { s with toks := s.toks + 1 })
    (hs : subscripted slice false (.ref d) (.str x t) = operate [.ref d, (.str x t)] (getItem (.ref d) (.str x t)) := by with_unfolding_all rfl) (hg : ∀ r, letTemporaryGo value (.ref d) r = pure () := by intro _; with_unfolding_all rfl) :
    wpAny (model prog w) A (subscriptTail value slice (.ref d) (.str x t)) Q E s :=
  have hD := hd.keep F.keep
  subscriptTail_builtin hD.typeIs slot_dict_getitem.lookup (wpAny_getItem_of (strKind_is prog w x t) hD.mapOf hl h) hs hg
theorem d_getm {pl : Sem Bool} {Q : Value × List Value → Shared → Prop} (hd : h₀.DictOf (strKind prog w) d kvs) (F : Fr h₀ L s.heap m) (h : Q (.builtin "dict.get", [.ref d]) s) : wpAny (model prog w) A (getMethod (.ref d) "get" pl) Q E s :=
  have hD := hd.keep F.keep
  getMethod_builtin hD.typeIs PySem.F.plainAttrs_dict PySem.F.slot_dict_get PySem.F.type_dict_get hD.mapOf.noDict h
theorem d_get {Q : Value → Shared → Prop} (hd : h₀.DictOf (strKind prog w) d kvs) (F : Fr h₀ L s.heap m) (lo : (d == sysModules) = false) (h : Q ((valueAt kvs x).getD .none) { s with toks := s.toks + 1 }) :
    wpAny (model prog w) A (call (.builtin "dict.get") [.ref d, .str x t]) Q E s :=
  have hD := hd.keep F.keep
  call_meetsIn PySem.F.slot_dict_get hD.typeIs PySem.F.entry_dict_get (PySem.F.args_dict_get_2 _ _) (meets_dict_get (strKind prog w) d (strKind_is prog w x t) lo) ⟨_, hD.mapOf, h⟩
end
structure MS where
  rm : Addr
  rd : Addr
  ls : Addr
  lv : Addr
  t0 : Tok
  t1 : Tok
  t2 : Tok
  dv : Value
  n : Nat
  vs : List Value
  ns : List Int
  xs : List Value
noncomputable def MS.At (M : MS) (w : World) (h : Heap) : Prop := MapAt w h M.rm M.rd M.ls M.lv M.t0 M.t1 M.t2 M.dv M.n M.vs M.ns M.xs
structure DS where
  dd : Addr
  df : Addr
  dm : Addr
  pr : Value
  wo : Value
  t0 : Tok
  t1 : Tok
  t2 : Tok
  t3 : Tok
  n : Nat
  kd : List (Str × Value)
  km : List (Str × Value)
@[reducible] noncomputable def ddEs (w : World) (D : DS) : List DictEntry :=
  [⟨PyData.keyHash w.params (Str.ofString "defaults"), .str (Str.ofString "defaults") D.t0, .ref D.df⟩, ⟨PyData.keyHash w.params (Str.ofString "maps"), .str (Str.ofString "maps") D.t1, .ref D.dm⟩,
   ⟨PyData.keyHash w.params (Str.ofString "properties"), .str (Str.ofString "properties") D.t2, D.pr⟩, ⟨PyData.keyHash w.params (Str.ofString "words"), .str (Str.ofString "words") D.t3, D.wo⟩]
structure DatAt (w : World) (h : Heap) (d : Addr) (D : DS) : Prop where
  inst : PySem.W.InstAt h d (instObj 291 D.dd) 291 (some (dictOf (ddEs w D) D.n))
  dfl : h.DictOf (strKind pw w) D.df D.kd
  maps : h.DictOf (strKind pw w) D.dm D.km
  lo : (D.df == sysModules) = false ∧ (D.dm == sysModules) = false
  each : ∀ x v, valueAt D.km x = some v → ∃ M : MS, v = .ref M.rm ∧ M.At w h
noncomputable def DatRet (D : DS) (w : World) (h : Heap) (x : Str) (c : Int) (v : Value) : Prop :=
  (∃ M : MS, valueAt D.km x = some (.ref M.rm) ∧ M.At w h ∧ M.xs[cnt M.ns c - 1]? = some v) ∨ (valueAt D.km x = none ∧ v = (valueAt D.kd x).getD .none)
theorem MS.At.keep {M : MS} {w : World} {h h' : Heap} (x : M.At w h) (k : Kp h h') : M.At w h' :=
  { x with inst := InstAt.up x.inst k, sl := x.sl.at fun o e => k _ _ e, vl := x.vl.at fun o e => k _ _ e }
theorem DatAt.keep {w : World} {h h' : Heap} {d : Addr} {D : DS} (x : DatAt w h d D) (k : Kp h h') : DatAt w h' d D :=
  ⟨InstAt.up x.inst k, x.dfl.keep k, x.maps.keep k, x.lo, fun y v e => let ⟨M, a, b⟩ := x.each y v e; ⟨M, a, b.keep k⟩⟩
end Mine

end

section
open PySem PySem.W PyProof.Rows PySem.Calls
namespace Mine
set_option maxRecDepth 100000
set_option maxHeartbeats 0
theorem InstAt.mix {g h₁ : Heap} {L x C dx : Addr} {m : Str → Option Value} {news : List (Addr × Obj)} {od : Obj} (hx : g.get? x = some (instObj C dx)) (F : Fr g L h₁ m) (N : News g L h₁ news) (hm : (dx, od) ∈ news) : PySem.W.InstAt h₁ x (instObj C dx) C (some od) :=
  ⟨F.keep _ _ hx, rfl, rfl, (N _ hm).1⟩
theorem fill5 : PySem.Challenge.rw_pb0596_01.foot = 6 ∧ K9 = K9 := by
  k_with_none
  k_with "my ne" => (first | (with_reducible first | assumption | exact Ne.symm (by assumption) | exact Mine.nr1 (by assumption) | exact Mine.ns1 (by assumption) | exact Mine.nt1 (by assumption) | exact Mine.nu1 (by assumption) | exact Mine.nr2 (by assumption) | exact Mine.ns2 (by assumption) | exact Mine.nt2 (by assumption) | exact Mine.nu2 (by assumption) | exact Mine.nr3 (by assumption) | exact Mine.ns3 (by assumption) | exact Mine.nt3 (by assumption) | exact Mine.nu3 (by assumption) | exact Mine.nr4 (by assumption) | exact Mine.ns4 (by assumption) | exact Mine.nt4 (by assumption) | exact Mine.nu4 (by assumption) | exact Mine.nr5 (by assumption) | exact Mine.ns5 (by assumption) | exact Mine.nt5 (by assumption) | exact Mine.nu5 (by assumption) | exact Mine.nr6 (by assumption) | exact Mine.ns6 (by assumption) | exact Mine.nt6 (by assumption) | exact Mine.nu6 (by assumption) | exact Mine.nr7 (by assumption) | exact Mine.ns7 (by assumption) | exact Mine.nt7 (by assumption) | exact Mine.nu7 (by assumption) | exact Mine.nr8 (by assumption) | exact Mine.ns8 (by assumption) | exact Mine.nt8 (by assumption) | exact Mine.nu8 (by assumption) | exact Mine.nr9 (by assumption) | exact Mine.ns9 (by assumption) | exact Mine.nr10 (by assumption) | exact Mine.ns10 (by assumption) | exact Mine.nr11 (by assumption) | exact Mine.ns11 (by assumption) | exact Mine.nr12 (by assumption) | exact Mine.ns12 (by assumption) | exact Mine.nw1 (by assumption) | exact Mine.nw2 (by assumption) | exact Mine.nw3 (by assumption) | exact Mine.nw4 (by assumption) | exact Mine.nw5 (by assumption) | exact Mine.nw6 (by assumption) | exact Mine.nk1 (by assumption) | exact Mine.nk2 (by assumption) | exact Mine.nk3 (by assumption) | exact Mine.nk4 (by assumption)) | fail "no")
  k_with "my om" => (first | ((with_reducible show @Eq Int _ _); with_reducible first | assumption | exact Eq.symm (by assumption) | exact Int.toNat_of_nonneg (by assumption)) | fail "no")
  k_with "my om" => (first | ((with_reducible show And (@LE.le Int _ _ _) _); with_reducible first | assumption | (refine Mine.i2 (by assumption) ?_; omega) | (refine Mine.i2' (by assumption) ?_; omega)) | fail "no")
  k_with "my om" => (first | ((with_reducible show @LT.lt Int _ _ _); first | (with_reducible first | assumption | exact Mine.i1' (by assumption) | exact Int.ofNat_lt.mpr (by assumption) | exact And.left (by assumption) | exact And.right (by assumption) | exact Int.lt_of_not_le (by assumption)) | decide +kernel) | fail "no")
  k_with "my om" => (first | ((with_reducible show @LE.le Int _ _ _); first | (with_reducible first | assumption | exact Int.natCast_nonneg _ | exact Int.le_refl _ | exact Mine.i1 _ | exact Int.ofNat_le.mpr (by assumption) | exact Mine.i6 (by assumption) (by assumption) | (refine Mine.i7 ?_; omega) | exact And.left (by assumption) | exact And.right (by assumption) | exact Int.le_of_not_lt (by assumption) | exact Int.le_of_lt (by assumption)) | decide +kernel) | fail "no")
  k_with "my om" => (first | ((with_reducible show @Eq Nat _ _); with_reducible first | assumption | exact Eq.symm (by assumption) | exact Mine.i5 (by assumption) | exact Mine.i4 _ | exact Mine.i3 _ | exact Eq.symm (Mine.i4 _) | exact Nat.add_sub_cancel_left .. | exact Nat.min_eq_left (by assumption) | exact Eq.trans (by assumption) (by assumption) | exact Eq.trans (Eq.symm (by assumption)) (by assumption) | exact Eq.trans (by assumption) (Eq.symm (by assumption))) | fail "no")
  k_with "my om" => (first | ((with_reducible show @LT.lt Nat _ _ _); with_reducible first | assumption | exact Mine.np (by assumption) | exact Mine.nq (by assumption) rfl | exact Mine.nv (by assumption) rfl | exact Mine.ia (by assumption) (by assumption) | exact Mine.ib (by assumption) (by assumption) | exact Nat.lt_of_lt_of_le (by assumption) (by assumption) | exact Nat.succ_lt_succ (by assumption) | exact And.left (by assumption) | exact And.right (by assumption) | exact Nat.lt_of_not_le (by assumption) | exact Mine.ia (Mine.ia (by assumption) (by assumption)) (by assumption) | exact Mine.ib (Mine.ia (by assumption) (by assumption)) (by assumption) | exact Mine.ia (Mine.ib (by assumption) (by assumption)) (by assumption) | exact Mine.ib (Mine.ib (by assumption) (by assumption)) (by assumption)) | fail "no")
  k_with "my om" => (first | ((with_reducible show @LE.le Nat _ _ _); first | (with_reducible first | assumption | exact Mine.nc (by assumption) rfl | exact Nat.le_refl _ | exact Mine.nl (by assumption) (by assumption) | exact Mine.nm (by assumption) (by assumption) | exact Mine.nn (by assumption) (by assumption) | exact Mine.nn (by assumption) (Mine.nc (by assumption) rfl) | exact Mine.nl (by assumption) (Mine.nc (by assumption) rfl) | exact Mine.nm (by assumption) (Mine.nc (by assumption) rfl) | exact Mine.nl (by assumption) (Mine.nl (by assumption) (Mine.nc (by assumption) rfl)) | exact Mine.nl (by assumption) (Mine.nn (by assumption) (Mine.nc (by assumption) rfl)) | exact Mine.nm (by assumption) (Mine.nn (by assumption) (Mine.nc (by assumption) rfl)) | exact Mine.nl (by assumption) (Mine.nm (by assumption) (Mine.nc (by assumption) rfl)) | exact Mine.nm (by assumption) (Mine.nl (by assumption) (Mine.nc (by assumption) rfl)) | exact Mine.nm (by assumption) (Mine.nm (by assumption) (Mine.nc (by assumption) rfl)) | exact Nat.le_add_right _ _ | exact Nat.succ_le_succ (by assumption) | exact Nat.le_of_eq (by assumption) | exact Nat.le_of_eq (Eq.symm (by assumption)) | exact Nat.le_succ_of_le (by assumption) | exact Nat.le_of_not_lt (by assumption) | exact Int.toNat_le_toNat (by assumption) | exact Mine.ig (by assumption) (by assumption) rfl | exact Mine.ih (by assumption) (by assumption) rfl | exact And.left (by assumption) | exact And.right (by assumption) | (refine Mine.ie ?_ (by assumption); omega) | (refine Mine.ie' ?_ (by assumption); omega) | (refine Mine.id1 ?_; omega) | (refine Mine.ij ?_; omega) | (refine Mine.ic (by assumption) rfl ?_; omega)) | exact Mine.nz rfl) | fail "no")
  k_with "my own" => (first | assumption | exact Mine.PAt.of (by assumption) (PySem.SameStack.mark _ _) | exact Mine.PAt.of (by assumption) (PySem.SameStack.unmark _ _) | fail "no")
  k_fill
  k_with "my inst" => (first | exact InstAt.up (by assumption) (Fr.keep (by k_asm)) | fail "no")
  k_with "my inst" => (first | exact InstAt.mix (by assumption) (by k_asm) (by k_asm) (by k_mem) | fail "no")
  exact ⟨rfl, rfl⟩
noncomputable def vsame : Value → Value → Bool
  | .str x _, .str y _ => x == y
  | .bool x, .bool y => x == y
  | _, _ => false
noncomputable def vkin (a b : Value) : Prop := (∃ x t y u, a = .str x t ∧ b = .str y u) ∨ (∃ x y, a = .bool x ∧ b = .bool y)
theorem like_cc {w : World} {base : Heap} (G : Gr w base) (a b : Value) (hab : vkin a b) :
   CC w base 197 [a, b] 1 (fun _ => True) (fun h v h' => Kp h h' ∧ v = .bool (vsame a b)) := by
  have G' := G
  obtain ⟨X, p, loose, mean, mg, mb, T⟩ := G
  intro dp un fr gd s Q E hdp hun hb hp hret
  w_on
  k_dflt (refine enter (binds := [(Str.ofString "one", a), (Str.ofString "other", b)]) [] X T hb (fun _ h => nomatch h) (by k_is) (by k_is) (by show dp < recursionLimit; omega) (BindsTo.of_eq rfl) (locs rfl) (fun E9 Q9 g L h₁ g9s d9r t9k o9s hQ9 hE9 hP9 hA9 hB hG X' T' F' N' hL => ?_))
  try dsimp only
  k_unmd
  try k_fold
  rcases hab with ⟨x, t, y, u, rfl, rfl⟩ | ⟨x, y, rfl, rfl⟩
  · k_steps
    all_goals (try ((with_reducible refine hQ9 _ _ _ ?_); (try dsimp only)))
    all_goals (try dsimp only)
    all_goals (refine pure_end (s := s) (R := fun v => v = .bool (vsame (.str x t) (.str y u))) hret hG (by assumption) ?_)
    all_goals (simp_all [vsame])
  · k_steps
    all_goals (try ((with_reducible refine hQ9 _ _ _ ?_); (try dsimp only)))
    all_goals (try dsimp only)
    all_goals (refine pure_end (s := s) (R := fun v => v = .bool (vsame (.bool x) (.bool y))) hret hG (by assumption) ?_)
    all_goals (simp_all [vsame])
end Mine

end

section
open PySem PySem.W PyProof.Rows PySem.Calls
namespace Mine
set_option maxRecDepth 100000
theorem ne_cls {o o' : Obj} {a b : String} (h : o.cls = .type a) (h' : o'.cls = .type b) (hab : a ≠ b) : o ≠ o' := by
  rintro rfl
  rw [h] at h'
  exact hab (Value.type.inj h')
theorem ne_news {h₀ h : Heap} {L a b : Addr} {o o' : Obj} {news : List (Addr × Obj)} (N : News h₀ L h news) (h1 : (a, o) ∈ news) (h2 : (b, o') ∈ news) (h3 : o ≠ o') : a ≠ b := by
  intro e
  subst e
  have e1 := (N _ h1).1
  have e2 := (N _ h2).1
  rw [e1] at e2
  exact h3 (Option.some.inj e2)
section
variable {prog : Program} {w : World} {A : Around} {E : Value → Shared → Prop} {s : Shared} {h₀ : Heap} {L l b : Addr} {m : Str → Option Value} {news : List (Addr × Obj)} {value slice : PySem.Expr} {vs ws : List Value} {Q : Value → Shared → Prop} {x y : Int} {t u : Tok}
theorem sl_upto (F : Fr h₀ L s.heap m) (N : News h₀ L s.heap news) (hl : s.heap.IsList l vs.toArray) (hy : 0 ≤ y)
    (h : ∀ D h', Fr h₀ L h' m → News h₀ L h' ((D, PySem.W.listOf (vs.take y.toNat).toArray 0) :: news) → (∀ p ∈ news, p.1 < D) → Q (.ref D) { s with heap := h' })
    (hs : subscripted slice false (.ref l) (.ref s.heap.objs.size) = operate [.ref s.heap.objs.size, .ref l] (getItem (.ref l) (.ref s.heap.objs.size))) (ht : ∀ r, letTemporaryGo value (.ref l) r = pure ()) (hz : vs.length ≤ 1000) :
    wpAny (model prog w) A (subscriptTail value slice (.ref l) (.ref s.heap.objs.size)) Q E { s with heap := s.heap.push { cls := .type "slice", data := .fields #[.none, .int y t, .none] } } := by
  refine kmk_slice F N hl .none (.int _ _) (fun D h' F' N' l1 => h D h' F' ?_ l1) hs ht (by rw [List.size_toArray, sizeLine_eq]; omega)
  have e : slicePick vs.toArray none (some y) none = (vs.take y.toNat).toArray := by
    have := slicePick_upto' vs.toArray y.toNat
    rwa [show ((y.toNat : Nat) : Int) = y from by omega, show vs.toArray.toList = vs from rfl] at this
  rw [← e]
  exact N'
theorem sl_from (F : Fr h₀ L s.heap m) (N : News h₀ L s.heap news) (hl : s.heap.IsList l vs.toArray) (hx : 0 ≤ x)
    (h : ∀ D h', Fr h₀ L h' m → News h₀ L h' ((D, PySem.W.listOf (vs.drop x.toNat).toArray 0) :: news) → (∀ p ∈ news, p.1 < D) → Q (.ref D) { s with heap := h' })
    (hs : subscripted slice false (.ref l) (.ref s.heap.objs.size) = operate [.ref s.heap.objs.size, .ref l] (getItem (.ref l) (.ref s.heap.objs.size))) (ht : ∀ r, letTemporaryGo value (.ref l) r = pure ()) (hz : vs.length ≤ 1000) :
    wpAny (model prog w) A (subscriptTail value slice (.ref l) (.ref s.heap.objs.size)) Q E { s with heap := s.heap.push { cls := .type "slice", data := .fields #[.int x t, .none, .none] } } := by
  refine kmk_slice F N hl (.int _ _) .none (fun D h' F' N' l1 => h D h' F' ?_ l1) hs ht (by rw [List.size_toArray, sizeLine_eq]; omega)
  have e : slicePick vs.toArray (some x) none none = (vs.drop x.toNat).toArray := by
    have := slicePick_from' vs.toArray x.toNat
    rwa [show ((x.toNat : Nat) : Int) = x from by omega, show vs.toArray.toList = vs from rfl] at this
  rw [← e]
  exact N'
theorem sl_run (F : Fr h₀ L s.heap m) (N : News h₀ L s.heap news) (hl : s.heap.IsList l vs.toArray) (hx : 0 ≤ x) (hxy : x ≤ y) (hy : y ≤ (vs.length : Int))
    (h : ∀ D h', Fr h₀ L h' m → News h₀ L h' ((D, PySem.W.listOf ((vs.drop x.toNat).take (y.toNat - x.toNat)).toArray 0) :: news) → (∀ p ∈ news, p.1 < D) → Q (.ref D) { s with heap := h' })
    (hs : subscripted slice false (.ref l) (.ref s.heap.objs.size) = operate [.ref s.heap.objs.size, .ref l] (getItem (.ref l) (.ref s.heap.objs.size))) (ht : ∀ r, letTemporaryGo value (.ref l) r = pure ()) (hz : vs.length ≤ 1000) :
    wpAny (model prog w) A (subscriptTail value slice (.ref l) (.ref s.heap.objs.size)) Q E { s with heap := s.heap.push { cls := .type "slice", data := .fields #[.int x t, .int y u, .none] } } := by
  refine kmk_slice F N hl (.int _ _) (.int _ _) (fun D h' F' N' l1 => h D h' F' ?_ l1) hs ht (by rw [List.size_toArray, sizeLine_eq]; omega)
  have e : slicePick vs.toArray (some x) (some y) none = ((vs.drop x.toNat).take (y.toNat - x.toNat)).toArray := by
    have := slicePick_run vs.toArray x.toNat y.toNat (by rw [List.size_toArray]; omega) (by omega)
    rwa [show ((x.toNat : Nat) : Int) = x from by omega, show ((y.toNat : Nat) : Int) = y from by omega, show vs.toArray.toList = vs from rfl] at this
  rw [← e]
  exact N'
theorem ad_two (F : Fr h₀ L s.heap m) (N : News h₀ L s.heap news) (hl : s.heap.IsList l vs.toArray) (hb : s.heap.IsList b ws.toArray) (hz : vs.length + ws.length ≤ 2000)
    (h : ∀ D h', Fr h₀ L h' m → News h₀ L h' ((D, PySem.W.listOf (vs ++ ws).toArray 0) :: news) → (∀ p ∈ news, p.1 < D) → Q (.ref D) { s with heap := h' }) :
    wpAny (model prog w) A (binaryOp .Add (.ref l) (.ref b)) Q E s :=
  add_lists (hsz := by rw [sizeLine_eq]; omega) F N hl hb fun h' F' N' => h _ h' F' N' fun p hp => Heap.lt_size (N p hp).1
end
end Mine

end

section
open PySem PySem.W PyProof.Rows PySem.Calls
namespace Mine
theorem asc_iff {ns : List Int} : Asc ns ↔ ns.Pairwise (· ≤ ·) := by
  rw [List.pairwise_iff_getElem]
  constructor
  · intro h i j hi hj hij
    have := h i j (Nat.le_of_lt hij) hj
    simpa [List.getD_eq_getElem?_getD, hi, hj] using this
  · intro h i j hij hj
    have hi : i < ns.length := Nat.lt_of_le_of_lt hij hj
    rcases Nat.lt_or_eq_of_le hij with h1 | h1
    · have := h i j hi hj h1
      simpa [List.getD_eq_getElem?_getD, hi, hj] using this
    · subst h1; exact Int.le_refl _
theorem take_cnt (x : Int) : ∀ {ns : List Int}, ns.Pairwise (· ≤ ·) → ns.take (cnt ns x) = ns.filter (fun n => decide (n ≤ x)) ∧ ns.drop (cnt ns x) = ns.filter (fun n => decide (x < n))
  | [], _ => by simp
  | n :: r, h => by
    have hr := take_cnt x (List.pairwise_cons.mp h).2
    have h1 := (List.pairwise_cons.mp h).1
    by_cases hx : n ≤ x
    · have e : cnt (n :: r) x = cnt r x + 1 := by simp [cnt, hx]
      rw [e]
      simp [hx, hr.1, hr.2, show ¬ x < n from by omega]
    · have e0 : r.filter (fun n => decide (n ≤ x)) = [] := by
        rw [List.filter_eq_nil_iff]
        intro a ha
        have := h1 a ha
        simp; omega
      have e : cnt (n :: r) x = 0 := by simp [cnt, hx, e0]
      have e1 : r.filter (fun n => decide (x < n)) = r := by
        rw [List.filter_eq_self]
        intro a ha
        have := h1 a ha
        simp; omega
      rw [e]
      simp [hx, e0, e1, show x < n from by omega]
theorem cnt_append (a b : List Int) (x : Int) : cnt (a ++ b) x = cnt a x + cnt b x := by simp [cnt]
theorem cnt_mono {ns : List Int} {x y : Int} (h : x ≤ y) : cnt ns x ≤ cnt ns y := by
  induction ns with
  | nil => simp [cnt]
  | cons n r ih =>
    simp only [cnt, List.filter_cons] at ih ⊢
    by_cases h1 : n ≤ x
    · have h2 : n ≤ y := by omega
      simp only [h1, h2, decide_true, if_true, List.length_cons]; omega
    · by_cases h2 : n ≤ y
      · simp only [h1, h2, decide_true, if_true, decide_false, Bool.false_eq_true, if_false, List.length_cons]; omega
      · simp only [h1, h2, decide_false, Bool.false_eq_true, if_false]; exact ih
theorem cnt_low {ns : List Int} {x y : Int} : cnt (ns.filter (fun n => decide (n ≤ y))) x = cnt ns (min x y) := by
  unfold cnt
  rw [List.filter_filter]
  congr 2
  funext n
  by_cases h1 : n ≤ x <;> by_cases h2 : n ≤ y <;> simp [h1, h2] <;> omega
theorem cnt_high {ns : List Int} {x y : Int} (h : y ≤ x) : cnt (ns.filter (fun n => decide (y < n))) x + cnt ns y = cnt ns x := by
  induction ns with
  | nil => simp [cnt]
  | cons n r ih =>
    unfold cnt at ih ⊢
    by_cases h1 : n ≤ y
    · have h2 : n ≤ x := by omega
      have h3 : ¬ y < n := by omega
      simp only [List.filter_cons, h1, h2, h3, decide_true, decide_false, if_true, Bool.false_eq_true, if_false, List.length_cons]; omega
    · have h3 : y < n := by omega
      by_cases h2 : n ≤ x
      · simp only [List.filter_cons, h1, h2, h3, decide_true, decide_false, if_true, Bool.false_eq_true, if_false, List.length_cons]; omega
      · simp only [List.filter_cons, h1, h2, h3, decide_true, decide_false, if_true, Bool.false_eq_true, if_false, List.length_cons]; exact ih
theorem cnt_high0 {ns : List Int} {x y : Int} (h : x ≤ y) : cnt (ns.filter (fun n => decide (y < n))) x = 0 := by
  unfold cnt
  rw [List.filter_filter, List.length_eq_zero_iff, List.filter_eq_nil_iff]
  intro a _
  simp; omega
inductive DV where
  | s (x : Str)
  | b (x : Bool)
  | n
deriving DecidableEq
noncomputable def dval : Value → DV
  | .str x _ => .s x
  | .bool b => .b b
  | _ => .n
theorem vsame_dval {a b : Value} (h : vsame a b = true) : dval a = dval b := by
  unfold vsame at h
  split at h
  · simp [dval, beq_iff_eq.mp h]
  · simp [dval, beq_iff_eq.mp h]
  · cases h
noncomputable def look (ns : List Int) (xs : List Value) (x : Int) : Option DV := (xs[cnt ns x - 1]?).map dval
section
variable {ns : List Int} {xs : List Value} {c : Int} {v x y : Value} {f g : Bool}
noncomputable def midN (c : Int) : Bool → Bool → List Int
  | true, true => [c, c + 1]
  | true, false => [c]
  | false, true => [c + 1]
  | false, false => []
noncomputable def midX (v y : Value) : Bool → Bool → List Value
  | true, true => [v, y]
  | true, false => [v]
  | false, true => [y]
  | false, false => []
noncomputable def newNs (ns : List Int) (c : Int) (f g : Bool) : List Int := ns.take (cnt ns (c - 1)) ++ midN c f g ++ ns.drop (cnt ns (c + 1))
noncomputable def newXs (ns : List Int) (xs : List Value) (c : Int) (v y : Value) (f g : Bool) : List Value := xs.take (cnt ns (c - 1)) ++ midX v y f g ++ xs.drop (cnt ns (c + 1))
theorem mid_mem {a : Int} (h : a ∈ midN c f g) : a = c ∨ a = c + 1 := by cases f <;> cases g <;> simp [midN] at h <;> omega
theorem mid_pw : (midN c f g).Pairwise (· ≤ ·) := by cases f <;> cases g <;> simp [midN] <;> omega
theorem new_asc (h : Asc ns) : Asc (newNs ns c f g) := by
  rw [asc_iff] at h ⊢
  unfold newNs
  rw [(take_cnt (c - 1) h).1, (take_cnt (c + 1) h).2]
  rw [List.pairwise_append, List.pairwise_append]
  refine ⟨⟨h.filter _, ?_, ?_⟩, h.filter _, ?_⟩
  · exact mid_pw
  · intro a ha b hb
    have h1 : a ≤ c - 1 := by simpa using (List.mem_filter.mp ha).2
    have h2 : b = c ∨ b = c + 1 := mid_mem hb
    omega
  · intro a ha b hb
    have h2 : c + 1 < b := by simpa using (List.mem_filter.mp hb).2
    rcases List.mem_append.mp ha with ha | ha
    · have h1 : a ≤ c - 1 := by simpa using (List.mem_filter.mp ha).2
      omega
    · have h1 : a = c ∨ a = c + 1 := mid_mem ha
      omega
theorem new_len (hl : ns.length = xs.length) : (newNs ns c f g).length = (newXs ns xs c v y f g).length := by
  unfold newNs newXs
  cases f <;> cases g <;> simp [hl, midN, midX]
theorem new_most (c : Int) : (newNs ns c f g).length ≤ ns.length + 2 := by
  have h1 : cnt ns (c - 1) ≤ cnt ns (c + 1) := cnt_mono (by omega)
  have h2 := cnt_le ns (c + 1)
  unfold newNs
  cases f <;> cases g <;> simp [midN] <;> omega
theorem new_zero (hz : ns.getD 0 0 = 0 ∧ 0 < ns.length) (hc : 1 ≤ c) : (newNs ns c f g).getD 0 0 = 0 ∧ 0 < (newNs ns c f g).length := by
  have h1 := cnt_pos (x := c - 1) hz (by omega)
  have h2 := cnt_le ns (c - 1)
  cases ns with
  | nil => exact absurd hz.2 (by simp)
  | cons n r =>
    obtain ⟨k, hk⟩ : ∃ k, cnt (n :: r) (c - 1) = k + 1 := ⟨cnt (n :: r) (c - 1) - 1, by omega⟩
    unfold newNs
    rw [hk]
    simpa using hz.1
theorem new_look (h : Asc ns) (hl : ns.length = xs.length) (hz : ns.getD 0 0 = 0 ∧ 0 < ns.length) (hc : 1 ≤ c) (hx : xs[cnt ns (c - 1) - 1]? = some x) (hy : xs[cnt ns (c + 1) - 1]? = some y)
    (hf : f = false → dval x = dval v) (hg : g = false → dval y = dval v) (z : Int) (h0 : 0 ≤ z) : look (newNs ns c f g) (newXs ns xs c v y f g) z = if z = c then some (dval v) else look ns xs z := by
  have hp := asc_iff.mp h
  have a1 := cnt_pos (x := c - 1) hz (by omega)
  have a2 := cnt_le ns (c - 1)
  have b2 := cnt_le ns (c + 1)
  have ab : cnt ns (c - 1) ≤ cnt ns (c + 1) := cnt_mono (by omega)
  have z1 := cnt_pos (x := z) hz h0
  have z2 := cnt_le ns z
  have tl : (xs.take (cnt ns (c - 1))).length = cnt ns (c - 1) := by rw [List.length_take]; exact Nat.min_eq_left (hl ▸ a2)
  have hcnt : cnt (newNs ns c f g) z = cnt ns (min z (c - 1)) + cnt (midN c f g) z + cnt (ns.filter (fun n => decide (c + 1 < n))) z := by
    unfold newNs
    rw [(take_cnt (c - 1) hp).1, (take_cnt (c + 1) hp).2, cnt_append, cnt_append, cnt_low]
  unfold look
  rw [hcnt]
  have at_low : ∀ i, i < cnt ns (c - 1) → (newXs ns xs c v y f g)[i]? = xs[i]? := by
    intro i hi
    unfold newXs
    rw [List.append_assoc, List.getElem?_append_left (by rw [tl]; exact hi), List.getElem?_take, if_pos hi]
  have at_mid : ∀ i, i < (midX v y f g).length → (newXs ns xs c v y f g)[cnt ns (c - 1) + i]? = (midX v y f g)[i]? := by
    intro i hi
    unfold newXs
    rw [List.append_assoc, List.getElem?_append_right (by rw [tl]; omega), tl, Nat.add_sub_cancel_left, List.getElem?_append_left hi]
  have at_high : ∀ i, (newXs ns xs c v y f g)[cnt ns (c - 1) + (midX v y f g).length + i]? = xs[cnt ns (c + 1) + i]? := by
    intro i
    unfold newXs
    rw [List.getElem?_append_right (by rw [List.length_append, tl]; omega), List.length_append, tl, Nat.add_sub_cancel_left, List.getElem?_drop]
  rcases Int.lt_trichotomy z c with hzc | hzc | hzc
  · -- below
    rw [if_neg (by omega), cnt_high0 (by omega), Int.min_eq_left (show z ≤ c - 1 by omega)]
    have e : cnt (midN c f g) z = 0 := by
      have q1 : ¬ c ≤ z := by omega
      have q2 : ¬ c + 1 ≤ z := by omega
      cases f <;> cases g <;> simp [cnt, q1, q2, midN]
    simp only [e, Nat.add_zero]
    have h8 : cnt ns z ≤ cnt ns (c - 1) := cnt_mono (by omega)
    rw [at_low _ (Nat.lt_of_lt_of_le (Nat.sub_lt z1 Nat.one_pos) h8)]
  · subst hzc
    rw [if_pos rfl, cnt_high0 (by omega), Int.min_eq_right (Int.sub_le_self z (by decide))]
    cases f with
    | true =>
      have e : cnt (midN z true g) z = 1 := by
        have q2 : ¬ z + 1 ≤ z := by omega
        cases g <;> simp [cnt, midN, q2]
      rw [e, show cnt ns (z - 1) + 1 + 0 - 1 = cnt ns (z - 1) + 0 from rfl, at_mid 0 (by cases g <;> simp [midX])]
      cases g <;> simp [midX]
    | false =>
      have e : cnt (midN z false g) z = 0 := by
        have q2 : ¬ z + 1 ≤ z := by omega
        cases g <;> simp [cnt, midN, q2]
      simp only [e, Nat.add_zero]
      rw [at_low _ (Nat.sub_lt a1 Nat.one_pos), hx]
      simp [hf rfl]
  · rw [if_neg (by omega), Int.min_eq_right (show c - 1 ≤ z by omega)]
    have hh := cnt_high (ns := ns) (x := z) (y := c + 1) (by omega)
    have e : cnt (midN c f g) z = (midX v y f g).length := by
      have q1 : c ≤ z := by omega
      have q2 : c + 1 ≤ z := by omega
      cases f <;> cases g <;> simp [cnt, q1, q2, midN, midX]
    rw [e]
    rcases Nat.eq_zero_or_pos (cnt (ns.filter (fun n => decide (c + 1 < n))) z) with h9 | h9
    · rw [h9, Nat.add_zero]
      have ez : cnt ns z = cnt ns (c + 1) := by rw [h9, Nat.zero_add] at hh; exact hh.symm
      rw [ez, hy]
      cases g with
      | true =>
        cases f with
        | true => rw [show cnt ns (c - 1) + (midX v y true true).length - 1 = cnt ns (c - 1) + 1 from by simp [midX], at_mid 1 (by simp [midX])]; simp [midX]
        | false => rw [show cnt ns (c - 1) + (midX v y false true).length - 1 = cnt ns (c - 1) + 0 from by simp [midX], at_mid 0 (by simp [midX])]; simp [midX]
      | false =>
        cases f with
        | true => rw [show cnt ns (c - 1) + (midX v y true false).length - 1 = cnt ns (c - 1) + 0 from by simp [midX], at_mid 0 (by simp [midX])]; simp [midX, hg rfl]
        | false => rw [show cnt ns (c - 1) + (midX v y false false).length - 1 = cnt ns (c - 1) - 1 from by simp [midX], at_low _ (Nat.sub_lt a1 Nat.one_pos), hx]; simp [hf rfl, hg rfl]
    · have := at_high (cnt (ns.filter (fun n => decide (c + 1 < n))) z - 1)
      rw [show cnt ns (c - 1) + (midX v y f g).length + cnt (ns.filter (fun n => decide (c + 1 < n))) z - 1 = cnt ns (c - 1) + (midX v y f g).length + (cnt (ns.filter (fun n => decide (c + 1 < n))) z - 1) from Nat.add_sub_assoc h9 _, this]
      rw [show cnt ns (c + 1) + (cnt (ns.filter (fun n => decide (c + 1 < n))) z - 1) = cnt ns z - 1 from by rw [← hh, Nat.add_comm _ (cnt ns (c + 1)), Nat.add_sub_assoc h9]]
end
end Mine

end

section
open PySem PySem.W PyProof.Rows PySem.Calls
namespace Mine
set_option maxRecDepth 100000
set_option maxHeartbeats 0
theorem put_starts {w : World} {t0 t1 t2 : Tok} {dv : Value} {ls lv a : Addr} {n : Nat} {hsh : Int} {key : Value} :
    (putL (Str.ofString "starts") hsh key (.ref a) (rdEs w t0 t1 t2 dv ls lv), putN (Str.ofString "starts") (rdEs w t0 t1 t2 dv ls lv) n) = (rdEs w t0 t1 t2 dv a lv, n) := by
  have e1 : (Str.ofString "default" == Str.ofString "starts") = false := by decide +kernel
  have e2 : (Str.ofString "starts" == Str.ofString "starts") = true := by decide +kernel
  simp [putL, putN, rdEs, Value.isStr, e1, e2]
theorem put_values {w : World} {t0 t1 t2 : Tok} {dv : Value} {ls lv a : Addr} {n : Nat} {hsh : Int} {key : Value} :
    (putL (Str.ofString "values") hsh key (.ref a) (rdEs w t0 t1 t2 dv ls lv), putN (Str.ofString "values") (rdEs w t0 t1 t2 dv ls lv) n) = (rdEs w t0 t1 t2 dv ls a, n) := by
  have e1 : (Str.ofString "default" == Str.ofString "values") = false := by decide +kernel
  have e2 : (Str.ofString "starts" == Str.ofString "values") = false := by decide +kernel
  have e3 : (Str.ofString "values" == Str.ofString "values") = true := by decide +kernel
  simp [putL, putN, rdEs, Value.isStr, e1, e2, e3]
theorem fill6 : PySem.Challenge.rw_pb0596_01.foot = 6 ∧ K9 = K9 := by
  k_with_none
  k_with "my ne" => (first | (with_reducible first | assumption | exact Ne.symm (by assumption) | exact Mine.nr1 (by assumption) | exact Mine.ns1 (by assumption) | exact Mine.nt1 (by assumption) | exact Mine.nu1 (by assumption) | exact Mine.nr2 (by assumption) | exact Mine.ns2 (by assumption) | exact Mine.nt2 (by assumption) | exact Mine.nu2 (by assumption) | exact Mine.nr3 (by assumption) | exact Mine.ns3 (by assumption) | exact Mine.nt3 (by assumption) | exact Mine.nu3 (by assumption) | exact Mine.nr4 (by assumption) | exact Mine.ns4 (by assumption) | exact Mine.nt4 (by assumption) | exact Mine.nu4 (by assumption) | exact Mine.nr5 (by assumption) | exact Mine.ns5 (by assumption) | exact Mine.nt5 (by assumption) | exact Mine.nu5 (by assumption) | exact Mine.nr6 (by assumption) | exact Mine.ns6 (by assumption) | exact Mine.nt6 (by assumption) | exact Mine.nu6 (by assumption) | exact Mine.nr7 (by assumption) | exact Mine.ns7 (by assumption) | exact Mine.nt7 (by assumption) | exact Mine.nu7 (by assumption) | exact Mine.nr8 (by assumption) | exact Mine.ns8 (by assumption) | exact Mine.nt8 (by assumption) | exact Mine.nu8 (by assumption) | exact Mine.nr9 (by assumption) | exact Mine.ns9 (by assumption) | exact Mine.nr10 (by assumption) | exact Mine.ns10 (by assumption) | exact Mine.nr11 (by assumption) | exact Mine.ns11 (by assumption) | exact Mine.nr12 (by assumption) | exact Mine.ns12 (by assumption) | exact Mine.nw1 (by assumption) | exact Mine.nw2 (by assumption) | exact Mine.nw3 (by assumption) | exact Mine.nw4 (by assumption) | exact Mine.nw5 (by assumption) | exact Mine.nw6 (by assumption) | exact Mine.nk1 (by assumption) | exact Mine.nk2 (by assumption) | exact Mine.nk3 (by assumption) | exact Mine.nk4 (by assumption)) | fail "no")
  k_with "my om" => (first | ((with_reducible show @Eq Int _ _); with_reducible first | assumption | exact Eq.symm (by assumption) | exact Int.toNat_of_nonneg (by assumption)) | fail "no")
  k_with "my om" => (first | ((with_reducible show And (@LE.le Int _ _ _) _); with_reducible first | assumption | (refine Mine.i2 (by assumption) ?_; omega) | (refine Mine.i2' (by assumption) ?_; omega)) | fail "no")
  k_with "my om" => (first | ((with_reducible show @LT.lt Int _ _ _); first | (with_reducible first | assumption | exact Mine.i1' (by assumption) | exact Int.ofNat_lt.mpr (by assumption) | exact And.left (by assumption) | exact And.right (by assumption) | exact Int.lt_of_not_le (by assumption)) | decide +kernel) | fail "no")
  k_with "my om" => (first | ((with_reducible show @LE.le Int _ _ _); first | (with_reducible first | assumption | exact Int.natCast_nonneg _ | exact Int.le_refl _ | exact Mine.i1 _ | exact Int.ofNat_le.mpr (by assumption) | exact Mine.i6 (by assumption) (by assumption) | (refine Mine.i7 ?_; omega) | exact And.left (by assumption) | exact And.right (by assumption) | exact Int.le_of_not_lt (by assumption) | exact Int.le_of_lt (by assumption)) | decide +kernel) | fail "no")
  k_with "my om" => (first | ((with_reducible show @Eq Nat _ _); with_reducible first | assumption | exact Eq.symm (by assumption) | exact Mine.i5 (by assumption) | exact Mine.i4 _ | exact Mine.i3 _ | exact Eq.symm (Mine.i4 _) | exact Nat.add_sub_cancel_left .. | exact Nat.min_eq_left (by assumption) | exact Eq.trans (by assumption) (by assumption) | exact Eq.trans (Eq.symm (by assumption)) (by assumption) | exact Eq.trans (by assumption) (Eq.symm (by assumption))) | fail "no")
  k_with "my om" => (first | ((with_reducible show @LT.lt Nat _ _ _); with_reducible first | assumption | exact Mine.np (by assumption) | exact Mine.nq (by assumption) rfl | exact Mine.nv (by assumption) rfl | exact Mine.ia (by assumption) (by assumption) | exact Mine.ib (by assumption) (by assumption) | exact Nat.lt_of_lt_of_le (by assumption) (by assumption) | exact Nat.succ_lt_succ (by assumption) | exact And.left (by assumption) | exact And.right (by assumption) | exact Nat.lt_of_not_le (by assumption) | exact Mine.ia (Mine.ia (by assumption) (by assumption)) (by assumption) | exact Mine.ib (Mine.ia (by assumption) (by assumption)) (by assumption) | exact Mine.ia (Mine.ib (by assumption) (by assumption)) (by assumption) | exact Mine.ib (Mine.ib (by assumption) (by assumption)) (by assumption)) | fail "no")
  k_with "my om" => (first | ((with_reducible show @LE.le Nat _ _ _); first | (with_reducible first | assumption | exact Mine.nc (by assumption) rfl | exact Nat.le_refl _ | exact Mine.nl (by assumption) (by assumption) | exact Mine.nm (by assumption) (by assumption) | exact Mine.nn (by assumption) (by assumption) | exact Mine.nn (by assumption) (Mine.nc (by assumption) rfl) | exact Mine.nl (by assumption) (Mine.nc (by assumption) rfl) | exact Mine.nm (by assumption) (Mine.nc (by assumption) rfl) | exact Mine.nl (by assumption) (Mine.nl (by assumption) (Mine.nc (by assumption) rfl)) | exact Mine.nl (by assumption) (Mine.nn (by assumption) (Mine.nc (by assumption) rfl)) | exact Mine.nm (by assumption) (Mine.nn (by assumption) (Mine.nc (by assumption) rfl)) | exact Mine.nl (by assumption) (Mine.nm (by assumption) (Mine.nc (by assumption) rfl)) | exact Mine.nm (by assumption) (Mine.nl (by assumption) (Mine.nc (by assumption) rfl)) | exact Mine.nm (by assumption) (Mine.nm (by assumption) (Mine.nc (by assumption) rfl)) | exact Nat.le_add_right _ _ | exact Nat.succ_le_succ (by assumption) | exact Nat.le_of_eq (by assumption) | exact Nat.le_of_eq (Eq.symm (by assumption)) | exact Nat.le_succ_of_le (by assumption) | exact Nat.le_of_not_lt (by assumption) | exact Int.toNat_le_toNat (by assumption) | exact Mine.ig (by assumption) (by assumption) rfl | exact Mine.ih (by assumption) (by assumption) rfl | exact And.left (by assumption) | exact And.right (by assumption) | (refine Mine.ie ?_ (by assumption); omega) | (refine Mine.ie' ?_ (by assumption); omega) | (refine Mine.id1 ?_; omega) | (refine Mine.ij ?_; omega) | (refine Mine.ic (by assumption) rfl ?_; omega)) | exact Mine.nz rfl) | fail "no")
  k_with "my own" => (first | assumption | exact Mine.PAt.of (by assumption) (PySem.SameStack.mark _ _) | exact Mine.PAt.of (by assumption) (PySem.SameStack.unmark _ _) | fail "no")
  k_fill
  k_with "my inst" => (first | exact InstAt.up (by assumption) (Fr.keep (by k_asm)) | fail "no")
  k_with "my inst" => (first | exact InstAt.mix (by assumption) (by k_asm) (by k_asm) (by k_mem) | fail "no")
  k_with "my len" => ((try simp only [List.length_append, List.length_take, List.length_drop, List.length_cons, List.length_nil, List.size_toArray, Array.size_push]); omega)
  k_with "subscriptTail Name Slice ref ref" => (k_here; k_dflt (first
    | (refine' sl_upto ?F ?N ?l ?k ?_ ?s ?t ?z; (case F => k_asm); (case N => k_asm); (case l => kmk_list); (case k => omega); (case s => with_unfolding_all rfl); (case t => kmk_pure); (case z => walk_at "my len"))
    | (refine' sl_from ?F ?N ?l ?k ?_ ?s ?t ?z; (case F => k_asm); (case N => k_asm); (case l => kmk_list); (case k => omega); (case s => with_unfolding_all rfl); (case t => kmk_pure); (case z => walk_at "my len"))); intro D' h' F' N' l1; (try k_lt l1); (try k_sweep))
  k_with "binaryOp Add ref ref" => (k_here; k_dflt (refine' ad_two ?F ?N ?l ?r ?z ?_; (case F => k_asm); (case N => k_asm); (case l => kmk_list); (case r => kmk_list); (case z => walk_at "my len")); intro D' h' F' N' l1; (try k_lt l1); (try k_sweep))
  k_with "call builtin:list.append" => ((dsimp only [List.cons_append, List.nil_append]); walk1; (rename News _ _ _ _ => N8); (try simp only [List.push_toArray, List.cons_append, List.nil_append] at N8))
  exact ⟨rfl, rfl⟩

theorem natfix (k : Nat) : ((k : Int) - 1 + 1).toNat = k := by omega
noncomputable def PutRes (w : World) (h h' : Heap) (M : MS) (c : Int) (v : Value) : Prop :=
  ∃ M' : MS, M'.rm = M.rm ∧ M'.rd = M.rd ∧ h.get? M'.ls = none ∧ h.get? M'.lv = none ∧ M'.At w h' ∧ M'.ns.length ≤ M.ns.length + 2 ∧
    (∀ z, 0 ≤ z → look M'.ns M'.xs z = if z = c then some (dval v) else look M.ns M.xs z) ∧ (∀ x ∈ M'.xs, vkin x v) ∧ (∀ b o, b ≠ M.rd → h.get? b = some o → h'.get? b = some o)
theorem vkin_self {x v : Value} (h : vkin x v) : vkin v v := by
  rcases h with ⟨a, t, b, u, rfl, rfl⟩ | ⟨a, b, rfl, rfl⟩
  · exact .inl ⟨b, u, b, u, rfl, rfl⟩
  · exact .inr ⟨b, b, rfl, rfl⟩
theorem rput_fin {w : World} {s : Shared} {Q : Value → Shared → Prop} {g h' : Heap} {L rm rd ls lv ls' lv' : Addr} {t0 t1 t2 : Tok} {dv v x y : Value} {n tk : Nat} {vs xs mv mx : List Value} {ns : List Int} {c : Int} {m : Str → Option Value} {news : List (Addr × Obj)} (f k : Bool)
    (hret : ∀ (v9 : Value) (h' : Heap) (tk' : Nat), v9 = .none ∧ PutRes w s.heap h' ⟨rm, rd, ls, lv, t0, t1, t2, dv, n, vs, ns, xs⟩ c v → Q v9 { s with heap := h', toks := tk' })
    (I : PySem.W.InstAt s.heap rm (instObj 242 rd) 242 (some (dictOf (rdEs w t0 t1 t2 dv ls lv) n))) (hi : IntsAre vs ns) (hlen : ns.length = xs.length) (hmost : ns.length ≤ 98) (hasc : Asc ns) (hz : ns.getD 0 0 = 0 ∧ 0 < ns.length) (hc : 1 ≤ c) (hv : ∀ x ∈ xs, vkin x v)
    (hG : ∀ b o, s.heap.get? b = some o → ¬ b ∈ List.map (fun x => x.fst) [(rd, dictOf (rdEs w t0 t1 t2 dv ls lv) n)] → g.get? b = some o) (F : Fr g L h' m) (N : News g L h' news) (hrm : g.get? rm = some (instObj 242 rd))
    (hx : xs[((cnt ns (c - 1) : Int) - 1 + 1 - 1).toNat]? = some x) (hy : xs[((cnt ns (c + 1) : Int) - 1 + 1 - 1).toNat]? = some y) (ef : vsame x v = !f) (ek : vsame y v = !k)
    (m1 : (rd, dictOf (rdEs w t0 t1 t2 dv ls' lv') n) ∈ news) (m2 : (ls', PySem.W.listOf (vs.take (cnt ns (c - 1)) ++ mv ++ vs.drop (cnt ns (c + 1))).toArray 0) ∈ news) (m3 : (lv', PySem.W.listOf (xs.take (cnt ns (c - 1)) ++ mx ++ xs.drop (cnt ns (c + 1))).toArray 0) ∈ news)
    (hmv : IntsAre mv (midN c f k)) (hmx : mx = midX v y f k) : Q .none { s with heap := h', toks := tk } := by
  have hdict : s.heap.get? rd = some (dictOf (rdEs w t0 t1 t2 dv ls lv) n) := I.dict
  have keep : ∀ b o, b ≠ rd → s.heap.get? b = some o → h'.get? b = some o := fun b o hb e => F.keep b o (hG b o e (by simpa using hb))
  have fresh : ∀ a its, (a, PySem.W.listOf its 0) ∈ news → s.heap.get? a = none := fun a its hm => by
    cases e : s.heap.get? a with
    | none => rfl
    | some o =>
      by_cases hb : a = rd
      · subst hb
        have e1 := (N _ hm).1
        have e2 := (N _ m1).1
        rw [e1] at e2
        have := congrArg Obj.cls (Option.some.inj e2)
        simp at this
      · have e1 := hG a o e (by simpa using hb)
        rw [(N _ hm).2.2] at e1
        cases e1
  have hlv : vs.length = ns.length := hi.length
  have hx' : xs[cnt ns (c - 1) - 1]? = some x := by rw [← hx]; congr 1; omega
  have hy' : xs[cnt ns (c + 1) - 1]? = some y := by rw [← hy]; congr 1; omega
  have hvv : vkin v v := vkin_self (hv x (List.mem_of_getElem? hx'))
  subst hmx
  refine hret _ _ _ ⟨rfl, ⟨rm, rd, ls', lv', t0, t1, t2, dv, n, vs.take (cnt ns (c - 1)) ++ mv ++ vs.drop (cnt ns (c + 1)), newNs ns c f k, newXs ns xs c v y f k⟩, rfl, rfl, fresh _ _ m2, fresh _ _ m3, ?_, ?_, ?_, ?_, keep⟩
  · have hL := (N _ m2).1
    have hV := (N _ m3).1
    refine ⟨⟨F.keep _ _ hrm, rfl, rfl, (N _ m1).1⟩, ⟨_, hL, rfl, _, rfl⟩, ((hi.take _).append hmv).append (hi.drop _), ⟨_, hV, rfl, _, rfl⟩, new_len hlen, ?_, new_asc hasc, new_zero hz hc⟩
    have := new_most (ns := ns) (f := f) (g := k) c
    show (newNs ns c f k).length ≤ 100
    omega
  · exact new_most c
  · intro z hz0
    refine new_look hasc hlen hz hc hx' hy' (fun e => ?_) (fun e => ?_) z hz0
    · subst e; exact vsame_dval ef
    · subst e; exact vsame_dval ek
  · intro a ha
    have ha' : a ∈ newXs ns xs c v y f k := ha
    unfold newXs at ha'
    rcases List.mem_append.mp ha' with ha | ha
    · rcases List.mem_append.mp ha with ha | ha
      · exact hv a (List.mem_of_mem_take ha)
      · have h2 : a = v ∨ a = y := by cases f <;> cases k <;> simp [midX] at ha <;> first | exact ha | exact .inl ha | exact .inr ha
        rcases h2 with rfl | rfl
        · exact hvv
        · exact hv _ (List.mem_of_getElem? hy')
    · exact hv a (List.mem_of_mem_drop ha)
theorem execs_cut7 {M : Model} {A : Around} {a b c d e f h : Stmt} {tl : List Stmt} {env : Env} {Q : Flow → Shared → Prop} {E : Value → Shared → Prop} {s : Shared} (Inv : Shared → Prop) (key : ∀ st, Inv st → wpAny M A (execs tl env) Q E st)
    (rest : (∀ st, Inv st → wpAny M A (execs tl env) Q E st) → wpAny M A (execs (a :: b :: c :: d :: e :: f :: h :: tl) env) Q E s) : wpAny M A (execs (a :: b :: c :: d :: e :: f :: h :: tl) env) Q E s := rest key
structure RInv (w : World) (s : Shared) (g : Heap) (L rm rd ls lv : Addr) (t0 t1 t2 : Tok) (dv v : Value) (n : Nat) (xs : List Value) (ns : List Int) (c : Int) (f k : Bool) (x y : Value) (h : Heap) (m : Str → Option Value) (A B : Addr) (mv mx : List Value) (nA nB : Nat) (tl th : Tok) : Prop where
  F : Fr g L h m
  N : News g L h [(rd, dictOf (rdEs w t0 t1 t2 dv ls lv) n), (A, PySem.W.listOf mv.toArray nA), (B, PySem.W.listOf mx.toArray nB)]
  m1 : m (Str.ofString "self") = some (.ref rm)
  m2 : m (Str.ofString "low") = some (.int ((cnt ns (c - 1) : Int) - 1 + 1) tl)
  m3 : m (Str.ofString "high") = some (.int ((cnt ns (c + 1) : Int) - 1 + 1) th)
  m4 : m (Str.ofString "starts") = some (.ref A)
  m5 : m (Str.ofString "values") = some (.ref B)
  hx : xs[((cnt ns (c - 1) : Int) - 1 + 1 - 1).toNat]? = some x
  hy : xs[((cnt ns (c + 1) : Int) - 1 + 1 - 1).toNat]? = some y
  ef : vsame x v = !f
  ek : vsame y v = !k
  hmv : IntsAre mv (midN c f k)
  hmx : mx = midX v y f k
  nA' : (@Ne Nat rd A)
  nB' : (@Ne Nat rd B)
theorem fr_as {g h : Heap} {L : Addr} {m m' : Str → Option Value} (F : Fr g L h m) (e : ∀ z, m' z = m z) : Fr g L h m' := by
  rw [show m' = m from funext e]; exact F
noncomputable def RI (w : World) (s : Shared) (g : Heap) (L rm rd ls lv : Addr) (t0 t1 t2 : Tok) (dv v : Value) (n : Nat) (xs : List Value) (ns : List Int) (c : Int) (st : Shared) : Prop :=
  ∃ h tk m A B mv mx nA nB tl th f k x y, st = { s with heap := h, toks := tk } ∧ RInv w s g L rm rd ls lv t0 t1 t2 dv v n xs ns c f k x y h m A B mv mx nA nB tl th
theorem news3 {g h : Heap} {L : Addr} {news : List (Addr × Obj)} {a b c : Addr × Obj} (N : News g L h news) (h1 : a ∈ news) (h2 : b ∈ news) (h3 : c ∈ news) : News g L h [a, b, c] := fun p hp => by
  rcases List.mem_cons.mp hp with rfl | hp
  · exact N _ h1
  rcases List.mem_cons.mp hp with rfl | hp
  · exact N _ h2
  · rw [List.mem_singleton.mp hp]; exact N _ h3
theorem ri_mk {w : World} {s : Shared} {g h : Heap} {L rm rd ls lv A B : Addr} {t0 t1 t2 tl th : Tok} {dv v x y : Value} {n tk nA nB : Nat} {xs mv mx : List Value} {ns : List Int} {c : Int} {m : Str → Option Value} {news : List (Addr × Obj)} (f k : Bool) (F : Fr g L h m) (N : News g L h news)
    (m1 : m (Str.ofString "self") = some (.ref rm)) (m2 : m (Str.ofString "low") = some (.int ((cnt ns (c - 1) : Int) - 1 + 1) tl)) (m3 : m (Str.ofString "high") = some (.int ((cnt ns (c + 1) : Int) - 1 + 1) th)) (m4 : m (Str.ofString "starts") = some (.ref A)) (m5 : m (Str.ofString "values") = some (.ref B))
    (e1 : (rd, dictOf (rdEs w t0 t1 t2 dv ls lv) n) ∈ news) (e2 : (A, PySem.W.listOf mv.toArray nA) ∈ news) (e3 : (B, PySem.W.listOf mx.toArray nB) ∈ news)
    (hx : xs[((cnt ns (c - 1) : Int) - 1 + 1 - 1).toNat]? = some x) (hy : xs[((cnt ns (c + 1) : Int) - 1 + 1 - 1).toNat]? = some y) (ef : vsame x v = !f) (ek : vsame y v = !k) (hmv : IntsAre mv (midN c f k)) (hmx : mx = midX v y f k) (n1 : (@Ne Nat rd A)) (n2 : (@Ne Nat rd B)) :
    RI w s g L rm rd ls lv t0 t1 t2 dv v n xs ns c { s with heap := h, toks := tk } := ⟨h, tk, m, A, B, mv, mx, nA, nB, tl, th, f, k, x, y, rfl, F, news3 N e1 e2 e3, m1, m2, m3, m4, m5, hx, hy, ef, ek, hmv, hmx, n1, n2⟩
theorem mid_len {mv : List Value} {c : Int} {f k : Bool} (h : IntsAre mv (midN c f k)) : mv.length ≤ 2 := by rw [h.length]; cases f <;> cases k <;> simp [midN]
theorem midX_len {v y : Value} {f k : Bool} : (midX v y f k).length ≤ 2 := by cases f <;> cases k <;> simp [midX]
theorem rput_cc {w : World} {base : Heap} (G : Gr w base) (M : MS) (c : Int) (t t' : Tok) (v : Value) (hc : 1 ≤ c) (hc' : c < 1114111) (hv : ∀ x ∈ M.xs, vkin x v) (hnb : base.get? M.rd = none) :
   CC w base 225 [.ref M.rm, .int c t, .int c t', v] 3 (fun h => M.At w h ∧ M.ns.length ≤ 98) (fun h r h' => r = .none ∧ PutRes w h h' M c v) := by
  have G' := G
  obtain ⟨X, p, loose, mean, mg, mb, T⟩ := G
  obtain ⟨rm, rd, ls, lv, t0, t1, t2, dv, n, vs, ns, xs⟩ := M
  intro dp un fr gd s Q E hdp hun hb hp hret
  obtain ⟨⟨I, hl, hi, hvl, hlen, hmost, hasc, hz⟩, hmost'⟩ := hp
  dsimp only at *
  w_on
  k_dflt (refine enter (binds := [(Str.ofString "self", .ref rm), (Str.ofString "first", .int c t), (Str.ofString "last", .int c t'), (Str.ofString "value", v)]) [(rd, dictOf (rdEs w t0 t1 t2 dv ls lv) n)] X T hb (fun q hq => by rw [List.mem_singleton.mp hq]; exact ⟨I.dict, hnb⟩) (by k_is) (by k_is) (by show dp < recursionLimit; omega) (BindsTo.of_eq rfl) (locs rfl) (fun E9 Q9 g L h₁ g9s d9r t9k o9s hQ9 hE9 hP9 hA9 hB hG X' T' F' N' hL => ?_))
  try dsimp only
  have hrm : g.get? rm = some (instObj 242 rd) := hG _ _ I.at_ (by
    intro hm
    have e : rm = rd := by simpa using hm
    have h1 := I.at_
    have h2 : s.heap.get? rd = _ := I.dict
    rw [e, h2] at h1
    cases h1)
  have hne : ∀ a its, s.heap.IsList a its → g.IsList a its := fun a its hL => hL.at fun o e => hG _ _ e (by
    intro hm
    have e1 : a = rd := by simpa using hm
    subst e1
    obtain ⟨o', e2, hcl, _⟩ := hL
    have h2 : s.heap.get? a = _ := I.dict
    rw [e2] at h2
    cases h2
    simp at hcl)
  have hl' := hne _ _ hl
  have hv' := hne _ _ hvl
  have hvl9 : vs.length = ns.length := hi.length
  have c1 := cnt_pos (ns := ns) (x := c + 1) hz (by omega)
  have c2 := cnt_pos (ns := ns) (x := c - 1) hz (by omega)
  have c3 := cnt_le ns (c + 1)
  have c4 := cnt_le ns (c - 1)
  k_unmd
  try k_fold
  k_with "call ref" => ((with_reducible show wpAny _ _ (PySem.call (Value.ref 61) _ _) _ _ _); (refine' use_pure (pbh_cc G' ls vs ns _ _ hmost hasc) hB ?kF ?kN ?kp ?kd ?ku ?_); (case kF => k_asm); (case kN => k_asm); (case kp => exact ⟨by is_list, hi⟩); (case kd => k_dflt (exact lim1 hdp rfl)); (case ku => k_dflt (exact lim3 hun rfl)); intro v9 h9 tk9 hR9 hk9 F9 N9; (obtain ⟨t9, e9⟩ := hR9); subst e9; k_sweep)
  k_with "call ref" => ((with_reducible show wpAny _ _ (PySem.call (Value.ref 197) _ _) _ _ _); (refine' use_pure (like_cc G' _ v (hv _ (List.mem_of_getElem? (by assumption)))) hB ?kF ?kN ?kp ?kd ?ku ?_); (case kF => k_asm); (case kN => k_asm); (case kp => trivial); (case kd => k_dflt (exact lim1 hdp rfl)); (case ku => k_dflt (exact lim3 hun rfl)); intro v9 h9 tk9 e9 hk9 F9 N9; subst e9; k_sweep)
  k_with "setAttr ref" => ((refine' set_dict ?k1 ?k2 ?k3 ?k4 ?k5 ?k6 ?k7 ?k8 ?k9 ?k10 ?k11 ?k12 ?k13 ?_; (case k1 => k_asm); (case k2 => k_asm); (case k3 => k_asm); (case k4 => k_inst); (case k5 => exact rfl); (case k6 => k_is); (case k7 => k_is); (case k8 => k_is); (case k9 => k_is); (case k10 => k_get); (case k11 => first | exact put_starts | exact put_values); (case k12 => k_upd); (case k13 => exact Nat.le_of_ble_eq_true rfl); k_whole; intro h' F' N'; (try k_sweep)))
  k_with "subscriptTail" => ((with_reducible show wpAny _ _ (subscriptTail _ _ (Value.ref _) (Value.int _ _)) _ _ _); (with_unfolding_all refine' item_list (xs := xs) ?k1 (by omega) ?k2 ?_); (case k1 => is_list); (case k2 => omega); intro v9 hv9)
  refine execs_cut7 (RI w ⟨h₁, g9s, d9r, t9k, o9s⟩ g L rm rd ls lv t0 t1 t2 dv v n xs ns c) ?key ?rest
  case key =>
    clear F' N'
    rintro _ ⟨h, tk, m, A, B, mv, mx, nA, nB, tl, th, f, k, x, y, rfl, I8⟩
    have F : Fr g L h (fun z => if z = Str.ofString "self" then some (.ref rm) else if z = Str.ofString "low" then some (.int ((cnt ns (c - 1) : Int) - 1 + 1) tl) else if z = Str.ofString "high" then some (.int ((cnt ns (c + 1) : Int) - 1 + 1) th) else if z = Str.ofString "starts" then some (.ref A) else if z = Str.ofString "values" then some (.ref B) else m z) := fr_as I8.F fun z => by
      split
      · subst z; exact I8.m1.symm
      split
      · subst z; exact I8.m2.symm
      split
      · subst z; exact I8.m3.symm
      split
      · subst z; exact I8.m4.symm
      split
      · subst z; exact I8.m5.symm
      · rfl
    have N := I8.N
    have n1 := I8.nA'
    have n2 := I8.nB'
    have hmv := I8.hmv
    have hml := mid_len hmv
    have hmx := I8.hmx
    have hxl : mx.length ≤ 2 := by rw [hmx]; exact midX_len
    have q1 := I8.hx
    have q2 := I8.hy
    have q3 := I8.ef
    have q4 := I8.ek
    clear I8
    dsimp only
    k_steps
    all_goals (try ((with_reducible refine hQ9 _ _ _ ?_); (try dsimp only)))
    all_goals (rename News _ _ _ _ => N8)
    all_goals (simp only [natfix] at N8)
    exact rput_fin f k hret I hi hlen hmost' hasc hz hc hv hG (by assumption) N8 hrm q1 q2 q3 q4 (by k_mem) (by k_mem) (by k_mem) hmv hmx
  case rest =>
    intro key
    k_with "execs cons" => ((try dsimp only); (with_reducible refine key _ ?_))
    k_steps
    all_goals (try ((with_reducible refine hQ9 _ _ _ ?_); (try dsimp only)))
    all_goals (rename News _ _ _ _ => N8)
    all_goals (try simp only [natfix, Int.toNat_one, List.drop_one, List.tail_cons] at N8)
    · exact ri_mk false false (by assumption) N8 rfl rfl rfl rfl rfl (by k_mem) (by k_mem) (by k_mem) (by assumption) (by assumption) (by assumption) (by assumption) (by first | exact .nil | exact .cons _ _ .nil | exact .cons _ _ (.cons _ _ .nil)) rfl (by k_ne) (by k_ne)
    · exact ri_mk true false (by assumption) N8 rfl rfl rfl rfl rfl (by k_mem) (by k_mem) (by k_mem) (by assumption) (by assumption) (by assumption) (by assumption) (by first | exact .nil | exact .cons _ _ .nil | exact .cons _ _ (.cons _ _ .nil)) rfl (by k_ne) (by k_ne)
    · exact ri_mk false true (by assumption) N8 rfl rfl rfl rfl rfl (by k_mem) (by k_mem) (by k_mem) (by assumption) (by assumption) (by assumption) (by assumption) (by first | exact .nil | exact .cons _ _ .nil | exact .cons _ _ (.cons _ _ .nil)) rfl (by k_ne) (by k_ne)
    · exact ri_mk true true (by assumption) N8 rfl rfl rfl rfl rfl (by k_mem) (by k_mem) (by k_mem) (by assumption) (by assumption) (by assumption) (by assumption) (by first | exact .nil | exact .cons _ _ .nil | exact .cons _ _ (.cons _ _ .nil)) rfl (by k_ne) (by k_ne)
end Mine

end

section
open PySem PySem.W PyProof.Rows PySem.Calls
namespace Mine
set_option maxRecDepth 100000
set_option maxHeartbeats 0
theorem fill8 : PySem.Challenge.rw_pb0596_01.foot = 6 ∧ K9 = K9 := by
  k_with_none
  k_with "my ne" => (first | (with_reducible first | assumption | exact Ne.symm (by assumption) | exact Mine.nr1 (by assumption) | exact Mine.ns1 (by assumption) | exact Mine.nt1 (by assumption) | exact Mine.nu1 (by assumption) | exact Mine.nr2 (by assumption) | exact Mine.ns2 (by assumption) | exact Mine.nt2 (by assumption) | exact Mine.nu2 (by assumption) | exact Mine.nr3 (by assumption) | exact Mine.ns3 (by assumption) | exact Mine.nt3 (by assumption) | exact Mine.nu3 (by assumption) | exact Mine.nr4 (by assumption) | exact Mine.ns4 (by assumption) | exact Mine.nt4 (by assumption) | exact Mine.nu4 (by assumption) | exact Mine.nr5 (by assumption) | exact Mine.ns5 (by assumption) | exact Mine.nt5 (by assumption) | exact Mine.nu5 (by assumption) | exact Mine.nr6 (by assumption) | exact Mine.ns6 (by assumption) | exact Mine.nt6 (by assumption) | exact Mine.nu6 (by assumption) | exact Mine.nr7 (by assumption) | exact Mine.ns7 (by assumption) | exact Mine.nt7 (by assumption) | exact Mine.nu7 (by assumption) | exact Mine.nr8 (by assumption) | exact Mine.ns8 (by assumption) | exact Mine.nt8 (by assumption) | exact Mine.nu8 (by assumption) | exact Mine.nr9 (by assumption) | exact Mine.ns9 (by assumption) | exact Mine.nr10 (by assumption) | exact Mine.ns10 (by assumption) | exact Mine.nr11 (by assumption) | exact Mine.ns11 (by assumption) | exact Mine.nr12 (by assumption) | exact Mine.ns12 (by assumption) | exact Mine.nw1 (by assumption) | exact Mine.nw2 (by assumption) | exact Mine.nw3 (by assumption) | exact Mine.nw4 (by assumption) | exact Mine.nw5 (by assumption) | exact Mine.nw6 (by assumption) | exact Mine.nk1 (by assumption) | exact Mine.nk2 (by assumption) | exact Mine.nk3 (by assumption) | exact Mine.nk4 (by assumption)) | fail "no")
  k_with "my om" => (first | ((with_reducible show @Eq Int _ _); with_reducible first | assumption | exact Eq.symm (by assumption) | exact Int.toNat_of_nonneg (by assumption)) | fail "no")
  k_with "my om" => (first | ((with_reducible show And (@LE.le Int _ _ _) _); with_reducible first | assumption | (refine Mine.i2 (by assumption) ?_; omega) | (refine Mine.i2' (by assumption) ?_; omega)) | fail "no")
  k_with "my om" => (first | ((with_reducible show @LT.lt Int _ _ _); first | (with_reducible first | assumption | exact Mine.i1' (by assumption) | exact Int.ofNat_lt.mpr (by assumption) | exact And.left (by assumption) | exact And.right (by assumption) | exact Int.lt_of_not_le (by assumption)) | decide +kernel) | fail "no")
  k_with "my om" => (first | ((with_reducible show @LE.le Int _ _ _); first | (with_reducible first | assumption | exact Int.natCast_nonneg _ | exact Int.le_refl _ | exact Mine.i1 _ | exact Int.ofNat_le.mpr (by assumption) | exact Mine.i6 (by assumption) (by assumption) | (refine Mine.i7 ?_; omega) | exact And.left (by assumption) | exact And.right (by assumption) | exact Int.le_of_not_lt (by assumption) | exact Int.le_of_lt (by assumption)) | decide +kernel) | fail "no")
  k_with "my om" => (first | ((with_reducible show @Eq Nat _ _); with_reducible first | assumption | exact Eq.symm (by assumption) | exact Mine.i5 (by assumption) | exact Mine.i4 _ | exact Mine.i3 _ | exact Eq.symm (Mine.i4 _) | exact Nat.add_sub_cancel_left .. | exact Nat.min_eq_left (by assumption) | exact Eq.trans (by assumption) (by assumption) | exact Eq.trans (Eq.symm (by assumption)) (by assumption) | exact Eq.trans (by assumption) (Eq.symm (by assumption))) | fail "no")
  k_with "my om" => (first | ((with_reducible show @LT.lt Nat _ _ _); with_reducible first | assumption | exact Mine.np (by assumption) | exact Mine.nq (by assumption) rfl | exact Mine.nv (by assumption) rfl | exact Mine.ia (by assumption) (by assumption) | exact Mine.ib (by assumption) (by assumption) | exact Nat.lt_of_lt_of_le (by assumption) (by assumption) | exact Nat.succ_lt_succ (by assumption) | exact And.left (by assumption) | exact And.right (by assumption) | exact Nat.lt_of_not_le (by assumption) | exact Mine.ia (Mine.ia (by assumption) (by assumption)) (by assumption) | exact Mine.ib (Mine.ia (by assumption) (by assumption)) (by assumption) | exact Mine.ia (Mine.ib (by assumption) (by assumption)) (by assumption) | exact Mine.ib (Mine.ib (by assumption) (by assumption)) (by assumption)) | fail "no")
  k_with "my om" => (first | ((with_reducible show @LE.le Nat _ _ _); first | (with_reducible first | assumption | exact Mine.nc (by assumption) rfl | exact Nat.le_refl _ | exact Mine.nl (by assumption) (by assumption) | exact Mine.nm (by assumption) (by assumption) | exact Mine.nn (by assumption) (by assumption) | exact Mine.nn (by assumption) (Mine.nc (by assumption) rfl) | exact Mine.nl (by assumption) (Mine.nc (by assumption) rfl) | exact Mine.nm (by assumption) (Mine.nc (by assumption) rfl) | exact Mine.nl (by assumption) (Mine.nl (by assumption) (Mine.nc (by assumption) rfl)) | exact Mine.nl (by assumption) (Mine.nn (by assumption) (Mine.nc (by assumption) rfl)) | exact Mine.nm (by assumption) (Mine.nn (by assumption) (Mine.nc (by assumption) rfl)) | exact Mine.nl (by assumption) (Mine.nm (by assumption) (Mine.nc (by assumption) rfl)) | exact Mine.nm (by assumption) (Mine.nl (by assumption) (Mine.nc (by assumption) rfl)) | exact Mine.nm (by assumption) (Mine.nm (by assumption) (Mine.nc (by assumption) rfl)) | exact Nat.le_add_right _ _ | exact Nat.succ_le_succ (by assumption) | exact Nat.le_of_eq (by assumption) | exact Nat.le_of_eq (Eq.symm (by assumption)) | exact Nat.le_succ_of_le (by assumption) | exact Nat.le_of_not_lt (by assumption) | exact Int.toNat_le_toNat (by assumption) | exact Mine.ig (by assumption) (by assumption) rfl | exact Mine.ih (by assumption) (by assumption) rfl | exact And.left (by assumption) | exact And.right (by assumption) | (refine Mine.ie ?_ (by assumption); omega) | (refine Mine.ie' ?_ (by assumption); omega) | (refine Mine.id1 ?_; omega) | (refine Mine.ij ?_; omega) | (refine Mine.ic (by assumption) rfl ?_; omega)) | exact Mine.nz rfl) | fail "no")
  k_with "my own" => (first | assumption | exact Mine.PAt.of (by assumption) (PySem.SameStack.mark _ _) | exact Mine.PAt.of (by assumption) (PySem.SameStack.unmark _ _) | fail "no")
  k_fill
  k_with "my inst" => (first | exact InstAt.up (by assumption) (Fr.keep (by k_asm)) | fail "no")
  exact ⟨rfl, rfl⟩
noncomputable def kb (x : Str) : Bool := x == S "ep" || x == S "di"
noncomputable def vis (b : Bool) (v : Value) : Prop := if b = true then ∃ c, v = .bool c else ∃ a t, v = .str a t
theorem vis_vkin {b : Bool} {x v : Value} (hx : vis b x) (hv : vis b v) : vkin x v := by
  cases b
  · obtain ⟨a, t, rfl⟩ := hx; obtain ⟨c, u, rfl⟩ := hv; exact .inl ⟨a, t, c, u, rfl, rfl⟩
  · obtain ⟨a, rfl⟩ := hx; obtain ⟨c, rfl⟩ := hv; exact .inr ⟨a, c, rfl, rfl⟩
noncomputable def N6 : List Str := [S "gc", S "ea", S "gcb", S "ep", S "di", S "incb"]
structure DatM (w : World) (h : Heap) (d : Addr) (D : DS) (ms : Str → Option MS) (sem : Str → Int → DV) (n : Nat) : Prop where
  inst : PySem.W.InstAt h d (instObj 291 D.dd) 291 (some (dictOf (ddEs w D) D.n))
  dfl : h.DictOf (strKind pw w) D.df D.kd
  maps : h.DictOf (strKind pw w) D.dm D.km
  lo : (D.df == sysModules) = false ∧ (D.dm == sysModules) = false
  len : D.km.length ≤ n
  val : ∀ x, valueAt D.km x = (ms x).map fun M => .ref M.rm
  each : ∀ x M, ms x = some M → M.At w h ∧ (∀ y ∈ M.xs, vis (kb x) y) ∧ M.ns.length ≤ 2 * n + 1 ∧ ∀ z, 0 ≤ z → look M.ns M.xs z = some (sem x z)
  none : ∀ x ∈ N6, ms x = none → vis (kb x) ((valueAt D.kd x).getD .none) ∧ ∀ z, 0 ≤ z → dval ((valueAt D.kd x).getD .none) = sem x z
  ap0 : D.dm ≠ D.dd ∧ D.dm ≠ D.df
  ap1 : ∀ x M, ms x = some M → M.rd ≠ D.dm ∧ M.rd ≠ D.dd ∧ M.rd ≠ D.df
  ap2 : ∀ x y M M', ms x = some M → ms y = some M' → x ≠ y → M.rd ≠ M'.rd
inductive Sup (D : DS) (ms : Str → Option MS) (d : Addr) : Addr → Prop
  | d : Sup D ms d d
  | dd : Sup D ms d D.dd
  | df : Sup D ms d D.df
  | dm : Sup D ms d D.dm
  | rm {x M} : ms x = some M → Sup D ms d M.rm
  | rd {x M} : ms x = some M → Sup D ms d M.rd
  | ls {x M} : ms x = some M → Sup D ms d M.ls
  | lv {x M} : ms x = some M → Sup D ms d M.lv
theorem InstAt.agree {h h' : Heap} {x C dd : Addr} {od : Obj} (I : PySem.W.InstAt h x (instObj C dd) C (some od)) (k1 : ∀ o, h.get? x = some o → h'.get? x = some o) (k2 : ∀ o, h.get? dd = some o → h'.get? dd = some o) :
    PySem.W.InstAt h' x (instObj C dd) C (some od) := ⟨k1 _ I.at_, I.cls, I.no, k2 _ I.dict⟩
theorem dictOf_agree {w : World} {h h' : Heap} {a : Addr} {kvs : List (Str × Value)} (x : h.DictOf (strKind pw w) a kvs) (k : ∀ o, h.get? a = some o → h'.get? a = some o) : h'.DictOf (strKind pw w) a kvs :=
  let ⟨o, es, ep, ho, r⟩ := x; ⟨o, es, ep, k o ho, r⟩
theorem MS.At.agree {M : MS} {w : World} {h h' : Heap} (x : M.At w h) (k1 : ∀ o, h.get? M.rm = some o → h'.get? M.rm = some o) (k2 : ∀ o, h.get? M.rd = some o → h'.get? M.rd = some o)
    (k3 : ∀ o, h.get? M.ls = some o → h'.get? M.ls = some o) (k4 : ∀ o, h.get? M.lv = some o → h'.get? M.lv = some o) : M.At w h' :=
  { x with inst := InstAt.agree x.inst k1 k2, sl := x.sl.at k3, vl := x.vl.at k4 }
theorem DatM.agree {w : World} {h h' : Heap} {d : Addr} {D : DS} {ms : Str → Option MS} {sem : Str → Int → DV} {n : Nat} (x : DatM w h d D ms sem n) (k : ∀ b o, Sup D ms d b → h.get? b = some o → h'.get? b = some o) : DatM w h' d D ms sem n :=
  { x with
    inst := InstAt.agree x.inst (k _ · .d) (k _ · .dd), dfl := dictOf_agree x.dfl (k _ · .df), maps := dictOf_agree x.maps (k _ · .dm)
    each := fun y M e => let ⟨a, b⟩ := x.each y M e; ⟨a.agree (k _ · (.rm e)) (k _ · (.rd e)) (k _ · (.ls e)) (k _ · (.lv e)), b⟩ }
theorem DatM.keep {w : World} {h h' : Heap} {d : Addr} {D : DS} {ms : Str → Option MS} {sem : Str → Int → DV} {n : Nat} (x : DatM w h d D ms sem n) (k : Kp h h') : DatM w h' d D ms sem n := x.agree fun b o _ e => k b o e
theorem get_cc {w : World} {base : Heap} (G : Gr w base) (d : Addr) (D : DS) (ms : Str → Option MS) (sem : Str → Int → DV) (n : Nat) (x : Str) (t : Tok) (c : Int) (t' : Tok) (hx : x ∈ N6) (hc : 0 ≤ c) :
   CC w base 281 [.ref d, .str x t, .int c t'] 3 (fun h => DatM w h d D ms sem n) (fun h v h' => Kp h h' ∧ dval v = sem x c ∧ vis (kb x) v) := by
  have G' := G
  obtain ⟨X, p, loose, mean, mg, mb, T⟩ := G
  intro dp un fr gd s Q E hdp hun hb hp hret
  w_on
  k_dflt (refine enter (binds := [(Str.ofString "self", .ref d), (Str.ofString "name", .str x t), (Str.ofString "code", .int c t')]) [] X T hb (fun _ h => nomatch h) (by k_is) (by k_is) (by show dp < recursionLimit; omega) (BindsTo.of_eq rfl) (locs rfl) (fun E9 Q9 g L h₁ g9s d9r t9k o9s hQ9 hE9 hP9 hA9 hB hG X' T' F' N' hL => ?_))
  try dsimp only
  have hk : Kp s.heap g := fun b o e => hG _ _ e (fun h => nomatch h)
  have P := hp.keep hk
  have I' := P.inst
  have hv := P.val x
  k_unmd
  try k_fold
  k_with "subscriptTail" => (refine d_item P.maps (by k_asm) (by assumption) ?_)
  k_with "getMethod ref" => (refine d_getm P.dfl (by k_asm) ?_)
  k_with "call builtin:dict.get" => (refine d_get P.dfl (by k_asm) P.lo.1 ?_)
  cases hm : ms x with
  | none =>
    rw [hm] at hv
    k_with "compareOp In str ref" => (refine d_in P.maps (by k_asm) P.lo.2 false (by rw [hv]; rfl) ?_)
    k_steps
    all_goals (try ((with_reducible refine hQ9 _ _ _ ?_); (try dsimp only)))
    all_goals (try dsimp only)
    all_goals (refine pure_end (s := s) (R := fun v => dval v = sem x c ∧ vis (kb x) v) hret hG (by assumption) ?_)
    all_goals (have z := P.none x hx hm; exact ⟨z.2 c hc, z.1⟩)
  | some M =>
    rw [hm] at hv
    dsimp only [Option.map] at hv
    obtain ⟨hM, hk2, hl2, hs2⟩ := P.each x M hm
    have I2 := hM.inst
    k_with "compareOp In str ref" => (refine d_in P.maps (by k_asm) P.lo.2 true (by rw [hv]; rfl) ?_)
    k_with "call ref" => ((refine' use_pure (rget_cc G' M.rm M.rd M.ls M.lv M.t0 M.t1 M.t2 M.dv M.n M.vs M.ns M.xs c t' hc) hB ?kF ?kN ?kp ?kd ?ku ?_); (case kF => k_asm); (case kN => k_asm); (case kp => exact hM.keep (Fr.keep (by k_asm))); (case kd => k_dflt (exact lim1 hdp rfl)); (case ku => k_dflt (exact lim3 hun rfl)); intro v9 h9 tk9 hR9 hk9 F9 N9; k_sweep)
    k_steps
    all_goals (try ((with_reducible refine hQ9 _ _ _ ?_); (try dsimp only)))
    all_goals (try dsimp only)
    all_goals (refine pure_end (s := s) (R := fun v => dval v = sem x c ∧ vis (kb x) v) hret hG (by assumption) ?_)
    all_goals (rename M.xs[cnt M.ns c - 1]? = some _ => hq; refine ⟨?_, hk2 _ (List.mem_of_getElem? hq)⟩; have z := hs2 c hc; rw [look, hq] at z; exact Option.some.inj z)
end Mine

end

section
open PySem PySem.W PyProof.Rows PySem.Calls
namespace Mine
set_option maxRecDepth 100000
set_option maxHeartbeats 0
theorem fill9a : PySem.Challenge.rw_pb0596_01.foot = 6 ∧ K9 = K9 := by
  k_with_none
  k_with "my ne" => (first | (with_reducible first | assumption | exact Ne.symm (by assumption) | exact Mine.nr1 (by assumption) | exact Mine.ns1 (by assumption) | exact Mine.nt1 (by assumption) | exact Mine.nu1 (by assumption) | exact Mine.nr2 (by assumption) | exact Mine.ns2 (by assumption) | exact Mine.nt2 (by assumption) | exact Mine.nu2 (by assumption) | exact Mine.nr3 (by assumption) | exact Mine.ns3 (by assumption) | exact Mine.nt3 (by assumption) | exact Mine.nu3 (by assumption) | exact Mine.nr4 (by assumption) | exact Mine.ns4 (by assumption) | exact Mine.nt4 (by assumption) | exact Mine.nu4 (by assumption) | exact Mine.nr5 (by assumption) | exact Mine.ns5 (by assumption) | exact Mine.nt5 (by assumption) | exact Mine.nu5 (by assumption) | exact Mine.nr6 (by assumption) | exact Mine.ns6 (by assumption) | exact Mine.nt6 (by assumption) | exact Mine.nu6 (by assumption) | exact Mine.nr7 (by assumption) | exact Mine.ns7 (by assumption) | exact Mine.nt7 (by assumption) | exact Mine.nu7 (by assumption) | exact Mine.nr8 (by assumption) | exact Mine.ns8 (by assumption) | exact Mine.nt8 (by assumption) | exact Mine.nu8 (by assumption) | exact Mine.nr9 (by assumption) | exact Mine.ns9 (by assumption) | exact Mine.nr10 (by assumption) | exact Mine.ns10 (by assumption) | exact Mine.nr11 (by assumption) | exact Mine.ns11 (by assumption) | exact Mine.nr12 (by assumption) | exact Mine.ns12 (by assumption) | exact Mine.nw1 (by assumption) | exact Mine.nw2 (by assumption) | exact Mine.nw3 (by assumption) | exact Mine.nw4 (by assumption) | exact Mine.nw5 (by assumption) | exact Mine.nw6 (by assumption) | exact Mine.nk1 (by assumption) | exact Mine.nk2 (by assumption) | exact Mine.nk3 (by assumption) | exact Mine.nk4 (by assumption)) | fail "no")
  k_with "my om" => (first | ((with_reducible show @Eq Int _ _); with_reducible first | assumption | exact Eq.symm (by assumption) | exact Int.toNat_of_nonneg (by assumption)) | fail "no")
  k_with "my om" => (first | ((with_reducible show And (@LE.le Int _ _ _) _); with_reducible first | assumption | (refine Mine.i2 (by assumption) ?_; omega) | (refine Mine.i2' (by assumption) ?_; omega)) | fail "no")
  k_with "my om" => (first | ((with_reducible show @LT.lt Int _ _ _); first | (with_reducible first | assumption | exact Mine.i1' (by assumption) | exact Int.ofNat_lt.mpr (by assumption) | exact And.left (by assumption) | exact And.right (by assumption) | exact Int.lt_of_not_le (by assumption)) | decide +kernel) | fail "no")
  k_with "my om" => (first | ((with_reducible show @LE.le Int _ _ _); first | (with_reducible first | assumption | exact Int.natCast_nonneg _ | exact Int.le_refl _ | exact Mine.i1 _ | exact Int.ofNat_le.mpr (by assumption) | exact Mine.i6 (by assumption) (by assumption) | (refine Mine.i7 ?_; omega) | exact And.left (by assumption) | exact And.right (by assumption) | exact Int.le_of_not_lt (by assumption) | exact Int.le_of_lt (by assumption)) | decide +kernel) | fail "no")
  k_with "my om" => (first | ((with_reducible show @Eq Nat _ _); with_reducible first | assumption | exact Eq.symm (by assumption) | exact Mine.i5 (by assumption) | exact Mine.i4 _ | exact Mine.i3 _ | exact Eq.symm (Mine.i4 _) | exact Nat.add_sub_cancel_left .. | exact Nat.min_eq_left (by assumption) | exact Eq.trans (by assumption) (by assumption) | exact Eq.trans (Eq.symm (by assumption)) (by assumption) | exact Eq.trans (by assumption) (Eq.symm (by assumption))) | fail "no")
  k_with "my om" => (first | ((with_reducible show @LT.lt Nat _ _ _); with_reducible first | assumption | exact Mine.np (by assumption) | exact Mine.nq (by assumption) rfl | exact Mine.nv (by assumption) rfl | exact Mine.ia (by assumption) (by assumption) | exact Mine.ib (by assumption) (by assumption) | exact Nat.lt_of_lt_of_le (by assumption) (by assumption) | exact Nat.succ_lt_succ (by assumption) | exact And.left (by assumption) | exact And.right (by assumption) | exact Nat.lt_of_not_le (by assumption) | exact Mine.ia (Mine.ia (by assumption) (by assumption)) (by assumption) | exact Mine.ib (Mine.ia (by assumption) (by assumption)) (by assumption) | exact Mine.ia (Mine.ib (by assumption) (by assumption)) (by assumption) | exact Mine.ib (Mine.ib (by assumption) (by assumption)) (by assumption)) | fail "no")
  k_with "my om" => (first | ((with_reducible show @LE.le Nat _ _ _); first | (with_reducible first | assumption | exact Mine.nc (by assumption) rfl | exact Nat.le_refl _ | exact Mine.nl (by assumption) (by assumption) | exact Mine.nm (by assumption) (by assumption) | exact Mine.nn (by assumption) (by assumption) | exact Mine.nn (by assumption) (Mine.nc (by assumption) rfl) | exact Mine.nl (by assumption) (Mine.nc (by assumption) rfl) | exact Mine.nm (by assumption) (Mine.nc (by assumption) rfl) | exact Mine.nl (by assumption) (Mine.nl (by assumption) (Mine.nc (by assumption) rfl)) | exact Mine.nl (by assumption) (Mine.nn (by assumption) (Mine.nc (by assumption) rfl)) | exact Mine.nm (by assumption) (Mine.nn (by assumption) (Mine.nc (by assumption) rfl)) | exact Mine.nl (by assumption) (Mine.nm (by assumption) (Mine.nc (by assumption) rfl)) | exact Mine.nm (by assumption) (Mine.nl (by assumption) (Mine.nc (by assumption) rfl)) | exact Mine.nm (by assumption) (Mine.nm (by assumption) (Mine.nc (by assumption) rfl)) | exact Nat.le_add_right _ _ | exact Nat.succ_le_succ (by assumption) | exact Nat.le_of_eq (by assumption) | exact Nat.le_of_eq (Eq.symm (by assumption)) | exact Nat.le_succ_of_le (by assumption) | exact Nat.le_of_not_lt (by assumption) | exact Int.toNat_le_toNat (by assumption) | exact Mine.ig (by assumption) (by assumption) rfl | exact Mine.ih (by assumption) (by assumption) rfl | exact And.left (by assumption) | exact And.right (by assumption) | (refine Mine.ie ?_ (by assumption); omega) | (refine Mine.ie' ?_ (by assumption); omega) | (refine Mine.id1 ?_; omega) | (refine Mine.ij ?_; omega) | (refine Mine.ic (by assumption) rfl ?_; omega)) | exact Mine.nz rfl) | fail "no")
  k_with "my own" => (first | assumption | exact Mine.PAt.of (by assumption) (PySem.SameStack.mark _ _) | exact Mine.PAt.of (by assumption) (PySem.SameStack.unmark _ _) | fail "no")
  k_fill
  k_with "my inst" => (first | exact InstAt.mix (by assumption) (by k_asm) (by k_asm) (by k_mem) | fail "no")
  exact ⟨rfl, rfl⟩
noncomputable def CI (w : World) (base : Heap) (f : Addr) (args : List Value) (dep : Nat) (pre : Heap → Prop) (post : Heap → Heap → Prop) : Prop :=
  ∀ (dp un : Nat) (fr : Option (List Env)) (gd : Option (List Code)) (s : Shared) (R : Result → Shared → Prop), dp + dep < recursionLimit → un + 8 * dep < cLine → Kp base s.heap → pre s.heap →
    (∀ h' tk', post s.heap h' → R (.ok (.ret .none)) { s with heap := h', toks := tk' }) → codeAny (model pw w) (Ar dp un fr gd) (.call (.ref f) ⟨args, []⟩) R s
section
variable {w : World} {base : Heap} {s : Shared} {A : Around} {R : Result → Shared → Prop} {p : Program} {loose : List Str} {mean : ExcName → Option Value} {mg mb : Str → Option Value}
  {name qual : Str} {params : Arguments} {body : List Stmt} {scope : Scope} {dV kV doc pm cdv ct oc : Value} {an od : Option Addr} {osl : Array (Option Value)} {f : Addr} {args : List Value} {binds : List (Str × Value)}
theorem enterI (led : List (Addr × Obj)) (X : Frag.In (K9 w.params) base) (T : Top p loose mean mg mb base) (hb : Kp base s.heap) (hn : ∀ p ∈ led, s.heap.get? p.1 = some p.2 ∧ base.get? p.1 = none)
    (ho : (K9 w.params).lookup f = some ⟨oc, od, .func (fnOf name qual params body scope dV kV doc pm an cdv ct), osl⟩) (hcd : codeIn (K9 w.params) cdv qual = true) (hroom : A.depth < recursionLimit)
    (hbind : BindsTo s (fnOf name qual params body scope dV kV doc pm an cdv ct) ⟨args, []⟩ binds) (hloc : ∀ y ∈ binds, scope.names.lookup y.1 = some .local)
    (h : ∀ (E9 : Value → Shared → Prop) (Q9 : Flow → Shared → Prop) g L h₁ gs dr tk0 os, (∀ fl h' tk', R (.ok (.ret (match fl with | .ret v => v | _ => .none))) { s with heap := h', toks := tk' } → Q9 fl ⟨h', gs, dr, tk', os⟩) → (∀ e h' tk', wpAny (model pw w) (A.deeper (envOf qual scope L f cdv)) (leaving (envOf qual scope L f cdv) e) (fun _ s'' => R (.error e) s'') (fun e' s'' => R (.error e') s'') { s with heap := h', toks := tk' } → E9 e ⟨h', gs, dr, tk', os⟩) → PassesOwn (model pw w) (A.deeper (envOf qual scope L f cdv)) (envOf qual scope L f cdv) E9 → PAt (model pw w) (A.deeper (envOf qual scope L f cdv)) (envOf qual scope L f cdv) E9 → Kp base g → (∀ b o, s.heap.get? b = some o → b ∉ led.map (·.1) → g.get? b = some o) → Frag.In (K9 w.params) g → Top p loose mean mg mb g → Fr g L h₁ (fun y => binds.reverse.lookup y) → News g L h₁ led → s.heap.get? L = none →
      wpAny (model pw w) (A.deeper (envOf qual scope L f cdv)) (execs body (envOf qual scope L f cdv))
        Q9 E9 ⟨h₁, gs, dr, tk0, os⟩)
    (hco : scope.isCoroutine = false := by rfl) (hgen : scope.isGenerator = false := by rfl) (hk : scope.kind = .function := by rfl)
    (hcell : ∀ x ∈ scope.names, x.2 ≠ .cell := by decide) : codeAny (model pw w) A (.call (.ref f) ⟨args, []⟩) R s := by
  have hg : Kp base (hideAll s.heap (led.map (·.1))) := fun b o e => hideAll_get _ (hb b o e) fun hm => by
    obtain ⟨q, hq, rfl⟩ := List.mem_map.mp hm
    rw [(hn q hq).2] at e; cases e
  refine codeAny_call_def (fd := fnOf name qual params body scope dV kV doc pm an cdv ct) (body := body) (binds := binds) hroom (hb _ _ (X _ _ ho)) rfl (T.nolimit.keeps hb) (codeRec_of (X.keeps hb) hcd) rfl hbind hcell hloc (fun h₁ hns hk₁ => ?_) hco hgen hk
  exact h _ _ (hideAll s.heap (led.map (·.1))) s.heap.objs.size h₁ s.gens s.drawn (s.toks + binds.length) s.os (fun _ _ _ z => z) (fun _ _ _ z => z) PassesOwn.leaving (fun _ k => PassesOwnAt.leavingOf k) hg (fun b o e hb => hideAll_get _ e hb) (X.keeps hg) (T.keeps hg)
    ⟨hns, fun b o e => hk₁ b o (of_hideAll _ e), Nat.le_of_eq (hideAll_size _ _)⟩
    (fun p hp => ⟨hk₁ _ _ (hn p hp).1, Nat.ne_of_lt (Heap.lt_size (hn p hp).1), hideAll_none _ (List.mem_map_of_mem hp)⟩)
    (by cases hq : s.heap.get? s.heap.objs.size with
        | none => rfl
        | some o => exact absurd (Heap.lt_size hq) (Nat.lt_irrefl _))
end
theorem fresh_list {s : Heap} {g h' : Heap} {L dx a : Addr} {od : Obj} {its : Array Value} {n : Nat} {news : List (Addr × Obj)} {es : List DictEntry} {k : Nat} (hG : ∀ b o, s.get? b = some o → ¬ b ∈ List.map (fun x => x.fst) [(dx, od)] → g.get? b = some o)
    (N : News g L h' news) (m1 : (dx, dictOf es k) ∈ news) (m2 : (a, PySem.W.listOf its n) ∈ news) : s.get? a = none := by
  cases e : s.get? a with
  | none => rfl
  | some o =>
    by_cases hb : a = dx
    · subst hb
      have e1 := (N _ m2).1
      have e2 := (N _ m1).1
      rw [e1] at e2
      have := congrArg Obj.cls (Option.some.inj e2)
      simp at this
    · have e1 := hG a o e (by simpa using hb)
      rw [(N _ m2).2.2] at e1
      cases e1
theorem rinit_fin {w : World} {s : Shared} {Q : Result → Shared → Prop} {g h' : Heap} {L x dx ls lv : Addr} {t0 t1 t2 t : Tok} {v : Value} {n n1 n2 tk : Nat} {m : Str → Option Value} {news : List (Addr × Obj)}
    (hret : ∀ (h' : Heap) (tk' : Nat), (∃ M : MS, M.At w h' ∧ M.rm = x ∧ M.rd = dx ∧ M.ns = [0] ∧ M.xs = [v] ∧ s.heap.get? M.ls = none ∧ s.heap.get? M.lv = none ∧ (∀ b o, b ≠ dx → s.heap.get? b = some o → h'.get? b = some o)) → Q (.ok (.ret .none)) { s with heap := h', toks := tk' })
    (hG : ∀ b o, s.heap.get? b = some o → ¬ b ∈ List.map (fun x => x.fst) [(dx, dictOf [] 0)] → g.get? b = some o) (hxg : g.get? x = some (instObj 242 dx)) (F : Fr g L h' m) (N : News g L h' news)
    (m1 : (dx, dictOf (rdEs w t0 t1 t2 v ls lv) n) ∈ news) (m2 : (ls, PySem.W.listOf #[.int 0 t] n1) ∈ news) (m3 : (lv, PySem.W.listOf #[v] n2) ∈ news) : Q (.ok (.ret .none)) { s with heap := h', toks := tk } :=
  hret _ _ ⟨⟨x, dx, ls, lv, t0, t1, t2, v, n, [.int 0 t], [0], [v]⟩,
    ⟨⟨F.keep _ _ hxg, rfl, rfl, (N _ m1).1⟩, ⟨_, (N _ m2).1, rfl, _, rfl⟩, .cons _ _ .nil, ⟨_, (N _ m3).1, rfl, _, rfl⟩, rfl, by show 1 ≤ 100; decide, by show Asc [0]; simp [asc_iff], ⟨rfl, by show 0 < 1; decide⟩⟩, rfl, rfl, rfl, rfl,
    fresh_list hG N m1 m2, fresh_list hG N m1 m3, fun b o hb e => F.keep b o (hG b o e (by simpa using hb))⟩
theorem rinit_cc {w : World} {base : Heap} (G : Gr w base) (x dx : Addr) (v : Value) (hnb : base.get? dx = none) :
   CI w base 211 [.ref x, v] 1 (fun h => h.get? x = some (instObj 242 dx) ∧ h.get? dx = some (dictOf [] 0))
    (fun h h' => ∃ M : MS, M.At w h' ∧ M.rm = x ∧ M.rd = dx ∧ M.ns = [0] ∧ M.xs = [v] ∧ h.get? M.ls = none ∧ h.get? M.lv = none ∧ (∀ b o, b ≠ dx → h.get? b = some o → h'.get? b = some o)) := by
  have G' := G
  obtain ⟨X, p, loose, mean, mg, mb, T⟩ := G
  intro dp un fr gd s Q hdp hun hb hp hret
  obtain ⟨hx, hdx⟩ := hp
  w_on
  k_dflt (refine enterI (binds := [(Str.ofString "self", .ref x), (Str.ofString "default", v)]) [(dx, dictOf [] 0)] X T hb (fun q hq => by rw [List.mem_singleton.mp hq]; exact ⟨hdx, hnb⟩) (by k_is) (by k_is) (by show dp < recursionLimit; omega) (BindsTo.of_eq rfl) (locs rfl) (fun E9 Q9 g L h₁ g9s d9r t9k o9s hQ9 hE9 hP9 hA9 hB hG X' T' F' N' hL => ?_))
  try dsimp only
  have hxg : g.get? x = some (instObj 242 dx) := hG _ _ hx (by
    intro hm
    have e : x = dx := by simpa using hm
    rw [e, hdx] at hx
    cases hx)
  k_unmd
  try k_fold
  k_steps
  all_goals (try ((with_reducible refine hQ9 _ _ _ ?_); (try dsimp only)))
  all_goals (exact rinit_fin hret hG hxg (by assumption) (by assumption) (by k_mem) (by k_mem) (by k_mem))
theorem MS.At.objs {M : MS} {w : World} {h : Heap} (x : M.At w h) : ∃ o3 o4, h.get? M.rm = some (instObj 242 M.rd) ∧ h.get? M.rd = some (dictOf (rdEs w M.t0 M.t1 M.t2 M.dv M.ls M.lv) M.n) ∧ h.get? M.ls = some o3 ∧ h.get? M.lv = some o4 ∧
    ∀ k : Heap, k.get? M.rm = some (instObj 242 M.rd) → k.get? M.rd = some (dictOf (rdEs w M.t0 M.t1 M.t2 M.dv M.ls M.lv) M.n) → k.get? M.ls = some o3 → k.get? M.lv = some o4 → M.At w k := by
  obtain ⟨o3, h3, r3⟩ := x.sl
  obtain ⟨o4, h4, r4⟩ := x.vl
  exact ⟨o3, o4, x.inst.at_, x.inst.dict, h3, h4, fun k a b c d => { x with inst := ⟨a, rfl, rfl, b⟩, sl := ⟨o3, c, r3⟩, vl := ⟨o4, d, r4⟩ }⟩
theorem none_g {g h : Heap} {L a : Addr} {m : Str → Option Value} (F : Fr g L h m) (e : h.get? a = none) : g.get? a = none := by
  cases q : g.get? a with
  | none => rfl
  | some o => have := F.keep a o q; rw [e] at this; cases this
theorem new_map {w : World} {base g : Heap} {s : Shared} {L : Addr} {m : Str → Option Value} {news : List (Addr × Obj)} {v : Value} {Q E : Value → Shared → Prop} {dp un : Nat} {fr : Option (List Env)} {gd : Option (List Code)} (G : Gr w base) (hB : Kp base g) (X : Frag.In (K9 w.params) g) (hmk : makesIn (K9 w.params) 242 = true) (hi : findIn (K9 w.params) (.ref 242) "__init__" = some (some (.ref 211))) (hf : isFn (K9 w.params) (.ref 211) = true)
    (F : Fr g L s.heap m) (N : News g L s.heap news) (hdp : dp + 2 < recursionLimit) (hun : un + 24 < cLine)
    (h : ∀ (M : MS) h' tk' o3 o4, M.ns = [0] → M.xs = [v] → Fr g L h' m → News g L h' ((M.lv, o4) :: (M.ls, o3) :: (M.rm, instObj 242 M.rd) :: (M.rd, dictOf (rdEs w M.t0 M.t1 M.t2 M.dv M.ls M.lv) M.n) :: news) →
      (∀ k : Heap, k.get? M.rm = some (instObj 242 M.rd) → k.get? M.rd = some (dictOf (rdEs w M.t0 M.t1 M.t2 M.dv M.ls M.lv) M.n) → k.get? M.ls = some o3 → k.get? M.lv = some o4 → M.At w k) →
      (∀ p ∈ news, (@Ne Nat p.1 M.rm) ∧ (@Ne Nat p.1 M.rd) ∧ (@Ne Nat p.1 M.ls) ∧ (@Ne Nat p.1 M.lv)) → Q (.ref M.rm) { s with heap := h', toks := tk' }) :
    wpAny (model pw w) (Ar dp un fr gd) (call (.ref 242) [v]) Q E s := by
  refine call_cls F X N hmk hi hf fun x dx h1 F1 N1 l1 l2 => ?_
  have nd := N1 (dx, dictOf [] 0) (by k_mem)
  have nx := N1 (x, instObj 242 dx) (by k_mem)
  have hdx0 : base.get? dx = none := by
    cases q : base.get? dx with
    | none => rfl
    | some o => have := hB _ _ q; rw [nd.2.2] at this; cases this
  refine rinit_cc G x dx v hdx0 _ _ _ _ _ _ ?_ ?_ (hB.trans F1.keep) ⟨nx.1, nd.1⟩ ?_
  · exact hdp
  · have hcu : (Code.builtin "type.__call__" ⟨[Value.ref 242, v], []⟩).cUnits ≤ 16 := Nat.le_of_ble_eq_true rfl
    show un + (Code.builtin "type.__call__" ⟨[Value.ref 242, v], []⟩).cUnits + 8 * 1 < cLine; omega
  · rintro h' tk' ⟨M, hM, rfl, rfl, e1, e2, f1, f2, kp⟩
    obtain ⟨o3, o4, a1, a2, a3, a4, hA⟩ := hM.objs
    have F2 : Fr g L h' m := ⟨F1.ns.at' fun o e => kp L o (Ne.symm nd.2.1) e, fun b o e => kp b o (fun q => by rw [q, nd.2.2] at e; cases e) (F1.keep b o e), F1.above⟩
    have hL : ∀ a, h1.get? a = none → a ≠ L := fun a e q => by
      subst q
      obtain ⟨o, _, _, e', _⟩ := F1.ns
      rw [e] at e'; cases e'
    have off : ∀ p ∈ news, (@Ne Nat p.1 M.rm) ∧ (@Ne Nat p.1 M.rd) ∧ (@Ne Nat p.1 M.ls) ∧ (@Ne Nat p.1 M.lv) := fun p hp => by
      have z := (N1 p (by exact .tail _ (.tail _ hp))).1
      refine ⟨Nat.ne_of_lt (Nat.lt_trans (l1 p hp) l2), Nat.ne_of_lt (l1 p hp), fun q => ?_, fun q => ?_⟩
      · rw [show p.1 = M.ls from q, f1] at z; cases z
      · rw [show p.1 = M.lv from q, f2] at z; cases z
    refine ⟨rfl, h M h' tk' o3 o4 e1 e2 F2 (fun p hp => ?_) hA off⟩
    rcases List.mem_cons.mp hp with rfl | hp
    · exact ⟨a4, hL _ f2, none_g F1 f2⟩
    rcases List.mem_cons.mp hp with rfl | hp
    · exact ⟨a3, hL _ f1, none_g F1 f1⟩
    rcases List.mem_cons.mp hp with rfl | hp
    · exact ⟨a1, nx.2⟩
    rcases List.mem_cons.mp hp with rfl | hp
    · exact ⟨a2, nd.2⟩
    · have z := N1 p (.tail _ (.tail _ hp))
      exact ⟨kp _ _ (off p hp).2.1 z.1, z.2⟩
end Mine

end

section
open PySem PySem.W PyProof.Rows PySem.Calls
namespace Mine
set_option maxRecDepth 100000
set_option maxHeartbeats 0
theorem fill9 : PySem.Challenge.rw_pb0596_01.foot = 6 ∧ K9 = K9 := by
  k_with_none
  k_with "my ne" => (first | (with_reducible first | assumption | exact Ne.symm (by assumption) | exact Mine.nr1 (by assumption) | exact Mine.ns1 (by assumption) | exact Mine.nt1 (by assumption) | exact Mine.nu1 (by assumption) | exact Mine.nr2 (by assumption) | exact Mine.ns2 (by assumption) | exact Mine.nt2 (by assumption) | exact Mine.nu2 (by assumption) | exact Mine.nr3 (by assumption) | exact Mine.ns3 (by assumption) | exact Mine.nt3 (by assumption) | exact Mine.nu3 (by assumption) | exact Mine.nr4 (by assumption) | exact Mine.ns4 (by assumption) | exact Mine.nt4 (by assumption) | exact Mine.nu4 (by assumption) | exact Mine.nr5 (by assumption) | exact Mine.ns5 (by assumption) | exact Mine.nt5 (by assumption) | exact Mine.nu5 (by assumption) | exact Mine.nr6 (by assumption) | exact Mine.ns6 (by assumption) | exact Mine.nt6 (by assumption) | exact Mine.nu6 (by assumption) | exact Mine.nr7 (by assumption) | exact Mine.ns7 (by assumption) | exact Mine.nt7 (by assumption) | exact Mine.nu7 (by assumption) | exact Mine.nr8 (by assumption) | exact Mine.ns8 (by assumption) | exact Mine.nt8 (by assumption) | exact Mine.nu8 (by assumption) | exact Mine.nr9 (by assumption) | exact Mine.ns9 (by assumption) | exact Mine.nr10 (by assumption) | exact Mine.ns10 (by assumption) | exact Mine.nr11 (by assumption) | exact Mine.ns11 (by assumption) | exact Mine.nr12 (by assumption) | exact Mine.ns12 (by assumption) | exact Mine.nw1 (by assumption) | exact Mine.nw2 (by assumption) | exact Mine.nw3 (by assumption) | exact Mine.nw4 (by assumption) | exact Mine.nw5 (by assumption) | exact Mine.nw6 (by assumption) | exact Mine.nk1 (by assumption) | exact Mine.nk2 (by assumption) | exact Mine.nk3 (by assumption) | exact Mine.nk4 (by assumption)) | fail "no")
  k_with "my om" => (first | ((with_reducible show @Eq Int _ _); with_reducible first | assumption | exact Eq.symm (by assumption) | exact Int.toNat_of_nonneg (by assumption)) | fail "no")
  k_with "my om" => (first | ((with_reducible show And (@LE.le Int _ _ _) _); with_reducible first | assumption | (refine Mine.i2 (by assumption) ?_; omega) | (refine Mine.i2' (by assumption) ?_; omega)) | fail "no")
  k_with "my om" => (first | ((with_reducible show @LT.lt Int _ _ _); first | (with_reducible first | assumption | exact Mine.i1' (by assumption) | exact Int.ofNat_lt.mpr (by assumption) | exact And.left (by assumption) | exact And.right (by assumption) | exact Int.lt_of_not_le (by assumption)) | decide +kernel) | fail "no")
  k_with "my om" => (first | ((with_reducible show @LE.le Int _ _ _); first | (with_reducible first | assumption | exact Int.natCast_nonneg _ | exact Int.le_refl _ | exact Mine.i1 _ | exact Int.ofNat_le.mpr (by assumption) | exact Mine.i6 (by assumption) (by assumption) | (refine Mine.i7 ?_; omega) | exact And.left (by assumption) | exact And.right (by assumption) | exact Int.le_of_not_lt (by assumption) | exact Int.le_of_lt (by assumption)) | decide +kernel) | fail "no")
  k_with "my om" => (first | ((with_reducible show @Eq Nat _ _); with_reducible first | assumption | exact Eq.symm (by assumption) | exact Mine.i5 (by assumption) | exact Mine.i4 _ | exact Mine.i3 _ | exact Eq.symm (Mine.i4 _) | exact Nat.add_sub_cancel_left .. | exact Nat.min_eq_left (by assumption) | exact Eq.trans (by assumption) (by assumption) | exact Eq.trans (Eq.symm (by assumption)) (by assumption) | exact Eq.trans (by assumption) (Eq.symm (by assumption))) | fail "no")
  k_with "my om" => (first | ((with_reducible show @LT.lt Nat _ _ _); with_reducible first | assumption | exact Mine.np (by assumption) | exact Mine.nq (by assumption) rfl | exact Mine.nv (by assumption) rfl | exact Mine.ia (by assumption) (by assumption) | exact Mine.ib (by assumption) (by assumption) | exact Nat.lt_of_lt_of_le (by assumption) (by assumption) | exact Nat.succ_lt_succ (by assumption) | exact And.left (by assumption) | exact And.right (by assumption) | exact Nat.lt_of_not_le (by assumption) | exact Mine.ia (Mine.ia (by assumption) (by assumption)) (by assumption) | exact Mine.ib (Mine.ia (by assumption) (by assumption)) (by assumption) | exact Mine.ia (Mine.ib (by assumption) (by assumption)) (by assumption) | exact Mine.ib (Mine.ib (by assumption) (by assumption)) (by assumption)) | fail "no")
  k_with "my om" => (first | ((with_reducible show @LE.le Nat _ _ _); first | (with_reducible first | assumption | exact Mine.nc (by assumption) rfl | exact Nat.le_refl _ | exact Mine.nl (by assumption) (by assumption) | exact Mine.nm (by assumption) (by assumption) | exact Mine.nn (by assumption) (by assumption) | exact Mine.nn (by assumption) (Mine.nc (by assumption) rfl) | exact Mine.nl (by assumption) (Mine.nc (by assumption) rfl) | exact Mine.nm (by assumption) (Mine.nc (by assumption) rfl) | exact Mine.nl (by assumption) (Mine.nl (by assumption) (Mine.nc (by assumption) rfl)) | exact Mine.nl (by assumption) (Mine.nn (by assumption) (Mine.nc (by assumption) rfl)) | exact Mine.nm (by assumption) (Mine.nn (by assumption) (Mine.nc (by assumption) rfl)) | exact Mine.nl (by assumption) (Mine.nm (by assumption) (Mine.nc (by assumption) rfl)) | exact Mine.nm (by assumption) (Mine.nl (by assumption) (Mine.nc (by assumption) rfl)) | exact Mine.nm (by assumption) (Mine.nm (by assumption) (Mine.nc (by assumption) rfl)) | exact Nat.le_add_right _ _ | exact Nat.succ_le_succ (by assumption) | exact Nat.le_of_eq (by assumption) | exact Nat.le_of_eq (Eq.symm (by assumption)) | exact Nat.le_succ_of_le (by assumption) | exact Nat.le_of_not_lt (by assumption) | exact Int.toNat_le_toNat (by assumption) | exact Mine.ig (by assumption) (by assumption) rfl | exact Mine.ih (by assumption) (by assumption) rfl | exact And.left (by assumption) | exact And.right (by assumption) | (refine Mine.ie ?_ (by assumption); omega) | (refine Mine.ie' ?_ (by assumption); omega) | (refine Mine.id1 ?_; omega) | (refine Mine.ij ?_; omega) | (refine Mine.ic (by assumption) rfl ?_; omega)) | exact Mine.nz rfl) | fail "no")
  k_with "my own" => (first | assumption | exact Mine.PAt.of (by assumption) (PySem.SameStack.mark _ _) | exact Mine.PAt.of (by assumption) (PySem.SameStack.unmark _ _) | fail "no")
  k_fill
  k_with "my inst" => (first | exact InstAt.up (by assumption) (Fr.keep (by k_asm)) | fail "no")
  exact ⟨rfl, rfl⟩
theorem valueAt_nil {K : Type} [DecidableEq K] (y : K) : valueAt ([] : List (K × Value)) y = none := rfl
theorem valueAt_cons {K : Type} [DecidableEq K] (p : K × Value) (l : List (K × Value)) (y : K) : valueAt (p :: l) y = if p.1 = y then some p.2 else valueAt l y := by
  by_cases h : p.1 = y <;> simp [valueAt, List.find?_cons, h]
theorem valueAt_append {K : Type} [DecidableEq K] (l : List (K × Value)) (k : K) (v : Value) (y : K) (hk : l.any (fun kv => kv.1 = k) = false) : valueAt (l ++ [(k, v)]) y = if y = k then some v else valueAt l y := by
  induction l with
  | nil => by_cases h : k = y <;> simp [valueAt_cons, valueAt_nil, h, eq_comm]
  | cons p l ih =>
    simp only [List.any_cons, Bool.or_eq_false_iff, decide_eq_false_iff_not] at hk
    rw [List.cons_append, valueAt_cons, valueAt_cons, ih hk.2]
    by_cases h : p.1 = y
    · have : y ≠ k := fun e => hk.1 (h.trans e)
      simp [h, this]
    · simp [h]
theorem valueAt_map {K : Type} [DecidableEq K] (l : List (K × Value)) (k : K) (v : Value) (y : K) (hk : l.any (fun kv => kv.1 = k) = true) : valueAt (l.map fun kv => if kv.1 = k then (kv.1, v) else kv) y = if y = k then some v else valueAt l y := by
  induction l with
  | nil => simp at hk
  | cons p l ih =>
    rw [List.map_cons, valueAt_cons, valueAt_cons]
    by_cases h : p.1 = k
    · by_cases hy : y = k
      · simp [h, hy]
      · have h1 : ¬ k = y := fun e => hy e.symm
        simp only [h, if_true, h1, if_false, hy]
        by_cases hk2 : l.any (fun kv => kv.1 = k) = true
        · rw [ih hk2]; simp [hy]
        · clear ih
          congr 1
          rw [← List.map_id l]
          simp only [List.map_map]
          refine List.map_congr_left fun q hq => ?_
          have : ¬ q.1 = k := fun e => hk2 (List.any_eq_true.mpr ⟨q, hq, by simp [e]⟩)
          simp [this]
    · have hk2 : l.any (fun kv => kv.1 = k) = true := by simpa [h] using hk
      simp only [h, if_false]
      rw [ih hk2]
      by_cases hy : p.1 = y
      · have : y ≠ k := fun e => h (hy.trans e)
        simp [hy, this]
      · simp [hy]
theorem valueAt_stored {K : Type} [DecidableEq K] (l : List (K × Value)) (k : K) (v : Value) (y : K) : valueAt (stored l k v) y = if y = k then some v else valueAt l y := by
  unfold stored
  by_cases h : l.any (fun kv => kv.1 = k) = true
  · rw [if_pos h]; exact valueAt_map l k v y h
  · rw [if_neg h]; exact valueAt_append l k v y (Bool.eq_false_iff.mpr h)
section
variable {w : World} {h₀ : Heap} {L d : Addr} {m : Str → Option Value} {news : List (Addr × Obj)} {A : Around} {E : Value → Shared → Prop} {s : Shared} {o : Obj} {kvs : List (Str × Value)} {x : Str} {t : Tok} {v : Value}
theorem l_item {value slice : PySem.Expr} {Q : Value → Shared → Prop} (N : News h₀ L s.heap news) (hp : (d, o) ∈ news) (hd : o.IsDictOf (strKind pw w) kvs) (hl : valueAt kvs x = some v) (h : Q v { s with toks := s.toks + 1 })
    (hs : subscripted slice false (.ref d) (.str x t) = operate [.ref d, (.str x t)] (getItem (.ref d) (.str x t)) := by with_unfolding_all rfl) (hg : ∀ r, letTemporaryGo value (.ref d) r = pure () := by intro _; with_unfolding_all rfl) :
    wpAny (model pw w) A (subscriptTail value slice (.ref d) (.str x t)) Q E s := kda_item (knd := strKind pw w) N hp hd (strKind_is _ _ _ _) hl h hs hg
theorem l_in {Q : Value → Shared → Prop} (N : News h₀ L s.heap news) (hp : (d, o) ∈ news) (hd : o.IsDictOf (strKind pw w) kvs) (lo : (d == sysModules) = false) (b : Bool) (hb : (valueAt kvs x).isSome = b) (h : Q (.bool b) { s with toks := s.toks + 1 }) :
    wpAny (model pw w) A (compareOp .In (.str x t) (.ref d)) Q E s := kda_in (knd := strKind pw w) N hp hd lo (strKind_is _ _ _ _) b hb h
theorem l_notin {Q : Value → Shared → Prop} (N : News h₀ L s.heap news) (hp : (d, o) ∈ news) (hd : o.IsDictOf (strKind pw w) kvs) (lo : (d == sysModules) = false) (b : Bool) (hb : (valueAt kvs x).isSome = b) (h : Q (.bool (!b)) { s with toks := s.toks + 1 }) :
    wpAny (model pw w) A (compareOp .NotIn (.str x t) (.ref d)) Q E s := kdg_notin (knd := strKind pw w) N hp hd lo (strKind_is _ _ _ _) b hb h
theorem d_notin {Q : Value → Shared → Prop} (hd : h₀.DictOf (strKind pw w) d kvs) (F : Fr h₀ L s.heap m) (lo : (d == sysModules) = false) (b : Bool) (hb : (valueAt kvs x).isSome = b) (h : Q (.bool (!b)) { s with toks := s.toks + 1 }) :
    wpAny (model pw w) A (compareOp .NotIn (.str x t) (.ref d)) Q E s := wpAny_notIn_of (strKind_is pw w x t) lo (hd.keep F.keep).mapOf (by rw [hb]; exact h)
end
theorem map_some {w : World} {base : Heap} (G : Gr w base) (d : Addr) (D : DS) (ms : Str → Option MS) (sem : Str → Int → DV) (n : Nat) (x : Str) (t : Tok) (M : MS) (hm : ms x = some M) :
   CC w base 288 [.ref d, .str x t] 3 (fun h => DatM w h d D ms sem n) (fun h v h' => Kp h h' ∧ v = .ref M.rm) := by
  have G' := G
  obtain ⟨X, p, loose, mean, mg, mb, T⟩ := G
  intro dp un fr gd s Q E hdp hun hb hp hret
  w_on
  k_dflt (refine enter (binds := [(Str.ofString "self", .ref d), (Str.ofString "name", .str x t)]) [] X T hb (fun _ h => nomatch h) (by k_is) (by k_is) (by show dp < recursionLimit; omega) (BindsTo.of_eq rfl) (locs rfl) (fun E9 Q9 g L h₁ g9s d9r t9k o9s hQ9 hE9 hP9 hA9 hB hG X' T' F' N' hL => ?_))
  try dsimp only
  have hk : Kp s.heap g := fun b o e => hG _ _ e (fun h => nomatch h)
  have P := hp.keep hk
  have I' := P.inst
  have hv := P.val x
  rw [hm] at hv
  dsimp only [Option.map] at hv
  k_unmd
  try k_fold
  k_with "subscriptTail" => (refine d_item P.maps (by k_asm) (by assumption) ?_)
  k_with "compareOp NotIn str ref" => (refine d_notin P.maps (by k_asm) P.lo.2 true (by rw [hv]; rfl) ?_)
  k_steps
  all_goals (try ((with_reducible refine hQ9 _ _ _ ?_); (try dsimp only)))
  all_goals (try dsimp only)
  all_goals (refine pure_end (s := s) (R := fun v => v = .ref M.rm) hret hG (by assumption) rfl)
theorem off_none {h g : Heap} {dm a : Addr} (hk : ∀ b o, b ≠ dm → h.get? b = some o → g.get? b = some o) (hg : g.get? a = none) (ha : a ≠ dm) : h.get? a = none := by
  cases e : h.get? a with
  | none => rfl
  | some o => have := hk a o ha e; rw [hg] at this; cases this
noncomputable def NewMap (w : World) (h h' : Heap) (D : DS) (x : Str) (v : Value) (M : MS) : Prop :=
  M.At w h' ∧ M.ns = [0] ∧ M.xs = [v] ∧ h'.DictOf (strKind pw w) D.dm (stored D.km x (.ref M.rm)) ∧ (∀ b o, b ≠ D.dm → h.get? b = some o → h'.get? b = some o) ∧ h.get? M.rm = none ∧ h.get? M.rd = none ∧ h.get? M.ls = none ∧ h.get? M.lv = none
theorem map_none {w : World} {base : Heap} (G : Gr w base) (d : Addr) (D : DS) (ms : Str → Option MS) (sem : Str → Int → DV) (n : Nat) (x : Str) (t : Tok) (hm : ms x = none) (hn : n ≤ 100) (hnb : base.get? D.dm = none) (v0 : Value) (hv0 : (valueAt D.kd x).getD .none = v0) :
   CC w base 288 [.ref d, .str x t] 4 (fun h => DatM w h d D ms sem n) (fun h v h' => ∃ M : MS, v = .ref M.rm ∧ NewMap w h h' D x v0 M) := by
  have G' := G
  obtain ⟨X, p, loose, mean, mg, mb, T⟩ := G
  intro dp un fr gd s Q E hdp hun hb hp hret
  obtain ⟨od, hod, hisd⟩ := Heap.dictOf_iff.mp hp.maps
  w_on
  k_dflt (refine enter (binds := [(Str.ofString "self", .ref d), (Str.ofString "name", .str x t)]) [(D.dm, od)] X T hb (fun q hq => by rw [List.mem_singleton.mp hq]; exact ⟨hod, hnb⟩) (by k_is) (by k_is) (by show dp < recursionLimit; omega) (BindsTo.of_eq rfl) (locs rfl) (fun E9 Q9 g L h₁ g9s d9r t9k o9s hQ9 hE9 hP9 hA9 hB hG X' T' F' N' hL => ?_))
  try dsimp only
  have hk : ∀ b o, b ≠ D.dm → s.heap.get? b = some o → g.get? b = some o := fun b o hb e => hG _ _ e (by simpa using hb)
  have hdne : d ≠ D.dm := by
    intro e
    have h1 := hp.inst.at_
    rw [e, hod] at h1
    obtain ⟨es, ep, ⟨hc, _⟩, _⟩ := hisd
    have h2 := congrArg Obj.cls (Option.some.inj h1)
    rw [hc] at h2
    cases h2
  have I' := InstAt.agree hp.inst (hk _ · hdne) (hk _ · (Ne.symm hp.ap0.1))
  have hdfl := dictOf_agree hp.dfl (hk _ · (Ne.symm hp.ap0.2))
  have hlen := hp.len
  have hlo := hp.lo
  have hv := hp.val x
  rw [hm] at hv
  dsimp only [Option.map] at hv
  k_unmd
  try k_fold
  k_with "subscriptTail" => (refine l_item (by k_asm) (by k_mem) (by assumption) (by first | assumption | exact (valueAt_stored _ _ _ _).trans (if_pos rfl)) ?_)
  k_with "compareOp NotIn str ref" => (refine l_notin (by k_asm) (by k_mem) (by assumption) hlo.2 false (by rw [hv]; rfl) ?_)
  k_with "getMethod ref" => (refine d_getm hdfl (by k_asm) ?_)
  k_with "call builtin:dict.get" => (refine d_get hdfl (by k_asm) hlo.1 ?_)
  k_with "call ref" => ((with_reducible show wpAny _ _ (PySem.call (Value.ref 242) _ _) _ _ _); (refine' new_map G' hB X' (by k_is) (by k_is) (by k_is) ?kF ?kN ?kd ?ku ?_); (case kF => k_asm); (case kN => k_asm); (case kd => k_dflt (exact lim1 hdp rfl)); (case ku => k_dflt (exact lim3 hun rfl)); intro M9 h9 tk9 o3 o4 e1 e2 F9 N9 A9 off9; (have of9 := off9 (D.dm, od) (by k_mem)); (clear off9); k_sweep)
  k_with "setItem ref str" => ((refine' kda_set (knd := strKind pw w) ?F ?N ?U ?d (strKind_is _ _ _ _) ?z ?_; (case F => k_asm); (case N => k_asm); (case U => k_updF); (case d => k_asm); (case z => (rw [sizeLine_eq]; omega))); intro h' o' F' N' hd'; (try dsimp only at N'))
  k_steps
  all_goals (try ((with_reducible refine hQ9 _ _ _ ?_); (try dsimp only)))
  refine wpAny_getItem_of (strKind_is pw w _ _) (Heap.dictOf_iff.mpr ⟨_, (N' (D.dm, o') (by k_mem)).1, hd'⟩ : Heap.DictOf (strKind pw w) _ _ _).mapOf ((valueAt_stored _ _ _ _).trans (if_pos rfl)) ?_
  k_steps
  all_goals (try ((with_reducible refine hQ9 _ _ _ ?_); (try dsimp only)))
  all_goals (try dsimp only)
  rename_i tkz
  have nM := N' _ (.head _)
  refine hret _ _ _ ⟨M9, rfl, A9 _ (N' (M9.rm, instObj 242 M9.rd) (by k_mem)).1 (N' (M9.rd, dictOf (rdEs w M9.t0 M9.t1 M9.t2 M9.dv M9.ls M9.lv) M9.n) (by k_mem)).1 (N' (M9.ls, o3) (by k_mem)).1 (N' (M9.lv, o4) (by k_mem)).1, e1, by rw [e2, hv0], ?_, fun b o hb e => F'.keep b o (hk b o hb e), ?_, ?_, ?_, ?_⟩
  · exact Heap.dictOf_iff.mpr ⟨o', (N' (D.dm, o') (by k_mem)).1, hd'⟩
  · exact off_none hk (N' (M9.rm, instObj 242 M9.rd) (by k_mem)).2.2 (Ne.symm of9.1)
  · exact off_none hk (N' (M9.rd, dictOf (rdEs w M9.t0 M9.t1 M9.t2 M9.dv M9.ls M9.lv) M9.n) (by k_mem)).2.2 (Ne.symm of9.2.1)
  · exact off_none hk (N' (M9.ls, o3) (by k_mem)).2.2 (Ne.symm of9.2.2.1)
  · exact off_none hk (N' (M9.lv, o4) (by k_mem)).2.2 (Ne.symm of9.2.2.2)
end Mine

end

section
open PySem PySem.W PyProof.Rows PySem.Calls
namespace Mine
set_option maxRecDepth 100000
set_option maxHeartbeats 0
noncomputable def upd (sem : Str → Int → DV) (x : Str) (c : Int) (v : DV) : Str → Int → DV := fun y z => if y = x ∧ z = c then v else sem y z
noncomputable def FP (D : DS) (ms : Str → Option MS) (b : Addr) : Prop := b = D.dm ∨ ∃ x M, ms x = some M ∧ b = M.rd
noncomputable def setM (ms : Str → Option MS) (x : Str) (M : MS) : Str → Option MS := fun y => if y = x then some M else ms y
theorem ne_by {h : Heap} {a b : Addr} {o o' : Obj} (h1 : h.get? a = some o) (h2 : h.get? b = some o') (hc : o.cls ≠ o'.cls) : a ≠ b := by
  rintro rfl; rw [h1] at h2; cases h2; exact hc rfl
theorem MS.At.ne_rd {M : MS} {w : World} {h : Heap} (x : M.At w h) {b : Addr} {es : List DictEntry} {k : Nat} (hb : h.get? b = some (dictOf es k)) : M.rm ≠ b ∧ M.ls ≠ b ∧ M.lv ≠ b := by
  refine ⟨ne_by x.inst.at_ hb (fun e => by cases e), ?_, ?_⟩
  · obtain ⟨o, h3, c3, _⟩ := x.sl
    exact ne_by h3 hb (fun e => by rw [c3] at e; simp at e)
  · obtain ⟨o, h3, c3, _⟩ := x.vl
    exact ne_by h3 hb (fun e => by rw [c3] at e; simp at e)
section
variable {w : World} {h h' : Heap} {d : Addr} {D : DS} {ms : Str → Option MS} {sem : Str → Int → DV} {n n' : Nat} {x : Str} {M : MS} {c : Int} {v : Value}
theorem DatM.putA (P : DatM w h d D ms sem n) (hm : ms x = some M) (hn : n ≤ n') (hl : M.ns.length + 2 ≤ 2 * n' + 1) (hv : vis (kb x) v) {M' : MS} (e1 : M'.rm = M.rm) (e2 : M'.rd = M.rd) (hA : M'.At w h') (hlen : M'.ns.length ≤ M.ns.length + 2)
    (hlook : ∀ z, 0 ≤ z → look M'.ns M'.xs z = if z = c then some (dval v) else look M.ns M.xs z) (hk : ∀ y ∈ M'.xs, vkin y v) (kp : ∀ b o, b ≠ M.rd → h.get? b = some o → h'.get? b = some o) :
    DatM w h' d D (setM ms x M') (upd sem x c (dval v)) n' := by
  obtain ⟨hM, hMv, hMl, hMs⟩ := P.each x M hm
  have hrd : h.get? M.rd = some (dictOf (rdEs w M.t0 M.t1 M.t2 M.dv M.ls M.lv) M.n) := hM.inst.dict
  have ap := P.ap1 x M hm
  have hd : d ≠ M.rd := ne_by P.inst.at_ hrd (fun e => by cases e)
  have val : ∀ y, valueAt D.km y = (setM ms x M' y).map fun M => .ref M.rm := fun y => by
    rw [P.val y]; unfold setM
    by_cases e : y = x
    · subst e; rw [hm]; simp [e1]
    · simp [e]
  refine ⟨InstAt.agree P.inst (kp _ · hd) (kp _ · (Ne.symm ap.2.1)), dictOf_agree P.dfl (kp _ · (Ne.symm ap.2.2)), dictOf_agree P.maps (kp _ · (Ne.symm ap.1)), P.lo, Nat.le_trans P.len hn, val, ?_, ?_, P.ap0, ?_, ?_⟩
  · intro y N hy
    unfold setM at hy
    by_cases e : y = x
    · subst e
      rw [if_pos rfl] at hy
      cases hy
      refine ⟨hA, fun z hz => ?_, by omega, fun z hz => ?_⟩
      · rcases hk z hz with ⟨a, t, b, u, rfl, rfl⟩ | ⟨a, b, rfl, rfl⟩
        · revert hv; unfold vis; cases kb y <;> simp
        · revert hv; unfold vis; cases kb y <;> simp
      · rw [hlook z hz, hMs z hz]; unfold upd
        by_cases q : z = c <;> simp [q]
    · rw [if_neg e] at hy
      obtain ⟨a1, a2, a3, a4⟩ := P.each y N hy
      have z := a1.ne_rd hrd
      refine ⟨a1.agree (kp _ · z.1) (kp _ · (P.ap2 y x N M hy hm e)) (kp _ · z.2.1) (kp _ · z.2.2), a2, by omega, fun q hq => ?_⟩
      rw [a4 q hq]; simp [upd, e]
  · intro y hy hn
    unfold setM at hn
    by_cases e : y = x
    · simp [e] at hn
    · rw [if_neg e] at hn
      have z := P.none y hy hn
      exact ⟨z.1, fun q hq => by rw [z.2 q hq]; simp [upd, e]⟩
  · intro y N hy
    unfold setM at hy
    by_cases e : y = x
    · rw [if_pos e] at hy; cases hy; rw [e2]; exact ap
    · rw [if_neg e] at hy; exact P.ap1 y N hy
  · intro y z N N' hy hz hyz
    unfold setM at hy hz
    by_cases e : y = x
    · rw [if_pos e] at hy; cases hy
      have e' : z ≠ x := fun q => hyz (e.trans q.symm)
      rw [if_neg e'] at hz
      rw [e2]; exact P.ap2 x z M N' hm hz (fun q => e' q.symm)
    · rw [if_neg e] at hy
      by_cases e' : z = x
      · rw [if_pos e'] at hz; cases hz; rw [e2]; exact P.ap2 y x N M hy hm e
      · rw [if_neg e'] at hz; exact P.ap2 y z N N' hy hz hyz
theorem DatM.newB (P : DatM w h d D ms sem n) (hx : x ∈ N6) (hm : ms x = Option.none) (hN : NewMap w h h' D x ((valueAt D.kd x).getD .none) M) :
    DatM w h' d { D with km := stored D.km x (.ref M.rm) } (setM ms x M) sem (n + 1) := by
  obtain ⟨hA, hns, hxs, hmaps, kp, f1, f2, f3, f4⟩ := hN
  obtain ⟨od, hod, hisd⟩ := Heap.dictOf_iff.mp P.maps
  have hcls : od.cls = .type "dict" := by obtain ⟨es, ep, ⟨hc, _⟩, _⟩ := hisd; exact hc
  have hd : d ≠ D.dm := ne_by P.inst.at_ hod (fun e => by rw [hcls] at e; cases e)
  have nf : ∀ {b : Addr} {o : Obj}, h.get? b = some o → M.rd ≠ b := fun hb e => by subst e; rw [f2] at hb; cases hb
  have hdm := nf hod
  have hdf : M.rd ≠ D.df := by obtain ⟨o, e, _⟩ := Heap.dictOf_iff.mp P.dfl; exact nf e
  have hdd : M.rd ≠ D.dd := nf P.inst.dict
  refine ⟨InstAt.agree P.inst (kp _ · hd) (kp _ · (Ne.symm P.ap0.1)), dictOf_agree P.dfl (kp _ · (Ne.symm P.ap0.2)), hmaps, P.lo, Nat.le_trans (stored_length_le _ _ _) (by have := P.len; omega), fun y => ?_, ?_, ?_, P.ap0, ?_, ?_⟩
  · show valueAt (stored D.km x (.ref M.rm)) y = _
    rw [valueAt_stored, P.val y]; unfold setM
    by_cases e : y = x <;> simp [e]
  · intro y N hy
    unfold setM at hy
    by_cases e : y = x
    · subst e
      rw [if_pos rfl] at hy
      cases hy
      have z := P.none y hx hm
      refine ⟨hA, fun q hq => ?_, by rw [hns]; simp, fun q hq => ?_⟩
      · rw [hxs] at hq; rw [List.mem_singleton.mp hq]; exact z.1
      · rw [hns, hxs, ← z.2 q hq]; simp [look, cnt, hq]
    · rw [if_neg e] at hy
      obtain ⟨a1, a2, a3, a4⟩ := P.each y N hy
      have q1 : N.rm ≠ D.dm := ne_by a1.inst.at_ hod (fun e => by rw [hcls] at e; cases e)
      have q2 : N.ls ≠ D.dm := by obtain ⟨o, h3, c3, _⟩ := a1.sl; exact ne_by h3 hod (fun e => by rw [c3, hcls] at e; simp at e)
      have q3 : N.lv ≠ D.dm := by obtain ⟨o, h3, c3, _⟩ := a1.vl; exact ne_by h3 hod (fun e => by rw [c3, hcls] at e; simp at e)
      exact ⟨a1.agree (kp _ · q1) (kp _ · (P.ap1 y N hy).1) (kp _ · q2) (kp _ · q3), a2, by omega, a4⟩
  · intro y hy hn
    unfold setM at hn
    by_cases e : y = x
    · simp [e] at hn
    · rw [if_neg e] at hn; exact P.none y hy hn
  · intro y N hy
    unfold setM at hy
    by_cases e : y = x
    · rw [if_pos e] at hy; cases hy; exact ⟨hdm, hdd, hdf⟩
    · rw [if_neg e] at hy; exact P.ap1 y N hy
  · intro y z N N' hy hz hyz
    unfold setM at hy hz
    by_cases e : y = x
    · rw [if_pos e] at hy; cases hy
      have e' : z ≠ x := fun q => hyz (e.trans q.symm)
      rw [if_neg e'] at hz
      exact nf (P.each z N' hz).1.inst.dict
    · rw [if_neg e] at hy
      by_cases e' : z = x
      · rw [if_pos e'] at hz; cases hz; exact Ne.symm (nf (P.each y N hy).1.inst.dict)
      · rw [if_neg e'] at hz; exact P.ap2 y z N N' hy hz hyz
noncomputable def PutD (w : World) (h h' : Heap) (d : Addr) (D : DS) (ms : Str → Option MS) (sem : Str → Int → DV) (n : Nat) (x : Str) (c : Int) (v : Value) : Prop :=
  ∃ D' ms', DatM w h' d D' ms' (upd sem x c (dval v)) (n + 1) ∧ (∀ b o, ¬ FP D ms b → h.get? b = some o → h'.get? b = some o) ∧ (∀ b, FP D' ms' b → FP D ms b ∨ h.get? b = none) ∧ (∀ b, Sup D' ms' d b → Sup D ms d b ∨ h.get? b = none)
theorem sup_set {M' : MS} (hm : ms x = some M) (e1 : M'.rm = M.rm) (e2 : M'.rd = M.rd) {b : Addr} (hs : Sup D (setM ms x M') d b) : Sup D ms d b ∨ b = M'.ls ∨ b = M'.lv := by
  cases hs with
  | d => exact .inl .d
  | dd => exact .inl .dd
  | df => exact .inl .df
  | dm => exact .inl .dm
  | @rm y N hy => 
    unfold setM at hy
    by_cases e : y = x
    · rw [if_pos e] at hy; cases hy; rw [e1]; exact .inl (.rm hm)
    · rw [if_neg e] at hy; exact .inl (.rm hy)
  | @rd y N hy => 
    unfold setM at hy
    by_cases e : y = x
    · rw [if_pos e] at hy; cases hy; rw [e2]; exact .inl (.rd hm)
    · rw [if_neg e] at hy; exact .inl (.rd hy)
  | @ls y N hy => 
    unfold setM at hy
    by_cases e : y = x
    · rw [if_pos e] at hy; cases hy; exact .inr (.inl rfl)
    · rw [if_neg e] at hy; exact .inl (.ls hy)
  | @lv y N hy => 
    unfold setM at hy
    by_cases e : y = x
    · rw [if_pos e] at hy; cases hy; exact .inr (.inr rfl)
    · rw [if_neg e] at hy; exact .inl (.lv hy)
theorem fp_set {M' : MS} (hm : ms x = some M) (e2 : M'.rd = M.rd) {b : Addr} (hs : FP D (setM ms x M') b) : FP D ms b := by
  rcases hs with e | ⟨y, N, hy, rfl⟩
  · exact .inl e
  · unfold setM at hy
    by_cases e : y = x
    · rw [if_pos e] at hy; cases hy; rw [e2]; exact .inr ⟨_, _, hm, rfl⟩
    · rw [if_neg e] at hy; exact .inr ⟨_, _, hy, rfl⟩
theorem putD_some (P : DatM w h d D ms sem n) (hm : ms x = some M) (hv : vis (kb x) v) (R : PutRes w h h' M c v) : PutD w h h' d D ms sem n x c v := by
  obtain ⟨M', e1, e2, f1, f2, hA, hlen, hlook, hk, kp⟩ := R
  have h3 := (P.each x M hm).2.2.1
  refine ⟨D, setM ms x M', P.putA hm (Nat.le_succ n) (by omega) hv e1 e2 hA hlen hlook hk kp, fun b o hb e => kp b o (fun q => hb (.inr ⟨_, _, hm, q⟩)) e, fun b hb => .inl (fp_set hm e2 hb), fun b hb => ?_⟩
  rcases sup_set hm e1 e2 hb with z | rfl | rfl
  · exact .inl z
  · exact .inr f1
  · exact .inr f2
theorem putD_none {h1 : Heap} (P : DatM w h d D ms sem n) (hx : x ∈ N6) (hm : ms x = none) (hv : vis (kb x) v) (hN : NewMap w h h1 D x ((valueAt D.kd x).getD .none) M) (R : PutRes w h1 h' M c v) : PutD w h h' d D ms sem n x c v := by
  have P1 := P.newB hx hm hN
  obtain ⟨hA1, hns, hxs, hmaps, kp1, g1, g2, g3, g4⟩ := hN
  obtain ⟨M', e1, e2, f1, f2, hA, hlen, hlook, hk, kp⟩ := R
  have hm1 : setM ms x M x = some M := by simp [setM]
  have off : ∀ b, h1.get? b = none → b ≠ D.dm → h.get? b = none := fun b e q => by
    cases z : h.get? b with
    | none => rfl
    | some o => have := kp1 b o q z; rw [e] at this; cases this
  have nn : ∀ b, h1.get? b = none → b ≠ D.dm := fun b e q => by
    obtain ⟨o, ho, _⟩ := Heap.dictOf_iff.mp hmaps
    rw [q, ho] at e; cases e
  refine ⟨_, setM (setM ms x M) x M', P1.putA hm1 (Nat.le_refl _) (by rw [hns]; simp; omega) hv e1 e2 hA hlen hlook hk kp, fun b o hb e => ?_, fun b hb => ?_, fun b hb => ?_⟩
  · have q1 : b ≠ D.dm := fun q => hb (.inl q)
    exact kp b o (fun q => by rw [q, g2] at e; cases e) (kp1 b o q1 e)
  · rcases fp_set hm1 e2 hb with z | ⟨y, N, hy, rfl⟩
    · exact .inl (.inl z)
    · unfold setM at hy
      by_cases e : y = x
      · rw [if_pos e] at hy; cases hy; exact .inr g2
      · rw [if_neg e] at hy; exact .inl (.inr ⟨_, _, hy, rfl⟩)
  · rcases sup_set hm1 e1 e2 hb with z | rfl | rfl
    · cases z with
      | d => exact .inl .d
      | dd => exact .inl .dd
      | df => exact .inl .df
      | dm => exact .inl .dm
      | @rm y N hy => 
        unfold setM at hy
        by_cases e : y = x
        · rw [if_pos e] at hy; cases hy; exact .inr g1
        · rw [if_neg e] at hy; exact .inl (.rm hy)
      | @rd y N hy => 
        unfold setM at hy
        by_cases e : y = x
        · rw [if_pos e] at hy; cases hy; exact .inr g2
        · rw [if_neg e] at hy; exact .inl (.rd hy)
      | @ls y N hy => 
        unfold setM at hy
        by_cases e : y = x
        · rw [if_pos e] at hy; cases hy; exact .inr g3
        · rw [if_neg e] at hy; exact .inl (.ls hy)
      | @lv y N hy => 
        unfold setM at hy
        by_cases e : y = x
        · rw [if_pos e] at hy; cases hy; exact .inr g4
        · rw [if_neg e] at hy; exact .inl (.lv hy)
    · exact .inr (off _ f1 (nn _ f1))
    · exact .inr (off _ f2 (nn _ f2))
end
end Mine

end

section
open PySem PySem.W PyProof.Rows PySem.Calls
namespace Mine
set_option maxRecDepth 100000
set_option maxHeartbeats 0
theorem fill11 : PySem.Challenge.rw_pb0596_01.foot = 6 ∧ K9 = K9 := by
  k_with_none
  k_with "my ne" => (first | (with_reducible first | assumption | exact Ne.symm (by assumption) | exact Mine.nr1 (by assumption) | exact Mine.ns1 (by assumption) | exact Mine.nt1 (by assumption) | exact Mine.nu1 (by assumption) | exact Mine.nr2 (by assumption) | exact Mine.ns2 (by assumption) | exact Mine.nt2 (by assumption) | exact Mine.nu2 (by assumption) | exact Mine.nr3 (by assumption) | exact Mine.ns3 (by assumption) | exact Mine.nt3 (by assumption) | exact Mine.nu3 (by assumption) | exact Mine.nr4 (by assumption) | exact Mine.ns4 (by assumption) | exact Mine.nt4 (by assumption) | exact Mine.nu4 (by assumption) | exact Mine.nr5 (by assumption) | exact Mine.ns5 (by assumption) | exact Mine.nt5 (by assumption) | exact Mine.nu5 (by assumption) | exact Mine.nr6 (by assumption) | exact Mine.ns6 (by assumption) | exact Mine.nt6 (by assumption) | exact Mine.nu6 (by assumption) | exact Mine.nr7 (by assumption) | exact Mine.ns7 (by assumption) | exact Mine.nt7 (by assumption) | exact Mine.nu7 (by assumption) | exact Mine.nr8 (by assumption) | exact Mine.ns8 (by assumption) | exact Mine.nt8 (by assumption) | exact Mine.nu8 (by assumption) | exact Mine.nr9 (by assumption) | exact Mine.ns9 (by assumption) | exact Mine.nr10 (by assumption) | exact Mine.ns10 (by assumption) | exact Mine.nr11 (by assumption) | exact Mine.ns11 (by assumption) | exact Mine.nr12 (by assumption) | exact Mine.ns12 (by assumption) | exact Mine.nw1 (by assumption) | exact Mine.nw2 (by assumption) | exact Mine.nw3 (by assumption) | exact Mine.nw4 (by assumption) | exact Mine.nw5 (by assumption) | exact Mine.nw6 (by assumption) | exact Mine.nk1 (by assumption) | exact Mine.nk2 (by assumption) | exact Mine.nk3 (by assumption) | exact Mine.nk4 (by assumption)) | fail "no")
  k_with "my om" => (first | ((with_reducible show @Eq Int _ _); with_reducible first | assumption | exact Eq.symm (by assumption) | exact Int.toNat_of_nonneg (by assumption)) | fail "no")
  k_with "my om" => (first | ((with_reducible show And (@LE.le Int _ _ _) _); with_reducible first | assumption | (refine Mine.i2 (by assumption) ?_; omega) | (refine Mine.i2' (by assumption) ?_; omega)) | fail "no")
  k_with "my om" => (first | ((with_reducible show @LT.lt Int _ _ _); first | (with_reducible first | assumption | exact Mine.i1' (by assumption) | exact Int.ofNat_lt.mpr (by assumption) | exact And.left (by assumption) | exact And.right (by assumption) | exact Int.lt_of_not_le (by assumption)) | decide +kernel) | fail "no")
  k_with "my om" => (first | ((with_reducible show @LE.le Int _ _ _); first | (with_reducible first | assumption | exact Int.natCast_nonneg _ | exact Int.le_refl _ | exact Mine.i1 _ | exact Int.ofNat_le.mpr (by assumption) | exact Mine.i6 (by assumption) (by assumption) | (refine Mine.i7 ?_; omega) | exact And.left (by assumption) | exact And.right (by assumption) | exact Int.le_of_not_lt (by assumption) | exact Int.le_of_lt (by assumption)) | decide +kernel) | fail "no")
  k_with "my om" => (first | ((with_reducible show @Eq Nat _ _); with_reducible first | assumption | exact Eq.symm (by assumption) | exact Mine.i5 (by assumption) | exact Mine.i4 _ | exact Mine.i3 _ | exact Eq.symm (Mine.i4 _) | exact Nat.add_sub_cancel_left .. | exact Nat.min_eq_left (by assumption) | exact Eq.trans (by assumption) (by assumption) | exact Eq.trans (Eq.symm (by assumption)) (by assumption) | exact Eq.trans (by assumption) (Eq.symm (by assumption))) | fail "no")
  k_with "my om" => (first | ((with_reducible show @LT.lt Nat _ _ _); with_reducible first | assumption | exact Mine.np (by assumption) | exact Mine.nq (by assumption) rfl | exact Mine.nv (by assumption) rfl | exact Mine.ia (by assumption) (by assumption) | exact Mine.ib (by assumption) (by assumption) | exact Nat.lt_of_lt_of_le (by assumption) (by assumption) | exact Nat.succ_lt_succ (by assumption) | exact And.left (by assumption) | exact And.right (by assumption) | exact Nat.lt_of_not_le (by assumption) | exact Mine.ia (Mine.ia (by assumption) (by assumption)) (by assumption) | exact Mine.ib (Mine.ia (by assumption) (by assumption)) (by assumption) | exact Mine.ia (Mine.ib (by assumption) (by assumption)) (by assumption) | exact Mine.ib (Mine.ib (by assumption) (by assumption)) (by assumption)) | fail "no")
  k_with "my om" => (first | ((with_reducible show @LE.le Nat _ _ _); first | (with_reducible first | assumption | exact Mine.nc (by assumption) rfl | exact Nat.le_refl _ | exact Mine.nl (by assumption) (by assumption) | exact Mine.nm (by assumption) (by assumption) | exact Mine.nn (by assumption) (by assumption) | exact Mine.nn (by assumption) (Mine.nc (by assumption) rfl) | exact Mine.nl (by assumption) (Mine.nc (by assumption) rfl) | exact Mine.nm (by assumption) (Mine.nc (by assumption) rfl) | exact Mine.nl (by assumption) (Mine.nl (by assumption) (Mine.nc (by assumption) rfl)) | exact Mine.nl (by assumption) (Mine.nn (by assumption) (Mine.nc (by assumption) rfl)) | exact Mine.nm (by assumption) (Mine.nn (by assumption) (Mine.nc (by assumption) rfl)) | exact Mine.nl (by assumption) (Mine.nm (by assumption) (Mine.nc (by assumption) rfl)) | exact Mine.nm (by assumption) (Mine.nl (by assumption) (Mine.nc (by assumption) rfl)) | exact Mine.nm (by assumption) (Mine.nm (by assumption) (Mine.nc (by assumption) rfl)) | exact Nat.le_add_right _ _ | exact Nat.succ_le_succ (by assumption) | exact Nat.le_of_eq (by assumption) | exact Nat.le_of_eq (Eq.symm (by assumption)) | exact Nat.le_succ_of_le (by assumption) | exact Nat.le_of_not_lt (by assumption) | exact Int.toNat_le_toNat (by assumption) | exact Mine.ig (by assumption) (by assumption) rfl | exact Mine.ih (by assumption) (by assumption) rfl | exact And.left (by assumption) | exact And.right (by assumption) | (refine Mine.ie ?_ (by assumption); omega) | (refine Mine.ie' ?_ (by assumption); omega) | (refine Mine.id1 ?_; omega) | (refine Mine.ij ?_; omega) | (refine Mine.ic (by assumption) rfl ?_; omega)) | exact Mine.nz rfl) | fail "no")
  k_with "my own" => (first | assumption | exact Mine.PAt.of (by assumption) (PySem.SameStack.mark _ _) | exact Mine.PAt.of (by assumption) (PySem.SameStack.unmark _ _) | fail "no")
  k_fill
  k_with "my inst" => (first | exact InstAt.up (by assumption) (Fr.keep (by k_asm)) | fail "no")
  k_with "my inst" => (first | exact InstAt.mix (by assumption) (by k_asm) (by k_asm) (by k_mem) | fail "no")
  exact ⟨rfl, rfl⟩
theorem led_keep {s g h : Heap} {L : Addr} {m : Str → Option Value} {led news : List (Addr × Obj)} (hG : ∀ b o, s.get? b = some o → ¬ b ∈ List.map (fun x => x.fst) led → g.get? b = some o) (F : Fr g L h m) (N : News g L h news)
    (hs : ∀ p ∈ led, p ∈ news ∧ s.get? p.1 = some p.2) : Kp s h := fun b o e => by
  by_cases hb : b ∈ List.map (fun x => x.fst) led
  · obtain ⟨q, hq, rfl⟩ := List.mem_map.mp hb
    have z := hs q hq
    rw [z.2] at e; cases e
    exact (N q z.1).1
  · exact F.keep b o (hG b o e hb)
theorem PutRes.back {w : World} {s h h' : Heap} {M : MS} {c : Int} {v : Value} (k : Kp s h) (R : PutRes w h h' M c v) : PutRes w s h' M c v := by
  obtain ⟨M', e1, e2, f1, f2, hA, hlen, hlook, hk, kp⟩ := R
  have nn : ∀ b, h.get? b = none → s.get? b = none := fun b e => by
    cases z : s.get? b with
    | none => rfl
    | some o => rw [k _ _ z] at e; cases e
  exact ⟨M', e1, e2, nn _ f1, nn _ f2, hA, hlen, hlook, hk, fun b o hb e => kp b o hb (k _ _ e)⟩
theorem NewMap.back {w : World} {s h h' : Heap} {D : DS} {x : Str} {v : Value} {M : MS} (k : Kp s h) (R : NewMap w h h' D x v M) : NewMap w s h' D x v M := by
  obtain ⟨hA, e1, e2, e3, kp, f1, f2, f3, f4⟩ := R
  have nn : ∀ b, h.get? b = none → s.get? b = none := fun b e => by
    cases z : s.get? b with
    | none => rfl
    | some o => rw [k _ _ z] at e; cases e
  exact ⟨hA, e1, e2, e3, fun b o hb e => kp b o hb (k _ _ e), nn _ f1, nn _ f2, nn _ f3, nn _ f4⟩
theorem Fr.butOne {g h h' : Heap} {L a : Addr} {m : Str → Option Value} (F : Fr g L h m) (hL : a ≠ L) (hg : g.get? a = none) (kp : ∀ b o, b ≠ a → h.get? b = some o → h'.get? b = some o) : Fr g L h' m :=
  ⟨F.ns.at' fun o e => kp L o (Ne.symm hL) e, fun b o e => kp b o (fun q => by rw [q, hg] at e; cases e) (F.keep b o e), F.above⟩
theorem vis_all {x : Str} {M : MS} {v : Value} (h : ∀ y ∈ M.xs, vis (kb x) y) (hv : vis (kb x) v) : ∀ y ∈ M.xs, vkin y v := fun y hy => vis_vkin (h y hy) hv
theorem base_none {base g : Heap} {a : Addr} (hB : Kp base g) (e : g.get? a = none) : base.get? a = none := by
  cases q : base.get? a with
  | none => rfl
  | some o => have := hB _ _ q; rw [e] at this; cases this
section
variable {w : World} {base g : Heap} {s s0 : Shared} {L : Addr} {m : Str → Option Value} {news : List (Addr × Obj)} {v : Value} {Q E : Value → Shared → Prop} {dp un : Nat} {fr : Option (List Env)} {gd : Option (List Code)}
theorem put_map (G : Gr w base) (M : MS) (c : Int) (t t' : Tok) (hc : 1 ≤ c) (hc' : c < 1114111) (hv : ∀ x ∈ M.xs, vkin x v) (hnb : base.get? M.rd = none) (hB : Kp base g) (F : Fr g L s.heap m) (N : News g L s.heap news) (hm : (M.rd, dictOf (rdEs w M.t0 M.t1 M.t2 M.dv M.ls M.lv) M.n) ∈ news)
    (hM : M.At w s.heap) (hl : M.ns.length ≤ 98) (hd : dp + 3 < recursionLimit) (hu : un + 8 * 3 < cLine)
    (h : ∀ h' tk', PutRes w s.heap h' M c v → Fr g L h' m → Q .none { s with heap := h', toks := tk' }) : wpAny (model pw w) (Ar dp un fr gd) (call (.ref 225) [.ref M.rm, .int c t, .int c t', v]) Q E s :=
  rput_cc G M c t t' v hc hc' hv hnb _ _ _ _ _ _ _ hd hu (hB.trans F.keep) ⟨hM, hl⟩ fun r h' tk' ⟨e, R⟩ => by
    subst e
    have R' := R
    obtain ⟨M', e1, e2, f1, f2, hA, hlen, hlook, hk, kp⟩ := R'
    exact h h' tk' R (Fr.butOne F (N _ hm).2.1 (N _ hm).2.2 kp)
theorem use_new (G : Gr w base) (d : Addr) (D : DS) (ms : Str → Option MS) (sem : Str → Int → DV) (n : Nat) (x : Str) (t : Tok) (hm : ms x = none) (hn : n ≤ 100) (hnb : base.get? D.dm = none) {od : Obj} (hB : Kp base g) (F : Fr g L s.heap m) (N : News g L s.heap [(D.dm, od)])
    (P : DatM w s.heap d D ms sem n) (hd : dp + 4 < recursionLimit) (hu : un + 8 * 4 < cLine)
    (h : ∀ (M : MS) h' tk', NewMap w s.heap h' D x ((valueAt D.kd x).getD .none) M → Fr g L h' m → News g L h' [(M.rm, instObj 242 M.rd), (M.rd, dictOf (rdEs w M.t0 M.t1 M.t2 M.dv M.ls M.lv) M.n)] → Q (.ref M.rm) { s with heap := h', toks := tk' }) :
    wpAny (model pw w) (Ar dp un fr gd) (call (.ref 288) [.ref d, .str x t]) Q E s :=
  map_none G d D ms sem n x t hm hn hnb _ rfl _ _ _ _ _ _ _ hd hu (hB.trans F.keep) P fun r h' tk' ⟨M, e, R⟩ => by
    subst e
    have z := N _ (.head _)
    have F' := Fr.butOne F z.2.1 z.2.2 R.2.2.2.2.1
    have hL : ∀ a, s.heap.get? a = none → a ≠ L := fun a e q => by
      subst q
      obtain ⟨o, _, _, e', _⟩ := F.ns
      rw [e] at e'; cases e'
    refine h M h' tk' R F' fun p hp => ?_
    obtain ⟨hA, e1, e2, e3, kp, f1, f2, f3, f4⟩ := R
    rcases List.mem_cons.mp hp with rfl | hp
    · exact ⟨hA.inst.at_, hL _ f1, none_g F f1⟩
    · rw [List.mem_singleton.mp hp]
      exact ⟨hA.inst.dict, hL _ f2, none_g F f2⟩
end
theorem dput_cc {w : World} {base : Heap} (G : Gr w base) (d : Addr) (D : DS) (ms : Str → Option MS) (sem : Str → Int → DV) (n : Nat) (x : Str) (tx : Tok) (c : Int) (t t' : Tok) (v : Value) (hx : x ∈ N6) (hn : n ≤ 46) (hc : 1 ≤ c) (hc' : c < 1114111) (hv : vis (kb x) v) (hnb : ∀ b, FP D ms b → base.get? b = none) :
   CC w base 274 [.ref d, .str x tx, .int c t, .int c t', v] 6 (fun h => DatM w h d D ms sem n) (fun h r h' => r = .none ∧ PutD w h h' d D ms sem n x c v) := by
  have G' := G
  obtain ⟨X, p, loose, mean, mg, mb, T⟩ := G
  intro dp un fr gd s Q E hdp hun hb hp hret
  cases hm : ms x with
  | none =>
    obtain ⟨od, hod, hisd⟩ := Heap.dictOf_iff.mp hp.maps
    have hcls : od.cls = .type "dict" := by obtain ⟨es, ep, ⟨hc, _⟩, _⟩ := hisd; exact hc
    have hdne : d ≠ D.dm := ne_by hp.inst.at_ hod (fun e => by rw [hcls] at e; cases e)
    w_on
    k_dflt (refine enter (binds := [(Str.ofString "self", .ref d), (Str.ofString "name", .str x tx), (Str.ofString "first", .int c t), (Str.ofString "last", .int c t'), (Str.ofString "value", v)]) [(D.dm, od)] X T hb (fun q hq => by rw [List.mem_singleton.mp hq]; exact ⟨hod, hnb _ (.inl rfl)⟩) (by k_is) (by k_is) (by show dp < recursionLimit; omega) (BindsTo.of_eq rfl) (locs rfl) (fun E9 Q9 g L h₁ g9s d9r t9k o9s hQ9 hE9 hP9 hA9 hB hG X' T' F' N' hL => ?_))
    try dsimp only
    have hk : ∀ b o, b ≠ D.dm → s.heap.get? b = some o → g.get? b = some o := fun b o hb e => hG _ _ e (by simpa using hb)
    have I' := InstAt.agree hp.inst (hk _ · hdne) (hk _ · (Ne.symm hp.ap0.1))
    k_unmd
    try k_fold
    k_with "call ref" => ((with_reducible show wpAny _ _ (PySem.call (Value.ref 288) _ _) _ _ _); (have kp9 := led_keep hG (by k_asm) (by assumption) (fun q hq => by rw [List.mem_singleton.mp hq]; exact ⟨by k_mem, hod⟩)); (refine' use_new G' d D ms sem n x tx hm (by omega) (hnb _ (.inl rfl)) hB ?kF ?kN (hp.keep kp9) ?kd ?ku ?_); (case kF => k_asm); (case kN => k_asm); (case kd => k_dflt (exact lim1 hdp rfl)); (case ku => k_dflt (exact lim3 hun rfl)); intro M9 h9 tk9 hN9 F9 N9; (replace hN9 := NewMap.back kp9 hN9); (clear kp9); k_sweep)
    k_with "call ref" => ((with_reducible show wpAny _ _ (PySem.call (Value.ref 225) _ _) _ _ _); (have P9 := hp.newB hx hm hN9); (have E9 := P9.each x M9 (by simp [setM])); (refine' put_map G' M9 c _ _ hc hc' (vis_all E9.2.1 hv) ?kb hB ?kF ?kN ?km ?ke (by rw [hN9.2.1]; decide) ?kd ?ku ?_); (case kb => exact base_none hB (N9 (M9.rd, _) (by k_mem)).2.2); (case kF => k_asm); (case kN => k_asm); (case km => k_mem); (case ke => exact E9.1); (case kd => k_dflt (exact lim1 hdp rfl)); (case ku => k_dflt (exact lim3 hun rfl)); intro h8 tk8 hR8 F8; k_sweep)
    k_steps
    all_goals (try ((with_reducible refine hQ9 _ _ _ ?_); (try dsimp only)))
    all_goals (try dsimp only)
    all_goals (exact hret _ _ _ ⟨rfl, putD_none hp hx hm hv (by assumption) (by assumption)⟩)
  | some M =>
    have hM := (hp.each x M hm).1
    have hv9 := (hp.each x M hm).2.1
    have hl9 := (hp.each x M hm).2.2.1
    w_on
    k_dflt (refine enter (binds := [(Str.ofString "self", .ref d), (Str.ofString "name", .str x tx), (Str.ofString "first", .int c t), (Str.ofString "last", .int c t'), (Str.ofString "value", v)]) [(M.rd, dictOf (rdEs w M.t0 M.t1 M.t2 M.dv M.ls M.lv) M.n)] X T hb (fun q hq => by rw [List.mem_singleton.mp hq]; exact ⟨hM.inst.dict, hnb _ (.inr ⟨_, _, hm, rfl⟩)⟩) (by k_is) (by k_is) (by show dp < recursionLimit; omega) (BindsTo.of_eq rfl) (locs rfl) (fun E9 Q9 g L h₁ g9s d9r t9k o9s hQ9 hE9 hP9 hA9 hB hG X' T' F' N' hL => ?_))
    try dsimp only
    have hk : ∀ b o, b ≠ M.rd → s.heap.get? b = some o → g.get? b = some o := fun b o hb e => hG _ _ e (by simpa using hb)
    have I' := InstAt.agree hp.inst (hk _ · (ne_by hp.inst.at_ hM.inst.dict (fun e => by cases e))) (hk _ · (Ne.symm (hp.ap1 x M hm).2.1))
    have hrm := hk _ _ (hM.ne_rd hM.inst.dict).1 hM.inst.at_
    k_unmd
    try k_fold
    k_with "call ref" => ((with_reducible show wpAny _ _ (PySem.call (Value.ref 288) _ _) _ _ _); (have kp9 := led_keep hG (by k_asm) (by assumption) (fun q hq => by rw [List.mem_singleton.mp hq]; exact ⟨by k_mem, hM.inst.dict⟩)); (refine' use_pure (map_some G' d D ms sem n x tx M hm) hB ?kF ?kN ?kp ?kd ?ku ?_); (case kF => k_asm); (case kN => k_asm); (case kp => exact hp.keep kp9); (case kd => k_dflt (exact lim1 hdp rfl)); (case ku => k_dflt (exact lim3 hun rfl)); intro v9 h9 tk9 e9 hk9 F9 N9; subst e9; k_sweep)
    k_with "call ref" => ((with_reducible show wpAny _ _ (PySem.call (Value.ref 225) _ _) _ _ _); (have kp9 := led_keep hG (by k_asm) (by assumption) (fun q hq => by rw [List.mem_singleton.mp hq]; exact ⟨by k_mem, hM.inst.dict⟩)); (refine' put_map G' M c _ _ hc hc' (vis_all hv9 hv) (hnb _ (.inr ⟨_, _, hm, rfl⟩)) hB ?kF ?kN ?km (hM.keep kp9) (by omega) ?kd ?ku ?_); (case kF => k_asm); (case kN => k_asm); (case km => k_mem); (case kd => k_dflt (exact lim1 hdp rfl)); (case ku => k_dflt (exact lim3 hun rfl)); intro h8 tk8 hR8 F8; (replace hR8 := PutRes.back kp9 hR8); (clear kp9); k_sweep)
    k_steps
    all_goals (try ((with_reducible refine hQ9 _ _ _ ?_); (try dsimp only)))
    all_goals (try dsimp only)
    all_goals (exact hret _ _ _ ⟨rfl, putD_some hp hm hv (by assumption)⟩)
end Mine

end

section
open PySem PySem.W PyProof.Rows PySem.Calls
namespace Mine
set_option maxRecDepth 100000
set_option maxHeartbeats 0
section
variable {prog : Program} {w : World} {A : Around} {E : Value → Shared → Prop} {h₀ : Heap} {env : Env} {target : PySem.Expr} {body : List Stmt} {Q : Flow → Shared → Prop} {s : Shared} {I : Addr} {k : String} {keep : List (Addr × Obj)} {vs : List Value}
theorem items_inv (Inv : Nat → (Str → Option Value) → List (Addr × Obj) → Prop)
    (turn : ∀ i v m news h tk oI, vs[i]? = some v → Inv i m news → oI.cls = .type k → Fr h₀ env.locals h m → News h₀ env.locals h ((I, oI) :: news) →
      wpAny (model prog w) A (assign target env v) (fun _ s₂ => wpAny (model prog w) A (execs body env) (UnrPostW h₀ env.locals { s with heap := h, toks := tk } [(I, oI)] (fun m' n' => SubL keep n' ∧ Inv (i + 1) m' n') Q) E s₂) E { s with heap := h, toks := tk })
    (fin : ∀ m news h tk, Inv vs.length m news → Fr h₀ env.locals h m → News h₀ env.locals h news → Q .next { s with heap := h, toks := tk }) {m : Str → Option Value} {news : List (Addr × Obj)} (h0 : Inv 0 m news) :
    ItemsRest prog w A E h₀ env target body Q s [(I, k)] keep (vs.map .val) m news := by
  suffices H : ∀ n i m news, i + n = vs.length → Inv i m news → ItemsRest prog w A E h₀ env target body Q s [(I, k)] keep ((vs.drop i).map .val) m news by
    simpa using H vs.length 0 m news (by simp) h0
  intro n
  induction n with
  | zero =>
    intro i m news hi hI
    have : i = vs.length := by omega
    subst this
    rw [List.drop_length]
    exact fun h tk F N => fin m news h tk hI F N
  | succ n ih =>
    intro i m news hi hI
    have hlt : i < vs.length := by omega
    rw [List.drop_eq_getElem_cons hlt, List.map_cons]
    refine ItemsRest.val fun h tk F => AllObj.cons fun oI hc => AllObj.nil fun N => ?_
    refine wpAny_mono (turn i _ m news h tk oI (List.getElem?_eq_getElem hlt) hI hc F N) (fun _ s₂ h₂ => wpAny_mono h₂ (fun f s₃ p => ?_) fun _ _ e => e) fun _ _ e => e
    have go : UnrEndW h₀ env.locals { s with heap := h, toks := tk } [(I, oI)] (fun m' n' => SubL keep n' ∧ Inv (i + 1) m' n') s₃ → UnrEndW h₀ env.locals { s with heap := h, toks := tk } [(I, oI)] (fun m' n' => SubL keep n' ∧ ItemsRest prog w A E h₀ env target body Q s [(I, k)] keep ((vs.drop (i + 1)).map .val) m' n') s₃ :=
      fun ⟨h', tk', m', news', e, F', N', ho, hk, hJ⟩ => ⟨h', tk', m', news', e, F', N', ho, hk, ih (i + 1) m' news' (by omega) hJ⟩
    cases f with
    | ret v => exact p
    | brk => exact p
    | next => exact go p
    | cont => exact go p
end
theorem Fr.as {g h : Heap} {L : Addr} {m m' : Str → Option Value} (F : Fr g L h m) (e : ∀ z, m' z = m z) : Fr g L h m' := by
  have : m' = m := funext e
  rw [this]; exact F
theorem fill12 : PySem.Challenge.rw_pb0596_01.foot = 6 ∧ K9 = K9 := by
  k_with_none
  k_with "my ne" => (first | (with_reducible first | assumption | exact Ne.symm (by assumption) | exact Mine.nr1 (by assumption) | exact Mine.ns1 (by assumption) | exact Mine.nt1 (by assumption) | exact Mine.nu1 (by assumption) | exact Mine.nr2 (by assumption) | exact Mine.ns2 (by assumption) | exact Mine.nt2 (by assumption) | exact Mine.nu2 (by assumption) | exact Mine.nr3 (by assumption) | exact Mine.ns3 (by assumption) | exact Mine.nt3 (by assumption) | exact Mine.nu3 (by assumption) | exact Mine.nr4 (by assumption) | exact Mine.ns4 (by assumption) | exact Mine.nt4 (by assumption) | exact Mine.nu4 (by assumption) | exact Mine.nr5 (by assumption) | exact Mine.ns5 (by assumption) | exact Mine.nt5 (by assumption) | exact Mine.nu5 (by assumption) | exact Mine.nr6 (by assumption) | exact Mine.ns6 (by assumption) | exact Mine.nt6 (by assumption) | exact Mine.nu6 (by assumption) | exact Mine.nr7 (by assumption) | exact Mine.ns7 (by assumption) | exact Mine.nt7 (by assumption) | exact Mine.nu7 (by assumption) | exact Mine.nr8 (by assumption) | exact Mine.ns8 (by assumption) | exact Mine.nt8 (by assumption) | exact Mine.nu8 (by assumption) | exact Mine.nr9 (by assumption) | exact Mine.ns9 (by assumption) | exact Mine.nr10 (by assumption) | exact Mine.ns10 (by assumption) | exact Mine.nr11 (by assumption) | exact Mine.ns11 (by assumption) | exact Mine.nr12 (by assumption) | exact Mine.ns12 (by assumption) | exact Mine.nw1 (by assumption) | exact Mine.nw2 (by assumption) | exact Mine.nw3 (by assumption) | exact Mine.nw4 (by assumption) | exact Mine.nw5 (by assumption) | exact Mine.nw6 (by assumption) | exact Mine.nk1 (by assumption) | exact Mine.nk2 (by assumption) | exact Mine.nk3 (by assumption) | exact Mine.nk4 (by assumption)) | fail "no")
  k_with "my om" => (first | ((with_reducible show @Eq Int _ _); with_reducible first | assumption | exact Eq.symm (by assumption) | exact Int.toNat_of_nonneg (by assumption)) | fail "no")
  k_with "my om" => (first | ((with_reducible show And (@LE.le Int _ _ _) _); with_reducible first | assumption | (refine Mine.i2 (by assumption) ?_; omega) | (refine Mine.i2' (by assumption) ?_; omega)) | fail "no")
  k_with "my om" => (first | ((with_reducible show @LT.lt Int _ _ _); first | (with_reducible first | assumption | exact Mine.i1' (by assumption) | exact Int.ofNat_lt.mpr (by assumption) | exact And.left (by assumption) | exact And.right (by assumption) | exact Int.lt_of_not_le (by assumption)) | decide +kernel) | fail "no")
  k_with "my om" => (first | ((with_reducible show @LE.le Int _ _ _); first | (with_reducible first | assumption | exact Int.natCast_nonneg _ | exact Int.le_refl _ | exact Mine.i1 _ | exact Int.ofNat_le.mpr (by assumption) | exact Mine.i6 (by assumption) (by assumption) | (refine Mine.i7 ?_; omega) | exact And.left (by assumption) | exact And.right (by assumption) | exact Int.le_of_not_lt (by assumption) | exact Int.le_of_lt (by assumption)) | decide +kernel) | fail "no")
  k_with "my om" => (first | ((with_reducible show @Eq Nat _ _); with_reducible first | assumption | exact Eq.symm (by assumption) | exact Mine.i5 (by assumption) | exact Mine.i4 _ | exact Mine.i3 _ | exact Eq.symm (Mine.i4 _) | exact Nat.add_sub_cancel_left .. | exact Nat.min_eq_left (by assumption) | exact Eq.trans (by assumption) (by assumption) | exact Eq.trans (Eq.symm (by assumption)) (by assumption) | exact Eq.trans (by assumption) (Eq.symm (by assumption))) | fail "no")
  k_with "my om" => (first | ((with_reducible show @LT.lt Nat _ _ _); with_reducible first | assumption | exact Mine.np (by assumption) | exact Mine.nq (by assumption) rfl | exact Mine.nv (by assumption) rfl | exact Mine.ia (by assumption) (by assumption) | exact Mine.ib (by assumption) (by assumption) | exact Nat.lt_of_lt_of_le (by assumption) (by assumption) | exact Nat.succ_lt_succ (by assumption) | exact And.left (by assumption) | exact And.right (by assumption) | exact Nat.lt_of_not_le (by assumption) | exact Mine.ia (Mine.ia (by assumption) (by assumption)) (by assumption) | exact Mine.ib (Mine.ia (by assumption) (by assumption)) (by assumption) | exact Mine.ia (Mine.ib (by assumption) (by assumption)) (by assumption) | exact Mine.ib (Mine.ib (by assumption) (by assumption)) (by assumption)) | fail "no")
  k_with "my om" => (first | ((with_reducible show @LE.le Nat _ _ _); first | (with_reducible first | assumption | exact Mine.nc (by assumption) rfl | exact Nat.le_refl _ | exact Mine.nl (by assumption) (by assumption) | exact Mine.nm (by assumption) (by assumption) | exact Mine.nn (by assumption) (by assumption) | exact Mine.nn (by assumption) (Mine.nc (by assumption) rfl) | exact Mine.nl (by assumption) (Mine.nc (by assumption) rfl) | exact Mine.nm (by assumption) (Mine.nc (by assumption) rfl) | exact Mine.nl (by assumption) (Mine.nl (by assumption) (Mine.nc (by assumption) rfl)) | exact Mine.nl (by assumption) (Mine.nn (by assumption) (Mine.nc (by assumption) rfl)) | exact Mine.nm (by assumption) (Mine.nn (by assumption) (Mine.nc (by assumption) rfl)) | exact Mine.nl (by assumption) (Mine.nm (by assumption) (Mine.nc (by assumption) rfl)) | exact Mine.nm (by assumption) (Mine.nl (by assumption) (Mine.nc (by assumption) rfl)) | exact Mine.nm (by assumption) (Mine.nm (by assumption) (Mine.nc (by assumption) rfl)) | exact Nat.le_add_right _ _ | exact Nat.succ_le_succ (by assumption) | exact Nat.le_of_eq (by assumption) | exact Nat.le_of_eq (Eq.symm (by assumption)) | exact Nat.le_succ_of_le (by assumption) | exact Nat.le_of_not_lt (by assumption) | exact Int.toNat_le_toNat (by assumption) | exact Mine.ig (by assumption) (by assumption) rfl | exact Mine.ih (by assumption) (by assumption) rfl | exact And.left (by assumption) | exact And.right (by assumption) | (refine Mine.ie ?_ (by assumption); omega) | (refine Mine.ie' ?_ (by assumption); omega) | (refine Mine.id1 ?_; omega) | (refine Mine.ij ?_; omega) | (refine Mine.ic (by assumption) rfl ?_; omega)) | exact Mine.nz rfl) | fail "no")
  k_with "my own" => (first | assumption | exact Mine.PAt.of (by assumption) (PySem.SameStack.mark _ _) | exact Mine.PAt.of (by assumption) (PySem.SameStack.unmark _ _) | fail "no")
  k_fill
  exact ⟨rfl, rfl⟩
noncomputable def Hold (p : Prop) : Prop := p
theorem Hold.out {p : Prop} (h : Hold p) : p := h
theorem items_sub {prog : Program} {w : World} {A : Around} {E : Value → Shared → Prop} {h₀ : Heap} {env : Env} {target : PySem.Expr} {body : List Stmt} {Q : Flow → Shared → Prop} {s : Shared} {I : Addr} {k : String} {keep : List (Addr × Obj)} {vs : List Value}
    {m m0 : Str → Option Value} {news news0 : List (Addr × Obj)} (hs : SubL news0 news) (hm : ∀ z, m0 z = m z) (h : ItemsRest prog w A E h₀ env target body Q s [(I, k)] keep (vs.map .val) m0 news0) : ItemsRest prog w A E h₀ env target body Q s [(I, k)] keep (vs.map .val) m news := by
  have em : m0 = m := funext hm
  subst em
  cases vs with
  | nil => exact fun h' tk F N => h h' tk F fun p hp => N p (hs.mem p hp)
  | cons v r =>
    refine ItemsRest.val fun h' tk F => AllObj.cons fun oI hc => AllObj.nil fun N => ?_
    have z : AllObj [(I, k)] _ := h v h' tk rfl F
    exact z oI hc fun p hp => N p (by
      rcases List.mem_cons.mp hp with rfl | hp
      · exact .head _
      · exact .tail _ (hs.mem p hp))
noncomputable def DFa (n : Nat) (l : List (Str × DV)) (kvs : List (Str × Value)) : Prop := kvs.length ≤ n ∧ ∀ p ∈ l, ∃ v, valueAt kvs p.1 = some v ∧ dval v = p.2 ∧ vis (kb p.1) v
theorem DFa.put {n : Nat} {l l' : List (Str × DV)} {kvs : List (Str × Value)} {nm : Str} {u : Value} (h : DFa n l kvs) (k : ∀ p ∈ l', (p.1 = nm ∧ dval u = p.2 ∧ vis (kb p.1) u) ∨ (p.1 ≠ nm ∧ p ∈ l)) : DFa (n + 1) l' (stored kvs nm u) := by
  refine ⟨Nat.le_trans (stored_length_le _ _ _) (by have := h.1; omega), fun p hp => ?_⟩
  rw [valueAt_stored]
  rcases k p hp with ⟨e, r⟩ | ⟨e, r⟩
  · rw [if_pos e]; exact ⟨_, rfl, r⟩
  · rw [if_neg e]; exact h.2 p r
theorem d_made {w : World} {h₀ h : Heap} {L : Addr} {m : Str → Option Value} {news : List (Addr × Obj)} {vs : List (Value × Value)} {P : Heap → Prop} (F : Fr h₀ L h m) (N : News h₀ L h news) (hbig : h₀.NoLimit) (hk : allStrKeys vs = true) (hn : ((strPairs vs).map (·.1)).Nodup) (n : Nat) (l : List (Str × DV)) (hf : DFa n l (strPairs vs))
    (k : ∀ kvs h' o, Fr h₀ L h' m → News h₀ L h' ((h.objs.size, o) :: news) → (∀ p ∈ news, p.1 < h.objs.size) → (h.objs.size == sysModules) = false → o.IsDictOf (PySem.strKind pw w) kvs → DFa n l kvs → P h') :
    ∃ kvs, Carries (PySem.strKind pw w) vs kvs ∧ (h.push { cls := .type "dict", data := .dict #[] }).DictOf (PySem.strKind pw w) h.objs.size [] ∧
      ∀ h', h'.DictOf (PySem.strKind pw w) h.objs.size (merged [] kvs) → Heap.SameBut h.objs.size (h.push { cls := .type "dict", data := .dict #[] }) h' → P h' :=
  made_str F N hk hn fun h' o F' N' hd => k _ h' o F' N' (fun p hp => Heap.lt_size (N p hp).1) (F.notModules (modules_low hbig)) hd hf
noncomputable def FInv (w : World) (x : Str) (d T : Addr) (lo : Obj) (n : Nat) (l : List (Str × DV)) (m : Str → Option Value) (news : List (Addr × Obj)) : Prop :=
  ∃ o kvs, m x = some (.ref d) ∧ SubL [(T, lo), (d, o)] news ∧ o.IsDictOf (PySem.strKind pw w) kvs ∧ DFa n l kvs
theorem items_found {prog : Program} {w : World} {A : Around} {E : Value → Shared → Prop} {h₀ : Heap} {env : Env} {target : PySem.Expr} {body : List Stmt} {Q : Flow → Shared → Prop} {s : Shared} {I T d : Addr} {lo o : Obj} {k : String} {vs : List Value} {kvs : List (Str × Value)}
    {m : Str → Option Value} {news : List (Addr × Obj)} (n0 : Nat) (Ls : Nat → List (Str × DV)) (x : Str) (hs : SubL [(T, lo), (d, o)] news) (hm : m x = some (.ref d)) (hd : o.IsDictOf (PySem.strKind pw w) kvs) (fa : DFa n0 (Ls 0) kvs)
    (turn : ∀ i v (m : Str → Option Value) o kvs h tk oI, vs[i]? = some v → m x = some (.ref d) → o.IsDictOf (PySem.strKind pw w) kvs → DFa (n0 + i) (Ls i) kvs → oI.cls = .type k → Fr h₀ env.locals h (fun z => if z = x then some (.ref d) else m z) → News h₀ env.locals h [(I, oI), (T, lo), (d, o)] →
      wpAny (model prog w) A (assign target env v) (fun _ s₂ => wpAny (model prog w) A (execs body env) (UnrPostW h₀ env.locals { s with heap := h, toks := tk } [(I, oI)] (fun m' n' => SubL [(T, lo)] n' ∧ FInv w x d T lo (n0 + (i + 1)) (Ls (i + 1)) m' n') Q) E s₂) E { s with heap := h, toks := tk })
    (fin : ∀ (m : Str → Option Value) o kvs h tk, o.IsDictOf (PySem.strKind pw w) kvs → DFa (n0 + vs.length) (Ls vs.length) kvs → Fr h₀ env.locals h (fun z => if z = x then some (.ref d) else m z) → News h₀ env.locals h [(T, lo), (d, o)] → Q .next { s with heap := h, toks := tk }) :
    ItemsRest prog w A E h₀ env target body Q s [(I, k)] [(T, lo)] (vs.map .val) m news := by
  have same : ∀ {m : Str → Option Value}, m x = some (.ref d) → ∀ z, (if z = x then some (.ref d) else m z) = m z := fun hm z => by
    by_cases e : z = x
    · rw [if_pos e, e, hm]
    · rw [if_neg e]
  refine items_sub hs (fun _ => rfl) (items_inv (fun i m n => FInv w x d T lo (n0 + i) (Ls i) m n) ?_ ?_ ⟨o, kvs, hm, ⟨.head _, .tail _ (.head _), trivial⟩, hd, fa⟩)
  · rintro i v m n h tk oI hv ⟨o', kvs', hm, hs, hd, fa⟩ hc F N
    exact turn i v m o' kvs' h tk oI hv hm hd fa hc (Mine.Fr.as F (same hm)) fun p hp => N p (by
      rcases List.mem_cons.mp hp with rfl | hp
      · exact .head _
      · exact .tail _ (hs.mem p hp))
  · rintro m n h tk ⟨o', kvs', hm, hs, hd, fa⟩ F N
    exact fin m o' kvs' h tk hd fa (Mine.Fr.as F (same hm)) fun p hp => N p (hs.mem p hp)
theorem visF {x a : Str} {t : Tok} (h : kb x = false) : vis (kb x) (.str a t) := by rw [h]; exact ⟨_, _, rfl⟩
theorem visT {x : Str} {b : Bool} (h : kb x = true) : vis (kb x) (.bool b) := by rw [h]; exact ⟨_, rfl⟩
noncomputable def L3 : List (Str × DV) := [(S "gc", .s (S "Cn")), (S "ea", .s (S "N")), (S "incb", .s (S "None"))]
noncomputable def L4 (i : Nat) : List (Str × DV) := if i = 0 then L3 else (S "gcb", .s (S "Other")) :: L3
noncomputable def L5 (i : Nat) : List (Str × DV) := (if 6 ≤ i then [(S "di", .b false)] else []) ++ (if 5 ≤ i then [(S "ep", .b false)] else []) ++ L4 1
noncomputable def L6 (_ : Nat) : List (Str × DV) := L5 13
noncomputable def NmOk (U : Value → Prop) (l l' : List (Str × DV)) (v : Value) : Prop := ∃ nm t, v = .str nm t ∧ ∀ u, U u → ∀ p ∈ l', (p.1 = nm ∧ dval u = p.2 ∧ vis (kb p.1) u) ∨ (p.1 ≠ nm ∧ p ∈ l)
theorem nm_keep {U : Value → Prop} {l : List (Str × DV)} {nm : Str} {t : Tok} (h : ∀ p ∈ l, p.1 ≠ nm) : NmOk U l l (.str nm t) := ⟨_, _, rfl, fun _ _ p hp => .inr ⟨h p hp, hp⟩⟩
theorem nm_new {U : Value → Prop} {l : List (Str × DV)} {nm : Str} {t : Tok} {dv : DV} (h : ∀ p ∈ l, p.1 ≠ nm) (hu : ∀ u, U u → dval u = dv ∧ vis (kb nm) u) : NmOk U l ((nm, dv) :: l) (.str nm t) := ⟨_, _, rfl, fun u hU p hp => by
  rcases List.mem_cons.mp hp with rfl | hp
  · exact .inl ⟨rfl, hu u hU⟩
  · exact .inr ⟨h p hp, hp⟩⟩
theorem at_nil {P : Nat → Value → Prop} : ∀ i v, ([] : List Value)[i]? = some v → P i v := fun _ _ e => nomatch (e : none = some _)
theorem at_cons {P : Nat → Value → Prop} {a : Value} {l : List Value} (h0 : P 0 a) (h : ∀ i v, l[i]? = some v → P (i + 1) v) : ∀ i v, (a :: l)[i]? = some v → P i v
  | 0, _, e => Option.some.inj e ▸ h0
  | i + 1, v, e => h i v e
theorem nm1 {t1 t2 t3 : Tok} {i : Nat} {v : Value} (h : [Value.str (Str.ofString "gcb") t1, .str (Str.ofString "wb") t2, .str (Str.ofString "sb") t3][i]? = some v) : i < 3 ∧ NmOk (fun u => ∃ t, u = .str (Str.ofString "Other") t) (L4 i) (L4 (i + 1)) v :=
  at_cons (P := fun i v => i < 3 ∧ NmOk (fun u => ∃ t, u = .str (Str.ofString "Other") t) (L4 i) (L4 (i + 1)) v) ⟨by decide, nm_new (by decide +kernel) (by rintro _ ⟨t, rfl⟩; exact ⟨rfl, visF (by decide +kernel)⟩)⟩ (at_cons ⟨by decide, nm_keep (by decide +kernel)⟩ (at_cons ⟨by decide, nm_keep (by decide +kernel)⟩ at_nil)) i v h
theorem nm2 {t0 t1 t2 t3 t4 t5 t6 t7 t8 t9 t10 t11 t12 : Tok} {i : Nat} {v : Value} (h : [.str (Str.ofString "ex") t0, .str (Str.ofString "sd") t1, .str (Str.ofString "cased") t2, .str (Str.ofString "ci") t3, .str (Str.ofString "ep") t4, .str (Str.ofString "di") t5, .str (Str.ofString "ids") t6, .str (Str.ofString "idc") t7, .str (Str.ofString "xids") t8, .str (Str.ofString "xidc") t9, .str (Str.ofString "pat_syn") t10, .str (Str.ofString "pat_ws") t11, .str (Str.ofString "idst") t12][i]? = some v) : i < 13 ∧ NmOk (fun u => u = .bool false) (L5 i) (L5 (i + 1)) v :=
  at_cons (P := fun i v => i < 13 ∧ NmOk (fun u => u = .bool false) (L5 i) (L5 (i + 1)) v) ⟨by decide, nm_keep (by decide +kernel)⟩ (at_cons ⟨by decide, nm_keep (by decide +kernel)⟩ (at_cons ⟨by decide, nm_keep (by decide +kernel)⟩ (at_cons ⟨by decide, nm_keep (by decide +kernel)⟩ (at_cons ⟨by decide, nm_new (by decide +kernel) (by rintro _ rfl; exact ⟨rfl, visT (by decide +kernel)⟩)⟩ (at_cons ⟨by decide, nm_new (by decide +kernel) (by rintro _ rfl; exact ⟨rfl, visT (by decide +kernel)⟩)⟩ (at_cons ⟨by decide, nm_keep (by decide +kernel)⟩ (at_cons ⟨by decide, nm_keep (by decide +kernel)⟩ (at_cons ⟨by decide, nm_keep (by decide +kernel)⟩ (at_cons ⟨by decide, nm_keep (by decide +kernel)⟩ (at_cons ⟨by decide, nm_keep (by decide +kernel)⟩ (at_cons ⟨by decide, nm_keep (by decide +kernel)⟩ (at_cons ⟨by decide, nm_keep (by decide +kernel)⟩ at_nil)))))))))))) i v h
theorem nm3 {t0 t1 t2 t3 t4 t5 t6 t7 t8 t9 t10 t11 t12 : Tok} {i : Nat} {v : Value} (h : [.str (Str.ofString "dm") t0, .str (Str.ofString "uc") t1, .str (Str.ofString "lc") t2, .str (Str.ofString "tc") t3, .str (Str.ofString "cf") t4, .str (Str.ofString "bm") t5, .str (Str.ofString "bpb") t6, .str (Str.ofString "scx") t7, .str (Str.ofString "nt") t8, .str (Str.ofString "nv") t9, .str (Str.ofString "name") t10, .str (Str.ofString "conf") t11, .str (Str.ofString "nfkc_cf") t12][i]? = some v) : i < 13 ∧ NmOk (fun u => u = .none) (L6 i) (L6 (i + 1)) v :=
  at_cons (P := fun i v => i < 13 ∧ NmOk (fun u => u = .none) (L6 i) (L6 (i + 1)) v) ⟨by decide, nm_keep (by decide +kernel)⟩ (at_cons ⟨by decide, nm_keep (by decide +kernel)⟩ (at_cons ⟨by decide, nm_keep (by decide +kernel)⟩ (at_cons ⟨by decide, nm_keep (by decide +kernel)⟩ (at_cons ⟨by decide, nm_keep (by decide +kernel)⟩ (at_cons ⟨by decide, nm_keep (by decide +kernel)⟩ (at_cons ⟨by decide, nm_keep (by decide +kernel)⟩ (at_cons ⟨by decide, nm_keep (by decide +kernel)⟩ (at_cons ⟨by decide, nm_keep (by decide +kernel)⟩ (at_cons ⟨by decide, nm_keep (by decide +kernel)⟩ (at_cons ⟨by decide, nm_keep (by decide +kernel)⟩ (at_cons ⟨by decide, nm_keep (by decide +kernel)⟩ (at_cons ⟨by decide, nm_keep (by decide +kernel)⟩ at_nil)))))))))))) i v h
theorem nm4 {t0 t1 t2 t3 : Tok} {i : Nat} {v : Value} (h : [.str (Str.ofString "suc") t0, .str (Str.ofString "slc") t1, .str (Str.ofString "stc") t2, .str (Str.ofString "alias") t3][i]? = some v) : i < 4 ∧ NmOk (fun u => True) (L6 i) (L6 (i + 1)) v :=
  at_cons (P := fun i v => i < 4 ∧ NmOk (fun u => True) (L6 i) (L6 (i + 1)) v) ⟨by decide, nm_keep (by decide +kernel)⟩ (at_cons ⟨by decide, nm_keep (by decide +kernel)⟩ (at_cons ⟨by decide, nm_keep (by decide +kernel)⟩ (at_cons ⟨by decide, nm_keep (by decide +kernel)⟩ at_nil))) i v h
theorem DFa.mono {n n' : Nat} {l : List (Str × DV)} {kvs : List (Str × Value)} (h : DFa n l kvs) (e : n ≤ n') : DFa n' l kvs := ⟨Nat.le_trans h.1 e, h.2⟩
noncomputable def DefsRet (w : World) (h : Heap) (r : Value) (h' : Heap) : Prop := ∃ df kd, r = .ref df ∧ h'.DictOf (strKind pw w) df kd ∧ DFa 50 (L5 13) kd ∧ (df == sysModules) = false ∧ h.get? df = none
theorem defs_cc {w : World} {base : Heap} (G : Gr w base) : CC w base 253 [] 6 (fun _ => True) (fun h r h' => Kp h h' ∧ DefsRet w h r h') := by
  have G' := G
  obtain ⟨X, p, loose, mean, mg, mb, T⟩ := G
  intro dp un fr gd s Q E hdp hun hb hp hret
  w_on
  k_dflt (refine enter (binds := []) [] X T hb (fun _ h => nomatch h) (by k_is) (by k_is) (by show dp < recursionLimit; omega) (BindsTo.of_eq rfl) (locs rfl) (fun E9 Q9 g L h₁ g9s d9r t9k o9s hQ9 hE9 hP9 hA9 hB hG X' T' F' N' hL => ?_))
  try dsimp only
  k_unmd
  try k_fold
  k_with "exec For Name Tuple cons nil" => ((rename Fr _ _ _ _ => lF'); (with_reducible refine For_turns lF' ?_ ?hs ?hE); (case hs => (intro x; k_dflt rfl)); (case hE => k_dflt passes_own))
  k_with "pyIter ref" => ((rename News _ _ _ _ => lN'); (try dsimp only at lN'); (try dsimp only); ktu_seq)
  k_with "ItemsRest" => ((try dsimp only); refine Hold.out ?_)
  k_with "Exists" => (k_here; (refine d_made (by k_asm) (by first | k_asm | exact News.nil) (Top.nolimit (by k_asm)) (by rfl) (of_decide_eq_true (by rfl)) 8 L3 ?dfa ?_); (case dfa => exact ⟨Nat.le_of_ble_eq_true rfl, fun p hp => by (simp only [L3, List.mem_cons, List.not_mem_nil, or_false] at hp; rcases hp with rfl | rfl | rfl <;> exact ⟨_, by (with_unfolding_all rfl), rfl, visF (by decide +kernel)⟩)⟩); intro kvs9 h9 o9 F9 N9 l9 lo9 hd9 fa9; (try k_lt l9); (try dsimp only); k_sweep)
  k_with "setItem ref str" => ((refine' kda_set (knd := strKind pw w) ?F ?N ?U ?d (strKind_is _ _ _ _) ?z ?_; (case F => k_asm); (case N => k_asm); (case U => k_updF); (case d => k_asm); (case z => (rw [sizeLine_eq]; omega))); intro h' o' F' N' hd'; (try dsimp only at N'))
  k_steps
  all_goals (try ((with_reducible refine hQ9 _ _ _ ?_); (try dsimp only)))
  refine items_found 8 L4 (Str.ofString "found") (by k_subL) rfl hd9 fa9 ?_ ?_
  · intro i v m o kvs h tk oI hv hm hd fa hc F N
    obtain ⟨hi, nm, t, rfl, hst⟩ := nm1 hv
    have hlen := fa.1
    clear hv hd9 fa9
    try dsimp only
    k_steps
    all_goals (try ((with_reducible refine hQ9 _ _ _ ?_); (try dsimp only)))
    exact ⟨_, _, rfl, by k_subL, by assumption, fa.put (hst _ ⟨_, rfl⟩)⟩
  clear hd9 fa9
  intro m8 o8 kvs8 h8 tk8 hd8 fa8 F8 N8
  try dsimp only
  replace F8 : Fr g L h8 _ := F8
  replace N8 : News g L h8 _ := N8
  k_sweep
  k_steps
  all_goals (try ((with_reducible refine hQ9 _ _ _ ?_); (try dsimp only)))
  refine items_found 11 L5 (Str.ofString "found") (by k_subL) rfl hd8 fa8 ?_ ?_
  · intro i v m o kvs h tk oI hv hm hd fa hc F N
    have hx : i < 13 ∧ NmOk (fun u => u = .bool false) (L5 i) (L5 (i + 1)) v := nm2 hv
    obtain ⟨hi, nm, t, rfl, hst⟩ := hx
    have hlen := fa.1
    clear hv hd8 fa8
    try dsimp only
    k_steps
    all_goals (try ((with_reducible refine hQ9 _ _ _ ?_); (try dsimp only)))
    exact ⟨_, _, rfl, by k_subL, by assumption, fa.put (hst _ rfl)⟩
  clear hd8 fa8
  intro m7 o7 kvs7 h7 tk7 hd7 fa7 F7 N7
  try dsimp only
  replace F7 : Fr g L h7 _ := F7
  replace N7 : News g L h7 _ := N7
  k_sweep
  k_steps
  all_goals (try ((with_reducible refine hQ9 _ _ _ ?_); (try dsimp only)))
  refine items_found 24 L6 (Str.ofString "found") (by k_subL) rfl hd7 fa7 ?_ ?_
  · intro i v m o kvs h tk oI hv hm hd fa hc F N
    have hx : i < 13 ∧ NmOk (fun u => u = .none) (L6 i) (L6 (i + 1)) v := nm3 hv
    obtain ⟨hi, nm, t, rfl, hst⟩ := hx
    have hlen := fa.1
    clear hv hd7 fa7
    try dsimp only
    k_steps
    all_goals (try ((with_reducible refine hQ9 _ _ _ ?_); (try dsimp only)))
    exact ⟨_, _, rfl, by k_subL, by assumption, fa.put (hst _ rfl)⟩
  clear hd7 fa7
  intro m6 o6 kvs6 h6 tk6 hd6 fa6 F6 N6
  try dsimp only
  replace F6 : Fr g L h6 _ := F6
  replace N6 : News g L h6 _ := N6
  k_sweep
  k_steps
  all_goals (try ((with_reducible refine hQ9 _ _ _ ?_); (try dsimp only)))
  refine items_found 37 L6 (Str.ofString "found") (by k_subL) rfl hd6 fa6 ?_ ?_
  · intro i v m o kvs h tk oI hv hm hd fa hc F N
    have hx : i < 4 ∧ NmOk (fun u => True) (L6 i) (L6 (i + 1)) v := nm4 hv
    obtain ⟨hi, nm, t, rfl, hst⟩ := hx
    have hlen := fa.1
    clear hv hd6 fa6
    try dsimp only
    k_steps
    all_goals (try ((with_reducible refine hQ9 _ _ _ ?_); (try dsimp only)))
    exact ⟨_, _, rfl, by k_subL, by assumption, fa.put (hst _ trivial)⟩
  clear hd6 fa6
  intro m5 o5 kvs5 h5 tk5 hd5 fa5 F5 N5
  try dsimp only
  replace F5 : Fr g L h5 _ := F5
  replace N5 : News g L h5 _ := N5
  k_sweep
  have hlen : kvs5.length ≤ 41 := fa5.1
  k_steps
  all_goals (try ((with_reducible refine hQ9 _ _ _ ?_); (try dsimp only)))
  all_goals (try dsimp only)
  have z := N' (h₁.objs.size, o') (by k_mem)
  refine hret _ _ _ ⟨fun b o e => F'.keep b o (hG b o e (fun h => nomatch h)), _, _, rfl, Heap.dictOf_iff.mpr ⟨_, z.1, hd'⟩, (fa5.put (l' := L5 13) fun p hp => .inr ⟨(by decide +kernel : ∀ p ∈ L5 13, p.1 ≠ Str.ofString "idna") p hp, hp⟩).mono (by show 37 + 4 + 1 ≤ 50; decide), lo9, ?_⟩
  cases e : s.heap.get? h₁.objs.size with
  | none => rfl
  | some o => have := hG _ _ e (fun h => nomatch h); rw [z.2.2] at this; cases this
end Mine

end

section
open PySem PySem.W PyProof.Rows PySem.Calls
namespace Mine
set_option maxRecDepth 100000
set_option maxHeartbeats 0
theorem fill13 : PySem.Challenge.rw_pb0596_01.foot = 6 ∧ K9 = K9 := by
  k_with_none
  k_with "my ne" => (first | (with_reducible first | assumption | exact Ne.symm (by assumption) | exact Mine.nr1 (by assumption) | exact Mine.ns1 (by assumption) | exact Mine.nt1 (by assumption) | exact Mine.nu1 (by assumption) | exact Mine.nr2 (by assumption) | exact Mine.ns2 (by assumption) | exact Mine.nt2 (by assumption) | exact Mine.nu2 (by assumption) | exact Mine.nr3 (by assumption) | exact Mine.ns3 (by assumption) | exact Mine.nt3 (by assumption) | exact Mine.nu3 (by assumption) | exact Mine.nr4 (by assumption) | exact Mine.ns4 (by assumption) | exact Mine.nt4 (by assumption) | exact Mine.nu4 (by assumption) | exact Mine.nr5 (by assumption) | exact Mine.ns5 (by assumption) | exact Mine.nt5 (by assumption) | exact Mine.nu5 (by assumption) | exact Mine.nr6 (by assumption) | exact Mine.ns6 (by assumption) | exact Mine.nt6 (by assumption) | exact Mine.nu6 (by assumption) | exact Mine.nr7 (by assumption) | exact Mine.ns7 (by assumption) | exact Mine.nt7 (by assumption) | exact Mine.nu7 (by assumption) | exact Mine.nr8 (by assumption) | exact Mine.ns8 (by assumption) | exact Mine.nt8 (by assumption) | exact Mine.nu8 (by assumption) | exact Mine.nr9 (by assumption) | exact Mine.ns9 (by assumption) | exact Mine.nr10 (by assumption) | exact Mine.ns10 (by assumption) | exact Mine.nr11 (by assumption) | exact Mine.ns11 (by assumption) | exact Mine.nr12 (by assumption) | exact Mine.ns12 (by assumption) | exact Mine.nw1 (by assumption) | exact Mine.nw2 (by assumption) | exact Mine.nw3 (by assumption) | exact Mine.nw4 (by assumption) | exact Mine.nw5 (by assumption) | exact Mine.nw6 (by assumption) | exact Mine.nk1 (by assumption) | exact Mine.nk2 (by assumption) | exact Mine.nk3 (by assumption) | exact Mine.nk4 (by assumption)) | fail "no")
  k_with "my om" => (first | ((with_reducible show @Eq Int _ _); with_reducible first | assumption | exact Eq.symm (by assumption) | exact Int.toNat_of_nonneg (by assumption)) | fail "no")
  k_with "my om" => (first | ((with_reducible show And (@LE.le Int _ _ _) _); with_reducible first | assumption | (refine Mine.i2 (by assumption) ?_; omega) | (refine Mine.i2' (by assumption) ?_; omega)) | fail "no")
  k_with "my om" => (first | ((with_reducible show @LT.lt Int _ _ _); first | (with_reducible first | assumption | exact Mine.i1' (by assumption) | exact Int.ofNat_lt.mpr (by assumption) | exact And.left (by assumption) | exact And.right (by assumption) | exact Int.lt_of_not_le (by assumption)) | decide +kernel) | fail "no")
  k_with "my om" => (first | ((with_reducible show @LE.le Int _ _ _); first | (with_reducible first | assumption | exact Int.natCast_nonneg _ | exact Int.le_refl _ | exact Mine.i1 _ | exact Int.ofNat_le.mpr (by assumption) | exact Mine.i6 (by assumption) (by assumption) | (refine Mine.i7 ?_; omega) | exact And.left (by assumption) | exact And.right (by assumption) | exact Int.le_of_not_lt (by assumption) | exact Int.le_of_lt (by assumption)) | decide +kernel) | fail "no")
  k_with "my om" => (first | ((with_reducible show @Eq Nat _ _); with_reducible first | assumption | exact Eq.symm (by assumption) | exact Mine.i5 (by assumption) | exact Mine.i4 _ | exact Mine.i3 _ | exact Eq.symm (Mine.i4 _) | exact Nat.add_sub_cancel_left .. | exact Nat.min_eq_left (by assumption) | exact Eq.trans (by assumption) (by assumption) | exact Eq.trans (Eq.symm (by assumption)) (by assumption) | exact Eq.trans (by assumption) (Eq.symm (by assumption))) | fail "no")
  k_with "my om" => (first | ((with_reducible show @LT.lt Nat _ _ _); with_reducible first | assumption | exact Mine.np (by assumption) | exact Mine.nq (by assumption) rfl | exact Mine.nv (by assumption) rfl | exact Mine.ia (by assumption) (by assumption) | exact Mine.ib (by assumption) (by assumption) | exact Nat.lt_of_lt_of_le (by assumption) (by assumption) | exact Nat.succ_lt_succ (by assumption) | exact And.left (by assumption) | exact And.right (by assumption) | exact Nat.lt_of_not_le (by assumption) | exact Mine.ia (Mine.ia (by assumption) (by assumption)) (by assumption) | exact Mine.ib (Mine.ia (by assumption) (by assumption)) (by assumption) | exact Mine.ia (Mine.ib (by assumption) (by assumption)) (by assumption) | exact Mine.ib (Mine.ib (by assumption) (by assumption)) (by assumption)) | fail "no")
  k_with "my om" => (first | ((with_reducible show @LE.le Nat _ _ _); first | (with_reducible first | assumption | exact Mine.nc (by assumption) rfl | exact Nat.le_refl _ | exact Mine.nl (by assumption) (by assumption) | exact Mine.nm (by assumption) (by assumption) | exact Mine.nn (by assumption) (by assumption) | exact Mine.nn (by assumption) (Mine.nc (by assumption) rfl) | exact Mine.nl (by assumption) (Mine.nc (by assumption) rfl) | exact Mine.nm (by assumption) (Mine.nc (by assumption) rfl) | exact Mine.nl (by assumption) (Mine.nl (by assumption) (Mine.nc (by assumption) rfl)) | exact Mine.nl (by assumption) (Mine.nn (by assumption) (Mine.nc (by assumption) rfl)) | exact Mine.nm (by assumption) (Mine.nn (by assumption) (Mine.nc (by assumption) rfl)) | exact Mine.nl (by assumption) (Mine.nm (by assumption) (Mine.nc (by assumption) rfl)) | exact Mine.nm (by assumption) (Mine.nl (by assumption) (Mine.nc (by assumption) rfl)) | exact Mine.nm (by assumption) (Mine.nm (by assumption) (Mine.nc (by assumption) rfl)) | exact Nat.le_add_right _ _ | exact Nat.succ_le_succ (by assumption) | exact Nat.le_of_eq (by assumption) | exact Nat.le_of_eq (Eq.symm (by assumption)) | exact Nat.le_succ_of_le (by assumption) | exact Nat.le_of_not_lt (by assumption) | exact Int.toNat_le_toNat (by assumption) | exact Mine.ig (by assumption) (by assumption) rfl | exact Mine.ih (by assumption) (by assumption) rfl | exact And.left (by assumption) | exact And.right (by assumption) | (refine Mine.ie ?_ (by assumption); omega) | (refine Mine.ie' ?_ (by assumption); omega) | (refine Mine.id1 ?_; omega) | (refine Mine.ij ?_; omega) | (refine Mine.ic (by assumption) rfl ?_; omega)) | exact Mine.nz rfl) | fail "no")
  k_with "my own" => (first | assumption | exact Mine.PAt.of (by assumption) (PySem.SameStack.mark _ _) | exact Mine.PAt.of (by assumption) (PySem.SameStack.unmark _ _) | fail "no")
  k_fill
  k_with "my inst" => (first | exact InstAt.mix (by assumption) (by k_asm) (by k_asm) (by k_mem) | fail "no")
  exact ⟨rfl, rfl⟩
noncomputable def sem0 (y : Str) (_ : Int) : DV := (((L5 13).find? fun p => p.1 == y).map (·.2)).getD .n
theorem use_defs {w : World} {base g : Heap} {s : Shared} {L : Addr} {m : Str → Option Value} {news : List (Addr × Obj)} {Q E : Value → Shared → Prop} {dp un : Nat} {fr : Option (List Env)} {gd : Option (List Code)} (G : Gr w base) (hB : Kp base g) (F : Fr g L s.heap m) (N : News g L s.heap news)
    (hd : dp + 6 < recursionLimit) (hu : un + 8 * 6 < cLine)
    (h : ∀ df o kd h' tk', Fr g L h' m → News g L h' ((df, o) :: news) → o.IsDictOf (strKind pw w) kd → DFa 50 (L5 13) kd → (df == sysModules) = false → s.heap.get? df = none → Kp s.heap h' → (∀ p ∈ news, (@Ne Nat p.1 df)) → Q (.ref df) { s with heap := h', toks := tk' }) :
    wpAny (model pw w) (Ar dp un fr gd) (call (.ref 253) []) Q E s :=
  defs_cc G _ _ _ _ _ _ _ hd hu (hB.trans F.keep) trivial fun v h' tk' ⟨k, df, kd, e, hdct, fa, lo, fr⟩ => by
    subst e
    obtain ⟨o, ho, hisd⟩ := Heap.dictOf_iff.mp hdct
    refine h df o kd h' tk' (F.keeps k) (fun p hp => ?_) hisd fa lo fr k fun p hp q => ?_
    · rcases List.mem_cons.mp hp with rfl | hp
      · refine ⟨ho, fun q => ?_, none_g F fr⟩
        have q' : df = L := q
        subst q'
        obtain ⟨o, _, _, e', _⟩ := F.ns
        rw [fr] at e'; cases e'
      · exact (N.grown k) p hp
    · have z := (N p hp).1
      rw [show p.1 = df from q, fr] at z; cases z
theorem sem0_ok {kd : List (Str × Value)} {n : Nat} (fa : DFa n (L5 13) kd) (y : Str) (hy : y ∈ N6) : vis (kb y) ((valueAt kd y).getD .none) ∧ ∀ z : Int, 0 ≤ z → dval ((valueAt kd y).getD .none) = sem0 y z := by
  have hall : ∀ y ∈ N6, ∃ p ∈ L5 13, p.1 = y ∧ sem0 y 0 = p.2 := by decide +kernel
  obtain ⟨p, hp, rfl, e⟩ := hall y hy
  obtain ⟨v, hv, hd, hk⟩ := fa.2 p hp
  rw [hv]
  exact ⟨hk, fun z _ => by rw [show sem0 p.1 z = sem0 p.1 0 from rfl, e]; exact hd⟩
theorem dinit_fin {w : World} {s : Shared} {Q : Result → Shared → Prop} {g h' : Heap} {L x dx df dm : Addr} {pr wo : Value} {t0 t1 t2 t3 : Tok} {n tk : Nat} {od om : Obj} {kd : List (Str × Value)} {m : Str → Option Value} {news : List (Addr × Obj)}
    (hret : ∀ (h' : Heap) (tk' : Nat), (∃ D : DS, DatM w h' x D (fun _ => none) sem0 0 ∧ D.dd = dx ∧ s.heap.get? D.df = none ∧ s.heap.get? D.dm = none ∧ (∀ b o, b ≠ dx → s.heap.get? b = some o → h'.get? b = some o)) → Q (.ok (.ret .none)) { s with heap := h', toks := tk' })
    (hG : ∀ b o, s.heap.get? b = some o → ¬ b ∈ List.map (fun x => x.fst) [(dx, dictOf [] 0)] → g.get? b = some o) (hxg : g.get? x = some (instObj 291 dx)) (hd : od.IsDictOf (strKind pw w) kd) (hm : om.IsDictOf (strKind pw w) []) (fa : DFa 50 (L5 13) kd)
    (l1 : (df == sysModules) = false) (l2 : (dm == sysModules) = false) (n1 : df < dm ∧ dx < dm) (n2 : dx ≠ df) (F : Fr g L h' m) (N : News g L h' news)
    (m1 : (dx, dictOf (ddEs w ⟨dx, df, dm, pr, wo, t0, t1, t2, t3, n, kd, []⟩) n) ∈ news) (m2 : (df, od) ∈ news) (m3 : (dm, om) ∈ news) : Q (.ok (.ret .none)) { s with heap := h', toks := tk } := by
  have off : ∀ a o, (a, o) ∈ news → a ≠ dx → s.heap.get? a = none := fun a o hm hne => by
    cases e : s.heap.get? a with
    | none => rfl
    | some o' => have := hG a o' e (by simpa using hne); rw [(N _ hm).2.2] at this; cases this
  have a1 : dm ≠ dx := Ne.symm (Nat.ne_of_lt n1.2)
  refine hret _ _ ⟨⟨dx, df, dm, pr, wo, t0, t1, t2, t3, n, kd, []⟩, ⟨⟨F.keep _ _ hxg, rfl, rfl, (N _ m1).1⟩, Heap.dictOf_iff.mpr ⟨_, (N _ m2).1, hd⟩, Heap.dictOf_iff.mpr ⟨_, (N _ m3).1, hm⟩, ⟨l1, l2⟩, Nat.le_refl _, fun _ => rfl, (fun _ _ e => nomatch e), (fun y hy _ => sem0_ok fa y hy),
    ⟨a1, Ne.symm (Nat.ne_of_lt n1.1)⟩, (fun _ _ e => nomatch e), (fun _ _ _ _ e => nomatch e)⟩, rfl, off _ _ m2 (Ne.symm n2), off _ _ m3 a1, fun b o hb e => F.keep b o (hG b o e (by simpa using hb))⟩
theorem dinit_cc {w : World} {base : Heap} (G : Gr w base) (x dx : Addr) (hnb : base.get? dx = none) :
   CI w base 267 [.ref x] 8 (fun h => h.get? x = some (instObj 291 dx) ∧ h.get? dx = some (dictOf [] 0))
    (fun h h' => ∃ D : DS, DatM w h' x D (fun _ => none) sem0 0 ∧ D.dd = dx ∧ h.get? D.df = none ∧ h.get? D.dm = none ∧ (∀ b o, b ≠ dx → h.get? b = some o → h'.get? b = some o)) := by
  have G' := G
  obtain ⟨X, p, loose, mean, mg, mb, T⟩ := G
  intro dp un fr gd s Q hdp hun hb hp hret
  obtain ⟨hx, hdx⟩ := hp
  w_on
  k_dflt (refine enterI (binds := [(Str.ofString "self", .ref x)]) [(dx, dictOf [] 0)] X T hb (fun q hq => by rw [List.mem_singleton.mp hq]; exact ⟨hdx, hnb⟩) (by k_is) (by k_is) (by show dp < recursionLimit; omega) (BindsTo.of_eq rfl) (locs rfl) (fun E9 Q9 g L h₁ g9s d9r t9k o9s hQ9 hE9 hP9 hA9 hB hG X' T' F' N' hL => ?_))
  try dsimp only
  have hxg : g.get? x = some (instObj 291 dx) := hG _ _ hx (by
    intro hm
    have e : x = dx := by simpa using hm
    rw [e, hdx] at hx
    cases hx)
  k_unmd
  try k_fold
  k_with "call ref" => ((with_reducible show wpAny _ _ (PySem.call (Value.ref 253) _ _) _ _ _); (refine' use_defs G' hB ?kF ?kN ?kd ?ku ?_); (case kF => k_asm); (case kN => k_asm); (case kd => k_dflt (exact lim1 hdp rfl)); (case ku => k_dflt (exact lim3 hun rfl)); intro df9 o9 kd9 h9 tk9 F9 N9 hd9 fa9 lo9 fr9 kp9 ne9; (have n9 := ne9 (dx, dictOf [] 0) (by k_mem)); (clear ne9); k_sweep)
  k_steps
  all_goals (try ((with_reducible refine hQ9 _ _ _ ?_); (try dsimp only)))
  refine' dinit_fin hret hG hxg hd9 ?hm fa9 lo9 ?l2 ?n1 n9 ?F ?N ?m1 ?m2 ?m3
  case N => assumption
  case F => assumption
  case m1 => k_mem
  case m2 => k_mem
  case m3 => k_mem
  case hm => assumption
  case l2 => assumption
  case n1 => constructor <;> (refine ltN ?_; omega)
end Mine

end

section
open PySem PySem.W PyProof.Rows PySem.Calls
namespace Mine
set_option maxRecDepth 100000
set_option maxHeartbeats 0
open Classical in
noncomputable def snap (P : Addr → Prop) (h : Heap) : List (Addr × Obj) := (List.range h.objs.size).filterMap fun b => if P b then (h.get? b).map fun o => (b, o) else none
theorem mem_snap {P : Addr → Prop} {h : Heap} {b : Addr} {o : Obj} : (b, o) ∈ snap P h ↔ P b ∧ h.get? b = some o := by
  unfold snap
  rw [List.mem_filterMap]
  constructor
  · rintro ⟨c, _, hc⟩
    by_cases hp : P c
    · rw [if_pos hp] at hc
      cases e : h.get? c with
      | none => rw [e] at hc; cases hc
      | some o' => rw [e] at hc; cases hc; exact ⟨hp, e⟩
    · rw [if_neg hp] at hc; cases hc
  · rintro ⟨hp, e⟩
    exact ⟨b, List.mem_range.mpr (Heap.lt_size e), by rw [if_pos hp, e]; rfl⟩
theorem snap_keep {P : Addr → Prop} {g h h' : Heap} {L : Addr} {news : List (Addr × Obj)} (N : News g L h' news) (hs : ∀ p ∈ snap P h, p ∈ news) : ∀ b o, P b → h.get? b = some o → h'.get? b = some o :=
  fun b o hp e => (N (b, o) (hs _ (mem_snap.mpr ⟨hp, e⟩))).1
theorem new_data {w : World} {base g : Heap} {s : Shared} {L : Addr} {m : Str → Option Value} {news : List (Addr × Obj)} {Q E : Value → Shared → Prop} {dp un : Nat} {fr : Option (List Env)} {gd : Option (List Code)} (G : Gr w base) (hB : Kp base g) (X : Frag.In (K9 w.params) g) (hmk : makesIn (K9 w.params) 291 = true) (hi : findIn (K9 w.params) (.ref 291) "__init__" = some (some (.ref 267))) (hf : isFn (K9 w.params) (.ref 267) = true)
    (F : Fr g L s.heap m) (N : News g L s.heap news) (hdp : dp + 9 < recursionLimit) (hun : un + 90 < cLine)
    (h : ∀ d D h' tk', DatM w h' d D (fun _ => none) sem0 0 → Fr g L h' m → News g L h' (news ++ snap (Sup D (fun _ => none) d) h') → (∀ b, Sup D (fun _ => none) d b → g.get? b = none ∧ b ≠ L ∧ ∀ p ∈ news, p.1 ≠ b) → Q (.ref d) { s with heap := h', toks := tk' }) :
    wpAny (model pw w) (Ar dp un fr gd) (call (.ref 291) []) Q E s := by
  refine call_cls F X N hmk hi hf fun x dx h1 F1 N1 l1 l2 => ?_
  have nd := N1 (dx, dictOf [] 0) (by k_mem)
  have nx := N1 (x, instObj 291 dx) (by k_mem)
  have hdx0 : base.get? dx = none := base_none hB nd.2.2
  refine dinit_cc G x dx hdx0 _ _ _ _ _ _ ?_ ?_ (hB.trans F1.keep) ⟨nx.1, nd.1⟩ ?_
  · exact hdp
  · have hcu : (Code.builtin "type.__call__" ⟨[Value.ref 291], []⟩).cUnits ≤ 16 := Nat.le_of_ble_eq_true rfl
    show un + (Code.builtin "type.__call__" ⟨[Value.ref 291], []⟩).cUnits + 8 * 8 < cLine; omega
  · rintro h' tk' ⟨D, hD, e, f1, f2, kp⟩
    have F2 : Fr g L h' m := Fr.butOne F1 nd.2.1 nd.2.2 kp
    have hL : ∀ a, h1.get? a = none → a ≠ L := fun a e q => by
      subst q
      obtain ⟨o, _, _, e', _⟩ := F1.ns
      rw [e] at e'; cases e'
    have hn : ∀ a, h1.get? a = none → ∀ p ∈ news, p.1 ≠ a := fun a e p hp q => by
      have z := (N1 p (.tail _ (.tail _ hp))).1
      rw [q, e] at z; cases z
    have fresh : ∀ b, Sup D (fun _ => none) x b → g.get? b = none ∧ b ≠ L ∧ ∀ p ∈ news, p.1 ≠ b := fun b hb => by
      cases hb with
      | d => exact ⟨nx.2.2, nx.2.1, fun p hp => Nat.ne_of_lt (Nat.lt_trans (l1 p hp) l2)⟩
      | dd => rw [e]; exact ⟨nd.2.2, nd.2.1, fun p hp => Nat.ne_of_lt (l1 p hp)⟩
      | df => exact ⟨none_g F1 f1, hL _ f1, hn _ f1⟩
      | dm => exact ⟨none_g F1 f2, hL _ f2, hn _ f2⟩
      | rm q => cases q
      | rd q => cases q
      | ls q => cases q
      | lv q => cases q
    refine ⟨rfl, h x D h' tk' hD F2 (fun p hp => ?_) fresh⟩
    rcases List.mem_append.mp hp with hp | hp
    · have z := N1 p (.tail _ (.tail _ hp))
      exact ⟨kp _ _ (Nat.ne_of_lt (l1 p hp)) z.1, z.2⟩
    · obtain ⟨b, o⟩ := p
      have z := mem_snap.mp hp
      exact ⟨z.2, (fresh b z.1).2.1, (fresh b z.1).1⟩
end Mine

end

section
open PySem PySem.W PyProof.Rows PySem.Calls
namespace Mine
theorem DatM.sup_some {w : World} {h : Heap} {d : Addr} {D : DS} {ms : Str → Option MS} {sem : Str → Int → DV} {n : Nat} (P : DatM w h d D ms sem n) {b : Addr} (hb : Sup D ms d b) : ∃ o, h.get? b = some o := by
  cases hb with
  | d => exact ⟨_, P.inst.at_⟩
  | dd => exact ⟨_, P.inst.dict⟩
  | df => obtain ⟨o, e, _⟩ := Heap.dictOf_iff.mp P.dfl; exact ⟨o, e⟩
  | dm => obtain ⟨o, e, _⟩ := Heap.dictOf_iff.mp P.maps; exact ⟨o, e⟩
  | rm q => exact ⟨_, (P.each _ _ q).1.inst.at_⟩
  | rd q => exact ⟨_, (P.each _ _ q).1.inst.dict⟩
  | ls q => obtain ⟨o, e, _⟩ := (P.each _ _ q).1.sl; exact ⟨o, e⟩
  | lv q => obtain ⟨o, e, _⟩ := (P.each _ _ q).1.vl; exact ⟨o, e⟩
theorem FP.sup {D : DS} {ms : Str → Option MS} {d b : Addr} (h : FP D ms b) : Sup D ms d b := by
  rcases h with rfl | ⟨x, M, hm, rfl⟩
  · exact .dm
  · exact .rd hm
theorem DatM.fp_dict {w : World} {h : Heap} {d : Addr} {D : DS} {ms : Str → Option MS} {sem : Str → Int → DV} {n : Nat} (P : DatM w h d D ms sem n) {b : Addr} (hb : FP D ms b) {o : Obj} (e : h.get? b = some o) : o.cls = .type "dict" := by
  rcases hb with rfl | ⟨x, M, hm, rfl⟩
  · obtain ⟨o', e', es, ep, ⟨hc, _⟩, _⟩ := Heap.dictOf_iff.mp P.maps
    rw [e] at e'; cases e'; exact hc
  · have := (P.each _ _ hm).1.inst.dict
    rw [show h.get? M.rd = _ from this] at e; cases e; rfl
inductive Tail (t : List (Addr × Obj)) : List (Addr × Obj) → List (Addr × Obj) → Prop
  | nil : Tail t [] t
  | cons {p : Addr × Obj} {r n : List (Addr × Obj)} : Tail t r n → Tail t (p :: r) (p :: n)
theorem Tail.eq {t r n : List (Addr × Obj)} (x : Tail t r n) : n = r ++ t := by
  induction x with
  | nil => rfl
  | cons _ ih => rw [ih]; rfl
noncomputable def NoDict : List (Addr × Obj) → Prop
  | [] => True
  | p :: r => p.2.cls ≠ .type "dict" ∧ NoDict r
theorem NoDict.at : ∀ {l : List (Addr × Obj)}, NoDict l → ∀ p ∈ l, p.2.cls ≠ .type "dict"
  | [], _, _, h => nomatch h
  | _ :: _, x, p, h => by
    rcases List.mem_cons.mp h with rfl | h
    · exact x.1
    · exact NoDict.at x.2 p h
theorem cls_no {o : Obj} {k : String} (h : o.cls = .type k) (hk : (k == "dict") = false) : o.cls ≠ .type "dict" := by
  rw [h]; intro e; cases e; exact absurd hk (by decide)
theorem DatM.more {w : World} {h : Heap} {d : Addr} {D : DS} {ms : Str → Option MS} {sem : Str → Int → DV} {n n' : Nat} (P : DatM w h d D ms sem n) (hn : n ≤ n') : DatM w h d D ms sem n' :=
  { P with len := Nat.le_trans P.len hn, each := fun x M e => let ⟨a, b, c, f⟩ := P.each x M e; ⟨a, b, by omega, f⟩ }
theorem inst_snap {w : World} {g h h0 : Heap} {L d : Addr} {news : List (Addr × Obj)} {D : DS} {ms : Str → Option MS} {sem : Str → Int → DV} {n : Nat} (N : News g L h news) (hs : ∀ p ∈ snap (Sup D ms d) h0, p ∈ news) (P : DatM w h0 d D ms sem n) :
    PySem.W.InstAt h d (instObj 291 D.dd) 291 (some (dictOf (ddEs w D) D.n)) := (P.agree (snap_keep N hs)).inst
structure DatOn (w : World) (g h : Heap) (d : Addr) (D : DS) (ms : Str → Option MS) (sem : Str → Int → DV) (n : Nat) (a : Addr) : Prop where
  dat : DatM w h d D ms sem n
  fp : ∀ b, FP D ms b → g.get? b = none
  off : ∀ b, Sup D ms d b → b ≠ a
theorem put_call {w : World} {base g h0 : Heap} {s : Shared} {L a : Addr} {m : Str → Option Value} {Q E : Value → Shared → Prop} {dp un : Nat} {fr : Option (List Env)} {gd : Option (List Code)} {rest news : List (Addr × Obj)} {oa : Obj} (G : Gr w base) (hB : Kp base g) {d : Addr} {D : DS} {ms : Str → Option MS} {sem : Str → Int → DV} {n : Nat} {x : Str} {tx : Tok} {c : Int} {t t' : Tok} {v : Value}
    (F : Fr g L s.heap m) (N : News g L s.heap news) (hT : Tail (snap (Sup D ms d) h0) rest news) (hr : NoDict rest) (P0 : DatOn w g h0 d D ms sem n a) (hoa : (a, oa) ∈ news)
    (hx : x ∈ N6) (hn : n ≤ 46) (hc : 1 ≤ c) (hc' : c < 1114111) (hv : vis (kb x) v) (hdp : dp + 6 < recursionLimit) (hun : un + 8 * 6 < cLine)
    (h : ∀ D' ms' h' tk', DatOn w g h' d D' ms' (upd sem x c (dval v)) (n + 1) a → Fr g L h' m → News g L h' (rest ++ snap (Sup D' ms' d) h') → Q .none { s with heap := h', toks := tk' }) :
    wpAny (model pw w) (Ar dp un fr gd) (call (.ref 274) [.ref d, .str x tx, .int c t, .int c t', v]) Q E s := by
  obtain rfl := hT.eq
  have P : DatM w s.heap d D ms sem n := P0.dat.agree (snap_keep N fun p hp => List.mem_append_right _ hp)
  have old : ∀ b, Sup D ms d b → b ≠ L ∧ g.get? b = none := fun b hb => by
    obtain ⟨o, e⟩ := P0.dat.sup_some hb
    exact (N _ (List.mem_append_right _ (mem_snap.mpr ⟨hb, e⟩))).2
  have hL : ∀ a, s.heap.get? a = none → a ≠ L := fun a e q => by
    subst q
    obtain ⟨o, _, _, e', _⟩ := F.ns
    rw [e] at e'; cases e'
  refine dput_cc G d D ms sem n x tx c t t' v hx hn hc hc' hv (fun b hb => base_none hB (P0.fp b hb)) _ _ _ _ _ _ _ hdp hun (hB.trans F.keep) P ?_
  rintro r h' tk' ⟨rfl, D', ms', P', kp, fp, sup⟩
  refine h D' ms' h' tk' ⟨P', fun b hb => ?_, fun b hb => ?_⟩ ⟨F.ns.at' fun o e => kp L o (fun q => (old L q.sup).1 rfl) e, fun b o e => kp b o (fun q => by rw [P0.fp b q] at e; cases e) (F.keep b o e), F.above⟩ (fun p hp => ?_)
  · rcases fp b hb with q | q
    · exact P0.fp b q
    · exact none_g F q
  · rcases sup b hb with q | q
    · exact P0.off b q
    · intro e
      subst e
      rw [(N _ hoa).1] at q; cases q
  · rcases List.mem_append.mp hp with hp | hp
    · have z := N p (List.mem_append_left _ hp)
      exact ⟨kp _ _ (fun q => hr.at p hp (P.fp_dict q z.1)) z.1, z.2⟩
    · obtain ⟨b, o⟩ := p
      have z := mem_snap.mp hp
      refine ⟨z.2, ?_⟩
      rcases sup b z.1 with q | q
      · exact old b q
      · exact ⟨hL b q, none_g F q⟩
end Mine

end

section
open PySem PySem.W PyProof.Rows PySem.Calls
namespace Mine
structure Sg where
  c : Int
  gc : Str
  ea : Str
  gcb : Str
  ep : Bool
  di : Bool
deriving DecidableEq
noncomputable def sg (c : Int) (gc ea gcb : String) (ep di : Bool) : Sg := ⟨c, S gc, S ea, S gcb, ep, di⟩
noncomputable def sgD : Sg := sg 0 "" "" "" false false
noncomputable def tab : List Sg := [sg 97 "Ll" "Na" "Other" false false, sg 20013 "Lo" "W" "Other" false false, sg 945 "Ll" "A" "Other" false false,
  sg 65313 "Lu" "F" "Other" false false, sg 768 "Mn" "A" "Extend" false false, sg 2366 "Mc" "N" "SpacingMark" false false, sg 1536 "Cf" "N" "Prepend" false false,
  sg 8205 "Cf" "N" "ZWJ" false true, sg 65039 "Mn" "A" "Extend" false true, sg 65038 "Mn" "A" "Extend" false true,
  sg 8419 "Me" "N" "Extend" false false, sg 128512 "So" "W" "Other" true false, sg 10084 "So" "N" "Other" true false, sg 127462 "So" "N" "Regional_Indicator" false false,
  sg 4352 "Lo" "W" "L" false false, sg 4449 "Lo" "N" "V" false false, sg 4520 "Lo" "N" "T" false false,
  sg 173 "Cf" "A" "Control" false true, sg 13 "Cc" "N" "CR" false false, sg 10 "Cc" "N" "LF" false false,
  sg 7 "Cc" "N" "Control" false false, sg 8232 "Zl" "N" "Control" false false, sg 55296 "Cs" "N" "Control" false false]
-- the library's clusters
noncomputable def pairF (l r : Str) : Option Bool :=
  if l == S "CR" && r == S "LF" then some false else if isin [S "CR", S "LF", S "Control"] l || isin [S "CR", S "LF", S "Control"] r then some true
  else if joinsF l r || isin [S "Extend", S "ZWJ"] r then some false else if r == S "SpacingMark" || l == S "Prepend" then some false else none
structure St where
  kind : Option Str
  odd : Bool
  pic : Int
noncomputable def st0 : St := ⟨none, false, 0⟩
noncomputable def heldF (st : St) (x : Sg) : Bool := (x.ep && st.pic == 2) || (x.gcb == S "Regional_Indicator" && st.odd)
noncomputable def takeF (st : St) (x : Sg) : St :=
  { kind := some x.gcb, odd := x.gcb == S "Regional_Indicator" && !st.odd,
    pic := if x.ep then 1 else if x.gcb == S "ZWJ" && st.pic == 1 then 2 else if x.gcb != S "Extend" || st.pic != 1 then 0 else st.pic }
noncomputable def toldF (st : St) (x : Sg) : Bool := match st.kind with | none => true | some k => match pairF k x.gcb with | some b => b | none => !heldF st x
noncomputable def breaks : St → List Sg → List Bool
  | _, [] => []
  | st, x :: r => toldF st x :: breaks (takeF st x) r
noncomputable def pl : Nat → List Bool → List Nat
  | _, [] => []
  | i, b :: r => if b then i :: pl (i + 1) r else pl (i + 1) r
noncomputable def placesF (xs : List Sg) : List Nat := if xs = [] then [] else pl 0 (breaks st0 xs) ++ [xs.length]
noncomputable def sliceF {α : Type} (xs : List α) (a b : Nat) : List α := (xs.drop a).take (b - a)
noncomputable def clustersF (xs : List Sg) : List (List Sg) := ((placesF xs).zip (placesF xs).tail).map fun p => sliceF xs p.1 p.2
-- the library's columns
noncomputable def refused (x : Sg) : Bool := isin [S "Cc", S "Zl", S "Zp", S "Cs"] x.gc
noncomputable def colF (wide : Bool) (x : Sg) : Int := if isin [S "Mn", S "Me"] x.gc || (x.di && x.c != 173) then 0 else if isin [S "W", S "F"] x.ea || (x.ea == S "A" && wide) then 2 else 1
noncomputable def flagF (cl : List Sg) : Bool := decide ((cl.take 2).map Sg.gcb = [S "Regional_Indicator", S "Regional_Indicator"])
noncomputable def lastTwo (cl : List Sg) : Bool := decide ((cl.map Sg.c).drop (cl.length - 2) = [65039, 8419])
noncomputable def wishF (cl : List Sg) : Option Int :=
  if flagF cl || lastTwo cl then some 2 else if (cl.headD sgD).ep = false then none else if (65039 : Int) ∈ cl.map Sg.c then some 2
  else if ((cl.map Sg.c).drop 1).take 1 = [65038] ∧ (cl.drop 1).filter Sg.ep = [] then some 1 else none
noncomputable def widestF (wide : Bool) (cl : List Sg) : Int := cl.foldl (fun m x => max m (colF wide x)) 0
noncomputable def widthF (wide : Bool) (cl : List Sg) : Int := if cl.any refused then 0 else (wishF cl).getD (widestF wide cl)
noncomputable def rowF (f : List Sg → Int) (cl : List Sg) : List Int := f cl :: List.replicate (cl.length - 1) 0
-- the law's clusters
noncomputable def flagsL (cl : List Sg) : Nat := (cl.reverse.takeWhile fun x => x.gcb == S "Regional_Indicator").length
noncomputable def hdEp : List Sg → Bool
  | [] => false
  | x :: _ => x.ep
noncomputable def picL (cl : List Sg) : Bool := hdEp (cl.reverse.tail.dropWhile fun x => x.gcb == S "Extend")
noncomputable def isOne (cl : List Sg) (x : Sg) : Bool := match cl.getLast? with
  | none => false
  | some l =>
    if l.gcb == S "CR" && x.gcb == S "LF" then true else if isin [S "CR", S "LF", S "Control"] l.gcb || isin [S "CR", S "LF", S "Control"] x.gcb then false
    else if isin [S "Extend", S "ZWJ", S "SpacingMark"] x.gcb || l.gcb == S "Prepend" then true
    else if ((l.gcb == S "L" && x.gcb == S "L") || (l.gcb == S "L" && x.gcb == S "V") || (l.gcb == S "V" && x.gcb == S "V") || (l.gcb == S "V" && x.gcb == S "T") || (l.gcb == S "T" && x.gcb == S "T")) then true
    else if x.ep && l.gcb == S "ZWJ" then picL cl else x.gcb == S "Regional_Indicator" && flagsL cl % 2 == 1
noncomputable def stepL (f : List (List Sg)) (x : Sg) : List (List Sg) := match f.getLast? with
  | none => f ++ [[x]]
  | some l => if isOne l x then f.dropLast ++ [l ++ [x]] else f ++ [[x]]
noncomputable def clustersL (xs : List Sg) : List (List Sg) := xs.foldl stepL []
noncomputable def columnsL (wide : Bool) (cl : List Sg) : Int :=
  if cl.any refused then 0 else if flagF cl || lastTwo cl then 2 else if (cl.headD sgD).ep = true ∧ (65039 : Int) ∈ cl.map Sg.c then 2
  else if (cl.headD sgD).ep = true ∧ ((cl.map Sg.c).drop 1).take 1 = [65038] ∧ (cl.drop 1).filter Sg.ep = [] then 1
  else widestF wide cl
theorem cols_eq (wide : Bool) (cl : List Sg) : widthF wide cl = columnsL wide cl := by
  unfold widthF columnsL wishF
  cases cl.any refused
  · simp only [Bool.false_eq_true, if_false]
    cases flagF cl || lastTwo cl
    · simp only [Bool.false_eq_true, if_false]
      cases (cl.headD sgD).ep
      · simp
      · simp only [Bool.true_eq_false, if_false, true_and]
        split
        · rfl
        · split <;> rfl
    · rfl
  · rfl
-- cutting by breaks
noncomputable def cutG : List (Sg × Bool) → List Sg × List (List Sg)
  | [] => ([], [])
  | (x, b) :: r => if b then ([], (x :: (cutG r).1) :: (cutG r).2) else (x :: (cutG r).1, (cutG r).2)
theorem breaks_len : ∀ (st : St) (xs : List Sg), (breaks st xs).length = xs.length
  | _, [] => rfl
  | st, x :: r => by simp [breaks, breaks_len]
theorem slice_take {xs : List Sg} {i k : Nat} : sliceF xs i (i + k) = (xs.drop i).take k := by unfold sliceF; congr 1; omega
theorem pl_cut (X : List Sg) : ∀ (r : List Sg) (bs : List Bool) (i : Nat), bs.length = r.length → X.drop i = r → i ≤ X.length →
    (pl i bs ++ [X.length]).headD 0 = i + (cutG (r.zip bs)).1.length ∧ (cutG (r.zip bs)).1 = r.take (cutG (r.zip bs)).1.length ∧
    ((pl i bs ++ [X.length]).zip (pl i bs ++ [X.length]).tail).map (fun p => sliceF X p.1 p.2) = (cutG (r.zip bs)).2
  | [], [], i, _, h, hi => by
    have : X.length ≤ i := by simpa using h
    simp [pl, cutG]; omega
  | x :: r, b :: bs, i, hl, h, hi => by
    have hr : X.drop (i + 1) = r := by rw [← List.drop_drop, h]; rfl
    have hi' : i + 1 ≤ X.length := by
      have := congrArg List.length h
      simp at this; omega
    obtain ⟨h1, h2, h3⟩ := pl_cut X r bs (i + 1) (by simpa using hl) hr hi'
    cases b with
    | false =>
      simp only [pl, cutG, List.zip_cons_cons, Bool.false_eq_true, if_false, List.length_cons]
      exact ⟨by rw [h1]; omega, by rw [List.take_succ_cons, ← h2], h3⟩
    | true =>
      simp only [pl, cutG, List.zip_cons_cons, if_true, List.length_nil]
      refine ⟨by simp, by simp, ?_⟩
      have hne : pl (i + 1) bs ++ [X.length] ≠ [] := by simp
      obtain ⟨a, q, e⟩ := List.exists_cons_of_ne_nil hne
      rw [List.cons_append, List.tail_cons]
      rw [e] at h1 h3 ⊢
      simp only [List.zip_cons_cons, List.map_cons]
      simp only [List.headD_cons] at h1
      congr 1
      rw [h1, show i + 1 + (cutG (r.zip bs)).1.length = i + ((cutG (r.zip bs)).1.length + 1) from by omega, slice_take, h, List.take_succ_cons, ← h2]
theorem clustersF_cut (xs : List Sg) : clustersF xs = (cutG (xs.zip (breaks st0 xs))).2 := by
  unfold clustersF placesF
  by_cases h : xs = []
  · subst h; rfl
  · rw [if_neg h]; exact (pl_cut xs xs (breaks st0 xs) 0 (breaks_len _ _) rfl (Nat.zero_le _)).2.2
-- the two clusterings, side by side
noncomputable def picSt (cl : List Sg) : Int := if hdEp (cl.reverse.dropWhile fun x => x.gcb == S "Extend") then 1 else if (match cl.getLast? with | none => false | some l => l.gcb == S "ZWJ") && picL cl then 2 else 0
structure RelL (st : St) (cl : List Sg) : Prop where
  kind : st.kind = cl.getLast?.map Sg.gcb
  ne : cl ≠ []
  odd : st.odd = (flagsL cl % 2 == 1)
  pic : st.pic = picSt cl
end Mine

end

section
open PySem PySem.W PyProof.Rows PySem.Calls
namespace Mine
noncomputable def semPut (sem : Str → Int → DV) (x : Sg) : Str → Int → DV :=
  let s3 := upd (upd (upd sem (S "gc") x.c (.s x.gc)) (S "ea") x.c (.s x.ea)) (S "gcb") x.c (.s x.gcb)
  let s4 := if x.ep = true then upd s3 (S "ep") x.c (.b true) else s3
  if x.di = true then upd s4 (S "di") x.c (.b true) else s4
noncomputable def semS (l : List Sg) : Str → Int → DV := l.foldl semPut sem0
theorem semS_snoc (l : List Sg) (x : Sg) : semS (l ++ [x]) = semPut (semS l) x := by simp [semS]
structure SemIs (sem : Str → Int → DV) (x : Sg) : Prop where
  gc : sem (S "gc") x.c = .s x.gc
  ea : sem (S "ea") x.c = .s x.ea
  gcb : sem (S "gcb") x.c = .s x.gcb
  ep : sem (S "ep") x.c = .b x.ep
  di : sem (S "di") x.c = .b x.di
  incb : sem (S "incb") x.c = .s (S "None")
noncomputable def attr (n : Str) (x : Sg) : Option DV := if n = S "gc" then some (.s x.gc) else if n = S "ea" then some (.s x.ea) else if n = S "gcb" then some (.s x.gcb) else if n = S "ep" ∧ x.ep = true then some (.b true) else if n = S "di" ∧ x.di = true then some (.b true) else none
theorem ndist : S "gc" ≠ S "ea" ∧ S "gc" ≠ S "gcb" ∧ S "gc" ≠ S "ep" ∧ S "gc" ≠ S "di" ∧ S "ea" ≠ S "gcb" ∧ S "ea" ≠ S "ep" ∧ S "ea" ≠ S "di" ∧ S "gcb" ≠ S "ep" ∧ S "gcb" ≠ S "di" ∧ S "ep" ≠ S "di" ∧ S "incb" ≠ S "gc" ∧ S "incb" ≠ S "ea" ∧ S "incb" ≠ S "gcb" ∧ S "incb" ≠ S "ep" ∧ S "incb" ≠ S "di" := by decide +kernel
theorem semPut_at (sem : Str → Int → DV) (x : Sg) (n : Str) (z : Int) : semPut sem x n z = if z = x.c then (attr n x).getD (sem n z) else sem n z := by
  have nd := ndist
  unfold semPut attr upd
  by_cases hz : z = x.c
  · subst hz
    cases x.ep <;> cases x.di <;> simp only [Bool.false_eq_true, if_false, if_true, and_true, and_false]
    all_goals
      by_cases h1 : n = S "gc"
      · subst h1; simp [nd]
      · by_cases h2 : n = S "ea"
        · subst h2; simp [nd, h1]
        · by_cases h3 : n = S "gcb"
          · subst h3; simp [nd, h1, h2]
          · by_cases h4 : n = S "ep"
            · subst h4; simp [nd, h1, h2, h3]
            · by_cases h5 : n = S "di"
              · subst h5; simp [nd, h1, h2, h3, h4]
              · simp [h1, h2, h3, h4, h5]
  · cases x.ep <;> cases x.di <;> simp [hz]
theorem tab_codes : ∀ x ∈ tab, ∀ y ∈ tab, x.c = y.c → x = y := by decide +kernel
theorem semS_at {n : Str} : ∀ (xs : List Sg) (sem : Str → Int → DV) (y : Sg), (∀ x ∈ xs, x ∈ tab) → y ∈ tab → xs.foldl semPut sem n y.c = if y ∈ xs then (attr n y).getD (sem n y.c) else sem n y.c
  | [], sem, y, _, _ => by simp
  | x :: r, sem, y, h, hy => by
    rw [List.foldl_cons, semS_at r (semPut sem x) y (fun a ha => h a (.tail _ ha)) hy, semPut_at]
    by_cases hc : y.c = x.c
    · have := tab_codes y hy x (h x (.head _)) hc
      subst this
      simp only [if_true, List.mem_cons, true_or]
      split
      · cases attr n y <;> rfl
      · rfl
    · have : y ≠ x := fun e => hc (by rw [e])
      simp [hc, this]
theorem sem_tab : ∀ y ∈ tab, sem0 (S "ep") y.c = .b false ∧ sem0 (S "di") y.c = .b false ∧ sem0 (S "incb") y.c = .s (S "None") := by decide +kernel
theorem semIs_of {xs : List Sg} (h : ∀ x ∈ xs, x ∈ tab) {y : Sg} (hy : y ∈ xs) : SemIs (semS xs) y := by
  have nd := ndist
  have ht := h y hy
  have z := sem_tab y ht
  have e := fun n => semS_at (n := n) xs sem0 y h ht
  refine ⟨?_, ?_, ?_, ?_, ?_, ?_⟩
  · rw [semS, e, if_pos hy]; simp [attr]
  · rw [semS, e, if_pos hy]; simp [attr, nd, Ne.symm nd.1]
  · rw [semS, e, if_pos hy]; simp [attr, Ne.symm nd.2.1, Ne.symm nd.2.2.2.2.1]
  · rw [semS, e, if_pos hy]
    cases q : y.ep
    · simp [attr, q, nd, z, Ne.symm nd.2.2.1, Ne.symm nd.2.2.2.2.2.1, Ne.symm nd.2.2.2.2.2.2.2.1]
    · simp [attr, q, nd, Ne.symm nd.2.2.1, Ne.symm nd.2.2.2.2.2.1, Ne.symm nd.2.2.2.2.2.2.2.1]
  · rw [semS, e, if_pos hy]
    have n1 : S "di" ≠ S "gc" := Ne.symm nd.2.2.2.1
    have n2 : S "di" ≠ S "ea" := Ne.symm nd.2.2.2.2.2.2.1
    have n3 : S "di" ≠ S "gcb" := Ne.symm nd.2.2.2.2.2.2.2.2.1
    have n4 : S "di" ≠ S "ep" := Ne.symm nd.2.2.2.2.2.2.2.2.2.1
    cases q : y.di
    · simp [attr, q, z, n1, n2, n3, n4]
    · simp [attr, q, n1, n2, n3, n4]
  · rw [semS, e, if_pos hy]; simp [attr, nd, z]
end Mine

end

section
open PySem PySem.W PyProof.Rows PySem.Calls
namespace Mine
set_option maxRecDepth 100000
set_option maxHeartbeats 0
theorem fill15 : PySem.Challenge.rw_pb0596_01.foot = 6 ∧ K9 = K9 := by
  k_with_none
  k_with "my ne" => (first | (with_reducible first | assumption | exact Ne.symm (by assumption) | exact Mine.nr1 (by assumption) | exact Mine.ns1 (by assumption) | exact Mine.nt1 (by assumption) | exact Mine.nu1 (by assumption) | exact Mine.nr2 (by assumption) | exact Mine.ns2 (by assumption) | exact Mine.nt2 (by assumption) | exact Mine.nu2 (by assumption) | exact Mine.nr3 (by assumption) | exact Mine.ns3 (by assumption) | exact Mine.nt3 (by assumption) | exact Mine.nu3 (by assumption) | exact Mine.nr4 (by assumption) | exact Mine.ns4 (by assumption) | exact Mine.nt4 (by assumption) | exact Mine.nu4 (by assumption) | exact Mine.nr5 (by assumption) | exact Mine.ns5 (by assumption) | exact Mine.nt5 (by assumption) | exact Mine.nu5 (by assumption) | exact Mine.nr6 (by assumption) | exact Mine.ns6 (by assumption) | exact Mine.nt6 (by assumption) | exact Mine.nu6 (by assumption) | exact Mine.nr7 (by assumption) | exact Mine.ns7 (by assumption) | exact Mine.nt7 (by assumption) | exact Mine.nu7 (by assumption) | exact Mine.nr8 (by assumption) | exact Mine.ns8 (by assumption) | exact Mine.nt8 (by assumption) | exact Mine.nu8 (by assumption) | exact Mine.nr9 (by assumption) | exact Mine.ns9 (by assumption) | exact Mine.nr10 (by assumption) | exact Mine.ns10 (by assumption) | exact Mine.nr11 (by assumption) | exact Mine.ns11 (by assumption) | exact Mine.nr12 (by assumption) | exact Mine.ns12 (by assumption) | exact Mine.nw1 (by assumption) | exact Mine.nw2 (by assumption) | exact Mine.nw3 (by assumption) | exact Mine.nw4 (by assumption) | exact Mine.nw5 (by assumption) | exact Mine.nw6 (by assumption) | exact Mine.nk1 (by assumption) | exact Mine.nk2 (by assumption) | exact Mine.nk3 (by assumption) | exact Mine.nk4 (by assumption)) | fail "no")
  k_with "my om" => (first | ((with_reducible show @Eq Int _ _); with_reducible first | assumption | exact Eq.symm (by assumption) | exact Int.toNat_of_nonneg (by assumption)) | fail "no")
  k_with "my om" => (first | ((with_reducible show And (@LE.le Int _ _ _) _); with_reducible first | assumption | (refine Mine.i2 (by assumption) ?_; omega) | (refine Mine.i2' (by assumption) ?_; omega)) | fail "no")
  k_with "my om" => (first | ((with_reducible show @LT.lt Int _ _ _); first | (with_reducible first | assumption | exact Mine.i1' (by assumption) | exact Int.ofNat_lt.mpr (by assumption) | exact And.left (by assumption) | exact And.right (by assumption) | exact Int.lt_of_not_le (by assumption)) | decide +kernel) | fail "no")
  k_with "my om" => (first | ((with_reducible show @LE.le Int _ _ _); first | (with_reducible first | assumption | exact Int.natCast_nonneg _ | exact Int.le_refl _ | exact Mine.i1 _ | exact Int.ofNat_le.mpr (by assumption) | exact Mine.i6 (by assumption) (by assumption) | (refine Mine.i7 ?_; omega) | exact And.left (by assumption) | exact And.right (by assumption) | exact Int.le_of_not_lt (by assumption) | exact Int.le_of_lt (by assumption)) | decide +kernel) | fail "no")
  k_with "my om" => (first | ((with_reducible show @Eq Nat _ _); with_reducible first | assumption | exact Eq.symm (by assumption) | exact Mine.i5 (by assumption) | exact Mine.i4 _ | exact Mine.i3 _ | exact Eq.symm (Mine.i4 _) | exact Nat.add_sub_cancel_left .. | exact Nat.min_eq_left (by assumption) | exact Eq.trans (by assumption) (by assumption) | exact Eq.trans (Eq.symm (by assumption)) (by assumption) | exact Eq.trans (by assumption) (Eq.symm (by assumption))) | fail "no")
  k_with "my om" => (first | ((with_reducible show @LT.lt Nat _ _ _); with_reducible first | assumption | exact Mine.np (by assumption) | exact Mine.nq (by assumption) rfl | exact Mine.nv (by assumption) rfl | exact Mine.ia (by assumption) (by assumption) | exact Mine.ib (by assumption) (by assumption) | exact Nat.lt_of_lt_of_le (by assumption) (by assumption) | exact Nat.succ_lt_succ (by assumption) | exact And.left (by assumption) | exact And.right (by assumption) | exact Nat.lt_of_not_le (by assumption) | exact Mine.ia (Mine.ia (by assumption) (by assumption)) (by assumption) | exact Mine.ib (Mine.ia (by assumption) (by assumption)) (by assumption) | exact Mine.ia (Mine.ib (by assumption) (by assumption)) (by assumption) | exact Mine.ib (Mine.ib (by assumption) (by assumption)) (by assumption)) | fail "no")
  k_with "my om" => (first | ((with_reducible show @LE.le Nat _ _ _); first | (with_reducible first | assumption | exact Mine.nc (by assumption) rfl | exact Nat.le_refl _ | exact Mine.nl (by assumption) (by assumption) | exact Mine.nm (by assumption) (by assumption) | exact Mine.nn (by assumption) (by assumption) | exact Mine.nn (by assumption) (Mine.nc (by assumption) rfl) | exact Mine.nl (by assumption) (Mine.nc (by assumption) rfl) | exact Mine.nm (by assumption) (Mine.nc (by assumption) rfl) | exact Mine.nl (by assumption) (Mine.nl (by assumption) (Mine.nc (by assumption) rfl)) | exact Mine.nl (by assumption) (Mine.nn (by assumption) (Mine.nc (by assumption) rfl)) | exact Mine.nm (by assumption) (Mine.nn (by assumption) (Mine.nc (by assumption) rfl)) | exact Mine.nl (by assumption) (Mine.nm (by assumption) (Mine.nc (by assumption) rfl)) | exact Mine.nm (by assumption) (Mine.nl (by assumption) (Mine.nc (by assumption) rfl)) | exact Mine.nm (by assumption) (Mine.nm (by assumption) (Mine.nc (by assumption) rfl)) | exact Nat.le_add_right _ _ | exact Nat.succ_le_succ (by assumption) | exact Nat.le_of_eq (by assumption) | exact Nat.le_of_eq (Eq.symm (by assumption)) | exact Nat.le_succ_of_le (by assumption) | exact Nat.le_of_not_lt (by assumption) | exact Int.toNat_le_toNat (by assumption) | exact Mine.ig (by assumption) (by assumption) rfl | exact Mine.ih (by assumption) (by assumption) rfl | exact And.left (by assumption) | exact And.right (by assumption) | (refine Mine.ie ?_ (by assumption); omega) | (refine Mine.ie' ?_ (by assumption); omega) | (refine Mine.id1 ?_; omega) | (refine Mine.ij ?_; omega) | (refine Mine.ic (by assumption) rfl ?_; omega)) | exact Mine.nz rfl) | fail "no")
  k_with "my own" => (first | assumption | exact Mine.PAt.of (by assumption) (PySem.SameStack.mark _ _) | exact Mine.PAt.of (by assumption) (PySem.SameStack.unmark _ _) | fail "no")
  k_fill
  k_with "my inst" => (first | (refine' inst_snap ?N ?hs ?P; (case N => k_asm); (case hs => (intro p9 hp9; repeat (first | exact hp9 | apply List.mem_cons_of_mem))); (case P => exact DatOn.dat (by assumption))) | fail "no")
  exact ⟨rfl, rfl⟩
noncomputable def SgAt (h : Heap) (v : Value) (x : Sg) : Prop := ∃ t tc t1 t2 t3, v = .ref t ∧ IsTup h t #[.int x.c tc, .str x.gc t1, .str x.ea t2, .str x.gcb t3, .bool x.ep, .bool x.di]
theorem SgAt.at {h h' : Heap} {v : Value} {x : Sg} (k : ∀ a o, h.get? a = some o → o.cls = .type "tuple" → h'.get? a = some o) (H : SgAt h v x) : SgAt h' v x := by
  obtain ⟨t, tc, t1, t2, t3, e, o, ho, hc, n, hd⟩ := H
  exact ⟨t, tc, t1, t2, t3, e, o, k _ _ ho hc, hc, n, hd⟩
noncomputable def LInv (w : World) (g : Heap) (sl d : Addr) (lo : Obj) (sem : Nat → Str → Int → DV) (i : Nat) (m : Str → Option Value) (news : List (Addr × Obj)) : Prop :=
  ∃ D ms h0, m (Str.ofString "data") = some (.ref d) ∧ (sl, lo) ∈ news ∧ (∀ p ∈ snap (Sup D ms d) h0, p ∈ news) ∧ DatOn w g h0 d D ms (sem i) (5 * i) sl
theorem noDict_nil : NoDict [] := trivial
theorem noDict_cons {p : Addr × Obj} {r : List (Addr × Obj)} (h : p.2.cls ≠ .type "dict") (h' : NoDict r) : NoDict (p :: r) := ⟨h, h'⟩
theorem DatM.sup_cls {w : World} {h : Heap} {d : Addr} {D : DS} {ms : Str → Option MS} {sem : Str → Int → DV} {n : Nat} (P : DatM w h d D ms sem n) {b : Addr} {o : Obj} (hb : Sup D ms d b) (e : h.get? b = some o) : o.cls = .ref 291 ∨ o.cls = .ref 242 ∨ o.cls = .type "dict" ∨ o.cls = .type "list" := by
  have tk : ∀ {o' : Obj}, h.get? b = some o' → o = o' := fun e' => Option.some.inj (e.symm.trans e')
  cases hb with
  | d => rw [tk P.inst.at_]; exact .inl rfl
  | dd => rw [tk P.inst.dict]; exact .inr (.inr (.inl rfl))
  | df => obtain ⟨o', e', es, ep, ⟨hc, _⟩, _⟩ := Heap.dictOf_iff.mp P.dfl; rw [tk e']; exact .inr (.inr (.inl hc))
  | dm => obtain ⟨o', e', es, ep, ⟨hc, _⟩, _⟩ := Heap.dictOf_iff.mp P.maps; rw [tk e']; exact .inr (.inr (.inl hc))
  | rm q => rw [tk (P.each _ _ q).1.inst.at_]; exact .inr (.inl rfl)
  | rd q => rw [tk (P.each _ _ q).1.inst.dict]; exact .inr (.inr (.inl rfl))
  | ls q => obtain ⟨o', e', hc, _⟩ := (P.each _ _ q).1.sl; rw [tk e']; exact .inr (.inr (.inr hc))
  | lv q => obtain ⟨o', e', hc, _⟩ := (P.each _ _ q).1.vl; rw [tk e']; exact .inr (.inr (.inr hc))
noncomputable def OffC (o : Obj) : List (Addr × Obj) → Prop
  | [] => True
  | p :: r => p.2.cls ≠ o.cls ∧ OffC o r
theorem offC_nil {o : Obj} : OffC o [] := trivial
theorem offC_cons {o : Obj} {p : Addr × Obj} {r : List (Addr × Obj)} (h : p.2.cls ≠ o.cls) (h' : OffC o r) : OffC o (p :: r) := ⟨h, h'⟩
theorem OffC.at {o : Obj} : ∀ {l : List (Addr × Obj)}, OffC o l → ∀ p ∈ l, p.2.cls ≠ o.cls
  | [], _, _, h => nomatch h
  | _ :: _, x, p, h => by
    rcases List.mem_cons.mp h with rfl | h
    · exact x.1
    · exact OffC.at x.2 p h
theorem cls_ne {o o' : Obj} {k k' : String} (h : o.cls = .type k) (h' : o'.cls = .type k') (hk : (k == k') = false) : o.cls ≠ o'.cls := by
  rw [h, h']; intro e; cases e; simp at hk
theorem DatM.off {w : World} {h0 h' g : Heap} {L d : Addr} {D : DS} {ms : Str → Option MS} {sem : Str → Int → DV} {n : Nat} {all : List (Addr × Obj)} {it : Addr × Obj} {k : String} (P : DatM w h0 d D ms sem n) (N : News g L h' all) (hit : it ∈ all) (hs : ∀ p ∈ snap (Sup D ms d) h0, p ∈ all)
    (hk : it.2.cls = .type k) (hk2 : (k == "dict") = false ∧ (k == "list") = false) : ∀ p ∈ snap (Sup D ms d) h0, p.1 ≠ it.1 := by
  rintro ⟨b, o⟩ hp e
  have z := mem_snap.mp hp
  have h1 := (N _ (hs _ hp)).1
  have h2 := (N _ hit).1
  have e' : b = it.1 := e
  rw [← e'] at h2
  have h3 : o = it.2 := Option.some.inj (h1.symm.trans h2)
  rw [← h3] at hk
  rcases P.sup_cls z.1 z.2 with q | q | q | q
  · rw [q] at hk; cases hk
  · rw [q] at hk; cases hk
  · rw [q] at hk; cases hk; simp at hk2
  · rw [q] at hk; cases hk; simp at hk2
theorem unr_end_A {w : World} {g h' h0 : Heap} {L d : Addr} {D : DS} {ms : Str → Option MS} {sem : Str → Int → DV} {n tk : Nat} {a : Addr} {it : Addr × Obj} {all' mid : List (Addr × Obj)} {m' : Str → Option Value} {rest : (Str → Option Value) → List (Addr × Obj) → Prop} {s₁ : Shared} {k : String}
    (F : Fr g L h' m') (N : News g L h' (it :: all')) (hT : Tail (snap (Sup D ms d) h0) mid all') (P : DatOn w g h0 d D ms sem n a) (hk : it.2.cls = .type k) (hk2 : (k == "dict") = false ∧ (k == "list") = false) (ho : OffC it.2 mid) (r : rest m' all') :
    UnrEndW g L s₁ [it] rest { s₁ with heap := h', toks := tk } := by
  obtain rfl := hT.eq
  refine ⟨h', tk, m', _, rfl, F, N, fun p hp q hq => ?_, r⟩
  rw [List.mem_singleton.mp hq]
  rcases List.mem_append.mp hp with hp | hp
  · intro e
    have h1 := (N p (.tail _ (List.mem_append_left _ hp))).1
    have h2 := (N it (.head _)).1
    rw [e] at h1
    exact ho.at p hp (congrArg Obj.cls (Option.some.inj (h1.symm.trans h2)))
  · exact P.dat.off N (.head _) (fun p hp => .tail _ (List.mem_append_right _ hp)) hk hk2 p hp
theorem unr_end_B {w : World} {g h' h0 : Heap} {L d : Addr} {D : DS} {ms : Str → Option MS} {sem : Str → Int → DV} {n tk : Nat} {a : Addr} {it b : Addr × Obj} {all : List (Addr × Obj)} {m' : Str → Option Value} {rest : (Str → Option Value) → List (Addr × Obj) → Prop} {s₁ : Shared} {k : String}
    (F : Fr g L h' m') (N : News g L h' all) (hs : ∀ p ∈ snap (Sup D ms d) h0, p ∈ all) (hit : it ∈ all) (hb : b ∈ all) (P : DatOn w g h0 d D ms sem n a) (hk : it.2.cls = .type k) (hk2 : (k == "dict") = false ∧ (k == "list") = false) (ho : b.2.cls ≠ it.2.cls) (r : rest m' (b :: snap (Sup D ms d) h0)) :
    UnrEndW g L s₁ [it] rest { s₁ with heap := h', toks := tk } := by
  refine ⟨h', tk, m', _, rfl, F, fun p hp => N p ?_, fun p hp q hq => ?_, r⟩
  · rcases List.mem_append.mp hp with hp | hp
    · rw [List.mem_singleton.mp hp]; exact hit
    · rcases List.mem_cons.mp hp with rfl | hp
      · exact hb
      · exact hs p hp
  · rw [List.mem_singleton.mp hq]
    rcases List.mem_cons.mp hp with rfl | hp
    · intro e
      have h1 := (N p hb).1
      have h2 := (N it hit).1
      rw [e] at h1
      exact ho (congrArg Obj.cls (Option.some.inj (h1.symm.trans h2)))
    · exact P.dat.off N hit hs hk hk2 p hp
theorem news_two {g h : Heap} {L : Addr} {a b : Addr × Obj} {n sn : List (Addr × Obj)} (N : News g L h (a :: n)) (hb : b ∈ n) (hs : ∀ p ∈ sn, p ∈ n) : News g L h (a :: b :: sn) := fun p hp => N p (by
  rcases List.mem_cons.mp hp with rfl | hp
  · exact .head _
  · rcases List.mem_cons.mp hp with rfl | hp
    · exact .tail _ hb
    · exact .tail _ (hs p hp))
theorem semPut_of {sem : Str → Int → DV} {x : Sg} {a b : Bool} (h1 : x.ep = a) (h2 : x.di = b) : semPut sem x = (let s3 := upd (upd (upd sem (S "gc") x.c (.s x.gc)) (S "ea") x.c (.s x.ea)) (S "gcb") x.c (.s x.gcb); let s4 := if a = true then upd s3 (S "ep") x.c (.b true) else s3; if b = true then upd s4 (S "di") x.c (.b true) else s4) := by
  subst h1; subst h2; rfl
theorem DatOn.fin {w : World} {g h : Heap} {d a : Addr} {D : DS} {ms : Str → Option MS} {sem' : Str → Int → DV} {n i : Nat} {xs : List Sg} {x : Sg} (P : DatOn w g h d D ms sem' n a) (hs : sem' = semPut (semS (xs.take i)) x) (hx : xs[i]? = some x) (hn : n ≤ 5 * (i + 1)) : DatOn w g h d D ms (semS (xs.take (i + 1))) (5 * (i + 1)) a := by
  subst hs
  rw [List.take_add_one, hx, Option.toList_some, semS_snoc]
  exact ⟨P.dat.more hn, P.fp, P.off⟩
noncomputable def LDRet (w : World) (h : Heap) (v : Value) (h' : Heap) (xs : List Sg) : Prop := ∃ d D ms, v = .ref d ∧ DatM w h' d D ms (semS xs) 45 ∧ ∀ b, Sup D ms d b → h.get? b = none
theorem ldata_cc {w : World} {base : Heap} (G : Gr w base) (sl : Addr) (vs : List Value) (xs : List Sg) (lo : Obj) (hlo : lo.cls = .type "list") (nlo : Nat) (hld : lo.data = .seq vs.toArray nlo) (hnb : base.get? sl = none) (hlen : vs.length ≤ 9) (hxl : xs.length = vs.length) (hxr : ∀ x ∈ xs, 1 ≤ x.c ∧ x.c < 1114111) :
   CC w base 309 [.ref sl] 12 (fun h => h.get? sl = some lo ∧ ∀ (i : Nat) v x, vs[i]? = some v → xs[i]? = some x → SgAt h v x) (fun h v h' => Kp h h' ∧ LDRet w h v h' xs) := by
  have G' := G
  obtain ⟨X, p, loose, mean, mg, mb, T⟩ := G
  intro dp un fr gd s Q E hdp hun hb hp hret
  w_on
  k_dflt (refine enter (binds := [(Str.ofString "signs", .ref sl)]) [(sl, lo)] X T hb (fun q hq => by rw [List.mem_singleton.mp hq]; exact ⟨hp.1, hnb⟩) (by k_is) (by k_is) (by show dp < recursionLimit; omega) (BindsTo.of_eq rfl) (locs rfl) (fun E9 Q9 g L h₁ g9s d9r t9k o9s hQ9 hE9 hP9 hA9 hB hG X' T' F' N' hL => ?_))
  try dsimp only
  k_unmd
  try k_fold
  k_with "call ref" => ((with_reducible show wpAny _ _ (PySem.call (Value.ref 291) _ _) _ _ _); (refine' new_data G' hB X' (by k_is) (by k_is) (by k_is) ?kF ?kN ?kd ?ku ?_); (case kF => k_asm); (case kN => k_asm); (case kd => k_dflt (exact lim1 hdp rfl)); (case ku => k_dflt (exact lim3 hun rfl)); intro d9 D9 h9 tk9 P9 F9 N9 f9; (try dsimp only [List.cons_append, List.nil_append] at N9); k_sweep)
  k_with "call ref" => ((with_reducible show wpAny _ _ (PySem.call (Value.ref 274) _ _) _ _ _); (refine' put_call G' hB ?kF ?kN ?kT ?kr ?kP ?ka ?kx ?kn ?kc ?ke ?kv ?kd ?ku ?_); (case kF => k_asm); (case kN => k_asm); (case kT => (repeat (first | (with_reducible exact Tail.nil) | with_reducible apply Tail.cons))); (case kP => assumption); (case ka => k_mem); (case kr => (repeat (first | exact noDict_nil | refine noDict_cons (cls_no (by first | assumption | rfl) (by decide)) ?_))); (case kx => decide +kernel); (case kn => omega); (case kc => assumption); (case ke => assumption); (case kv => first | exact visF (by decide +kernel) | exact visT (by decide +kernel)); (case kd => k_dflt (exact lim1 hdp rfl)); (case ku => k_dflt (exact lim3 hun rfl)); intro D9 ms9 h9 tk9 P9 F9 N9; (try dsimp only [List.cons_append, List.nil_append] at N9); k_sweep)
  k_with "exec For Tuple Name cons nil" => ((rename Fr _ _ _ _ => lF'); (with_reducible refine For_turns lF' ?_ ?hs ?hE); (case hs => (intro x; k_dflt rfl)); (case hE => k_dflt passes_own))
  k_with "pyIter ref" => ((rename Fr _ _ _ _ => lF'); (rename News _ _ _ _ => lN'); (try dsimp only at lN'); (try dsimp only); k_dflt (refine' iter_tupTurns rfl lF' lN' (List.Mem.head _) rfl rfl ?_); (clear lF'); intro i' l1)
  k_with "pyIter ref" => ((rename Fr _ _ _ _ => lF'); (rename News _ _ _ _ => lN'); k_dflt (refine' iter_listTurns (lo := lo) (vs := vs) rfl lF' lN' (List.Mem.head _) hlo hld ?_); (clear lF'); intro i' l1)
  k_with "ItemsRest" => ((with_reducible show ItemsRest _ _ _ _ _ _ _ _ _ _ _ _ (List.map _ vs) _ _); (try dsimp only); refine Hold.out ?_)
  k_with "UnrEndW" => (k_here; (refine' unr_end_A ?F ?N ?T ?P ?k ?k2 ?o ⟨?sub, ?_⟩); (case F => assumption); (case N => assumption); (case T => (repeat (first | (with_reducible exact Tail.nil) | with_reducible apply Tail.cons))); (case P => assumption); (case k => assumption); (case k2 => decide); (case o => (repeat (first | exact offC_nil | refine offC_cons (cls_ne (by first | assumption | rfl) (by assumption) (by decide)) ?_))); (case sub => k_subL))
  k_steps
  all_goals (try ((with_reducible refine hQ9 _ _ _ ?_); (try dsimp only)))
  have hsg : ∀ (i : Nat) v x, vs[i]? = some v → xs[i]? = some x → SgAt g v x := fun i v x h1 h2 => (hp.2 i v x h1 h2).at fun a o e hc => hG a o e (by
    intro hm
    have e' : a = sl := by simpa using hm
    subst e'
    rw [hp.1] at e; cases e
    rw [hlo] at hc; simp at hc)
  refine items_inv (fun i m n => LInv w g sl d9 lo (fun i => semS (xs.take i)) i m n) ?_ ?_ ⟨_, _, _, rfl, .head _, fun p hp => .tail _ hp, P9, fun b hb => (f9 b hb.sup).1, fun b hb e => (f9 b hb).2.2 (sl, lo) (.head _) e.symm⟩
  · rintro i v m n h tk oI hv ⟨D, ms, h0, hm, hsl, hsub, hD⟩ hc F N
    have hi : i < vs.length := (List.getElem?_eq_some_iff.mp hv).1
    obtain ⟨x, hx⟩ : ∃ x, xs[i]? = some x := ⟨_, List.getElem?_eq_getElem (by omega)⟩
    obtain ⟨hx1, hx2⟩ := hxr x (List.mem_of_getElem? hx)
    obtain ⟨tp, tc, t1, t2, t3, rfl, hT⟩ := hsg i v x hv hx
    replace F : Fr g L h (fun z => if z = Str.ofString "data" then some (.ref d9) else m z) := Mine.Fr.as F (fun z => by
      by_cases e : z = Str.ofString "data"
      · rw [if_pos e, e, hm]
      · rw [if_neg e])
    replace N := news_two N hsl hsub
    clear hsl hsub hv
    try dsimp only
    k_steps
    all_goals (try ((with_reducible refine hQ9 _ _ _ ?_); (try dsimp only)))
    all_goals (refine' unr_end_B ?F ?N ?hs ?hit ?hb ?P ?k ?k2 ?o ⟨?sub, ⟨_, _, _, ?mm, .head _, (fun p hp => .tail _ hp), DatOn.fin ?P ?sem hx ?zz⟩⟩; (case F => assumption); (case N => assumption); (case hs => (intro p9 hp9; repeat (first | exact hp9 | apply List.mem_cons_of_mem))); (case P => assumption); (case k => assumption); (case k2 => decide); (case hit => k_mem); (case hb => k_mem); (case o => exact cls_ne hlo hc (by decide)); (case sub => exact ⟨.head _, trivial⟩); (case sem => rw [semPut_of ‹x.ep = _› ‹x.di = _›]; rfl); (case mm => exact rfl); (case zz => omega))
  · rintro m n h tk ⟨D, ms, h0, hm, hsl, hsub, hD⟩ F N
    replace F : Fr g L h (fun z => if z = Str.ofString "data" then some (.ref d9) else m z) := Mine.Fr.as F (fun z => by
      by_cases e : z = Str.ofString "data"
      · rw [if_pos e, e, hm]
      · rw [if_neg e])
    try dsimp only
    k_steps
    all_goals (try ((with_reducible refine hQ9 _ _ _ ?_); (try dsimp only)))
    have N : News g L h n := N
    have hL2 : ∀ b, Sup D ms d9 b → s.heap.get? b = none := fun b hb => by
      obtain ⟨o, e⟩ := hD.dat.sup_some hb
      have z := N _ (hsub _ (mem_snap.mpr ⟨hb, e⟩))
      cases q : s.heap.get? b with
      | none => rfl
      | some o' => rw [hG b o' q (by simpa using hD.off b hb)] at z; cases z.2.2
    refine hret _ _ _ ⟨led_keep hG F N (fun q hq => by rw [List.mem_singleton.mp hq]; exact ⟨hsl, hp.1⟩), _, _, _, rfl, ?_, hL2⟩
    have P := hD.dat.agree (snap_keep N hsub)
    dsimp only at P
    rw [List.take_of_length_le (by omega)] at P
    exact P.more (by omega)
end Mine

end

section
open PySem PySem.W PyProof.Rows PySem.Calls
namespace Mine
set_option maxRecDepth 100000
set_option maxHeartbeats 0
theorem fill16 : PySem.Challenge.rw_pb0596_01.foot = 6 ∧ K9 = K9 := by
  k_with_none
  k_with "my ne" => (first | (with_reducible first | assumption | exact Ne.symm (by assumption) | exact Mine.nr1 (by assumption) | exact Mine.ns1 (by assumption) | exact Mine.nt1 (by assumption) | exact Mine.nu1 (by assumption) | exact Mine.nr2 (by assumption) | exact Mine.ns2 (by assumption) | exact Mine.nt2 (by assumption) | exact Mine.nu2 (by assumption) | exact Mine.nr3 (by assumption) | exact Mine.ns3 (by assumption) | exact Mine.nt3 (by assumption) | exact Mine.nu3 (by assumption) | exact Mine.nr4 (by assumption) | exact Mine.ns4 (by assumption) | exact Mine.nt4 (by assumption) | exact Mine.nu4 (by assumption) | exact Mine.nr5 (by assumption) | exact Mine.ns5 (by assumption) | exact Mine.nt5 (by assumption) | exact Mine.nu5 (by assumption) | exact Mine.nr6 (by assumption) | exact Mine.ns6 (by assumption) | exact Mine.nt6 (by assumption) | exact Mine.nu6 (by assumption) | exact Mine.nr7 (by assumption) | exact Mine.ns7 (by assumption) | exact Mine.nt7 (by assumption) | exact Mine.nu7 (by assumption) | exact Mine.nr8 (by assumption) | exact Mine.ns8 (by assumption) | exact Mine.nt8 (by assumption) | exact Mine.nu8 (by assumption) | exact Mine.nr9 (by assumption) | exact Mine.ns9 (by assumption) | exact Mine.nr10 (by assumption) | exact Mine.ns10 (by assumption) | exact Mine.nr11 (by assumption) | exact Mine.ns11 (by assumption) | exact Mine.nr12 (by assumption) | exact Mine.ns12 (by assumption) | exact Mine.nw1 (by assumption) | exact Mine.nw2 (by assumption) | exact Mine.nw3 (by assumption) | exact Mine.nw4 (by assumption) | exact Mine.nw5 (by assumption) | exact Mine.nw6 (by assumption) | exact Mine.nk1 (by assumption) | exact Mine.nk2 (by assumption) | exact Mine.nk3 (by assumption) | exact Mine.nk4 (by assumption)) | fail "no")
  k_with "my om" => (first | ((with_reducible show @Eq Int _ _); with_reducible first | assumption | exact Eq.symm (by assumption) | exact Int.toNat_of_nonneg (by assumption)) | fail "no")
  k_with "my om" => (first | ((with_reducible show And (@LE.le Int _ _ _) _); with_reducible first | assumption | (refine Mine.i2 (by assumption) ?_; omega) | (refine Mine.i2' (by assumption) ?_; omega)) | fail "no")
  k_with "my om" => (first | ((with_reducible show @LT.lt Int _ _ _); first | (with_reducible first | assumption | exact Mine.i1' (by assumption) | exact Int.ofNat_lt.mpr (by assumption) | exact And.left (by assumption) | exact And.right (by assumption) | exact Int.lt_of_not_le (by assumption)) | decide +kernel) | fail "no")
  k_with "my om" => (first | ((with_reducible show @LE.le Int _ _ _); first | (with_reducible first | assumption | exact Int.natCast_nonneg _ | exact Int.le_refl _ | exact Mine.i1 _ | exact Int.ofNat_le.mpr (by assumption) | exact Mine.i6 (by assumption) (by assumption) | (refine Mine.i7 ?_; omega) | exact And.left (by assumption) | exact And.right (by assumption) | exact Int.le_of_not_lt (by assumption) | exact Int.le_of_lt (by assumption)) | decide +kernel) | fail "no")
  k_with "my om" => (first | ((with_reducible show @Eq Nat _ _); with_reducible first | assumption | exact Eq.symm (by assumption) | exact Mine.i5 (by assumption) | exact Mine.i4 _ | exact Mine.i3 _ | exact Eq.symm (Mine.i4 _) | exact Nat.add_sub_cancel_left .. | exact Nat.min_eq_left (by assumption) | exact Eq.trans (by assumption) (by assumption) | exact Eq.trans (Eq.symm (by assumption)) (by assumption) | exact Eq.trans (by assumption) (Eq.symm (by assumption))) | fail "no")
  k_with "my om" => (first | ((with_reducible show @LT.lt Nat _ _ _); with_reducible first | assumption | exact Mine.np (by assumption) | exact Mine.nq (by assumption) rfl | exact Mine.nv (by assumption) rfl | exact Mine.ia (by assumption) (by assumption) | exact Mine.ib (by assumption) (by assumption) | exact Nat.lt_of_lt_of_le (by assumption) (by assumption) | exact Nat.succ_lt_succ (by assumption) | exact And.left (by assumption) | exact And.right (by assumption) | exact Nat.lt_of_not_le (by assumption) | exact Mine.ia (Mine.ia (by assumption) (by assumption)) (by assumption) | exact Mine.ib (Mine.ia (by assumption) (by assumption)) (by assumption) | exact Mine.ia (Mine.ib (by assumption) (by assumption)) (by assumption) | exact Mine.ib (Mine.ib (by assumption) (by assumption)) (by assumption)) | fail "no")
  k_with "my om" => (first | ((with_reducible show @LE.le Nat _ _ _); first | (with_reducible first | assumption | exact Mine.nc (by assumption) rfl | exact Nat.le_refl _ | exact Mine.nl (by assumption) (by assumption) | exact Mine.nm (by assumption) (by assumption) | exact Mine.nn (by assumption) (by assumption) | exact Mine.nn (by assumption) (Mine.nc (by assumption) rfl) | exact Mine.nl (by assumption) (Mine.nc (by assumption) rfl) | exact Mine.nm (by assumption) (Mine.nc (by assumption) rfl) | exact Mine.nl (by assumption) (Mine.nl (by assumption) (Mine.nc (by assumption) rfl)) | exact Mine.nl (by assumption) (Mine.nn (by assumption) (Mine.nc (by assumption) rfl)) | exact Mine.nm (by assumption) (Mine.nn (by assumption) (Mine.nc (by assumption) rfl)) | exact Mine.nl (by assumption) (Mine.nm (by assumption) (Mine.nc (by assumption) rfl)) | exact Mine.nm (by assumption) (Mine.nl (by assumption) (Mine.nc (by assumption) rfl)) | exact Mine.nm (by assumption) (Mine.nm (by assumption) (Mine.nc (by assumption) rfl)) | exact Nat.le_add_right _ _ | exact Nat.succ_le_succ (by assumption) | exact Nat.le_of_eq (by assumption) | exact Nat.le_of_eq (Eq.symm (by assumption)) | exact Nat.le_succ_of_le (by assumption) | exact Nat.le_of_not_lt (by assumption) | exact Int.toNat_le_toNat (by assumption) | exact Mine.ig (by assumption) (by assumption) rfl | exact Mine.ih (by assumption) (by assumption) rfl | exact And.left (by assumption) | exact And.right (by assumption) | (refine Mine.ie ?_ (by assumption); omega) | (refine Mine.ie' ?_ (by assumption); omega) | (refine Mine.id1 ?_; omega) | (refine Mine.ij ?_; omega) | (refine Mine.ic (by assumption) rfl ?_; omega)) | exact Mine.nz rfl) | fail "no")
  k_with "my own" => (first | assumption | exact Mine.PAt.of (by assumption) (PySem.SameStack.mark _ _) | exact Mine.PAt.of (by assumption) (PySem.SameStack.unmark _ _) | fail "no")
  k_fill
  k_with "my inst" => (first | exact InstAt.up (by assumption) (Fr.keep (by k_asm)) | fail "no")
  exact ⟨rfl, rfl⟩
theorem tupUp {g h : Heap} {L a : Addr} {m : Str → Option Value} {items : Array Value} (T : IsTup g a items) (F : Fr g L h m) : IsTup h a items := by
  obtain ⟨o, e, r⟩ := T
  exact ⟨o, F.keep _ _ e, r⟩
theorem tup76 {w : World} {g : Heap} (X : Frag.In (K9 w.params) g) : ∃ t1 t2 t3, IsTup g 76 #[.str (Str.ofString "CR") t1, .str (Str.ofString "LF") t2, .str (Str.ofString "Control") t3] := ⟨_, _, _, _, X _ _ (by k_is), rfl, _, rfl⟩
theorem tup77 {w : World} {g : Heap} (X : Frag.In (K9 w.params) g) : ∃ t1 t2, IsTup g 77 #[.str (Str.ofString "Extend") t1, .str (Str.ofString "ZWJ") t2] := ⟨_, _, _, X _ _ (by k_is), rfl, _, rfl⟩
theorem tup78 {w : World} {g : Heap} (X : Frag.In (K9 w.params) g) : ∃ t1 t2, IsTup g 78 #[.str (Str.ofString "Extend") t1, .str (Str.ofString "Linker") t2] := ⟨_, _, _, X _ _ (by k_is), rfl, _, rfl⟩
theorem tup155 {w : World} {g : Heap} (X : Frag.In (K9 w.params) g) : ∃ t1 t2 t3 t4, IsTup g 155 #[.str (Str.ofString "Cc") t1, .str (Str.ofString "Zl") t2, .str (Str.ofString "Zp") t3, .str (Str.ofString "Cs") t4] := ⟨_, _, _, _, _, X _ _ (by k_is), rfl, _, rfl⟩
theorem tup156 {w : World} {g : Heap} (X : Frag.In (K9 w.params) g) : ∃ t1 t2, IsTup g 156 #[.str (Str.ofString "Mn") t1, .str (Str.ofString "Me") t2] := ⟨_, _, _, X _ _ (by k_is), rfl, _, rfl⟩
noncomputable def Nh (c : Int) : Prop := c < 4352 ∨ (4608 ≤ c ∧ c < 43360) ∨ 55292 ≤ c
theorem hsyl_cc {w : World} {base : Heap} (G : Gr w base) (c : Int) (t : Tok) (hc : 0 ≤ c ∧ c < 1114111) (hn : Nh c) :
   CC w base 68 [.int c t] 1 (fun _ => True) (fun h v h' => Kp h h' ∧ v = .bool false) := by
  have G' := G
  obtain ⟨X, p, loose, mean, mg, mb, T⟩ := G
  intro dp un fr gd s Q E hdp hun hb hp hret
  w_on
  k_dflt (refine enter (binds := [(Str.ofString "code", .int c t)]) [] X T hb (fun _ h => nomatch h) (by k_is) (by k_is) (by show dp < recursionLimit; omega) (BindsTo.of_eq rfl) (locs rfl) (fun E9 Q9 g L h₁ g9s d9r t9k o9s hQ9 hE9 hP9 hA9 hB hG X' T' F' N' hL => ?_))
  try dsimp only
  unfold Nh at hn
  k_unmd
  try k_fold
  k_steps
  all_goals (try ((with_reducible refine hQ9 _ _ _ ?_); (try dsimp only)))
  all_goals (try dsimp only)
  all_goals (refine pure_end (s := s) (R := fun v => v = .bool false) hret hG (by assumption) ?_)
  all_goals ((try dsimp only); refine congrArg Value.bool (decide_eq_false ?_); omega)
theorem hkind_cc {w : World} {base : Heap} (G : Gr w base) (c : Int) (t : Tok) (hc : 0 ≤ c ∧ c < 1114111) (hn : Nh c) :
   CC w base 75 [.int c t] 2 (fun _ => True) (fun h v h' => Kp h h' ∧ v = .none) := by
  have G' := G
  obtain ⟨X, p, loose, mean, mg, mb, T⟩ := G
  intro dp un fr gd s Q E hdp hun hb hp hret
  w_on
  k_dflt (refine enter (binds := [(Str.ofString "code", .int c t)]) [] X T hb (fun _ h => nomatch h) (by k_is) (by k_is) (by show dp < recursionLimit; omega) (BindsTo.of_eq rfl) (locs rfl) (fun E9 Q9 g L h₁ g9s d9r t9k o9s hQ9 hE9 hP9 hA9 hB hG X' T' F' N' hL => ?_))
  try dsimp only
  have hn' := hn
  unfold Nh at hn
  k_unmd
  try k_fold
  k_with "call ref" => ((with_reducible show wpAny _ _ (PySem.call (Value.ref 68) _ _) _ _ _); (refine' use_pure (hsyl_cc G' c _ hc hn') hB ?kF ?kN ?kp ?kd ?ku ?_); (case kF => k_asm); (case kN => k_asm); (case kp => trivial); (case kd => k_dflt (exact lim1 hdp rfl)); (case ku => k_dflt (exact lim3 hun rfl)); intro v9 h9 tk9 e9 hk9 F9 N9; subst e9; k_sweep)
  k_steps
  all_goals (try ((with_reducible refine hQ9 _ _ _ ?_); (try dsimp only)))
  all_goals (try dsimp only)
  all_goals (try (exfalso; omega))
  all_goals (refine pure_end (s := s) (R := fun v => v = .none) hret hG (by assumption) ?_)
  all_goals rfl
theorem get_str {w : World} {base : Heap} (G : Gr w base) (d : Addr) (D : DS) (ms : Str → Option MS) (sem : Str → Int → DV) (n : Nat) (x : Str) (t : Tok) (c : Int) (t' : Tok) (a : Str) (hx : x ∈ N6) (hb : kb x = false) (hc : 0 ≤ c) (ha : sem x c = .s a) :
   CC w base 281 [.ref d, .str x t, .int c t'] 3 (fun h => DatM w h d D ms sem n) (fun h v h' => Kp h h' ∧ ∃ u, v = .str a u) := by
  intro dp un fr gd s Q E hdp hun hB hp hret
  refine get_cc G d D ms sem n x t c t' hx hc dp un fr gd s Q E hdp hun hB hp fun v h' tk' ⟨k, e, vv⟩ => hret v h' tk' ⟨k, ?_⟩
  rw [hb] at vv
  obtain ⟨b, u, rfl⟩ := vv
  rw [ha] at e
  cases e
  exact ⟨u, rfl⟩
theorem get_bool {w : World} {base : Heap} (G : Gr w base) (d : Addr) (D : DS) (ms : Str → Option MS) (sem : Str → Int → DV) (n : Nat) (x : Str) (t : Tok) (c : Int) (t' : Tok) (a : Bool) (hx : x ∈ N6) (hb : kb x = true) (hc : 0 ≤ c) (ha : sem x c = .b a) :
   CC w base 281 [.ref d, .str x t, .int c t'] 3 (fun h => DatM w h d D ms sem n) (fun h v h' => Kp h h' ∧ v = .bool a) := by
  intro dp un fr gd s Q E hdp hun hB hp hret
  refine get_cc G d D ms sem n x t c t' hx hc dp un fr gd s Q E hdp hun hB hp fun v h' tk' ⟨k, e, vv⟩ => hret v h' tk' ⟨k, ?_⟩
  rw [hb] at vv
  obtain ⟨b, rfl⟩ := vv
  rw [ha] at e
  cases e
  rfl
structure SgOk (sem : Str → Int → DV) (x : Sg) : Prop where
  is_ : SemIs sem x
  lo : 0 ≤ x.c
  hi : x.c < 1114111
  nh : x.gcb = S "Other" → Nh x.c
theorem ckind_cc {w : World} {base : Heap} (G : Gr w base) (d : Addr) (D : DS) (ms : Str → Option MS) (sem : Str → Int → DV) (n : Nat) (x : Sg) (t : Tok) (ok : SgOk sem x) :
   CC w base 85 [.int x.c t, .ref d] 4 (fun h => DatM w h d D ms sem n) (fun h v h' => Kp h h' ∧ ∃ u, v = .str x.gcb u) := by
  have G' := G
  obtain ⟨X, p, loose, mean, mg, mb, T⟩ := G
  intro dp un fr gd s Q E hdp hun hb hp hret
  w_on
  k_dflt (refine enter (binds := [(Str.ofString "code", .int x.c t), (Str.ofString "data", .ref d)]) [] X T hb (fun _ h => nomatch h) (by k_is) (by k_is) (by show dp < recursionLimit; omega) (BindsTo.of_eq rfl) (locs rfl) (fun E9 Q9 g L h₁ g9s d9r t9k o9s hQ9 hE9 hP9 hA9 hB hG X' T' F' N' hL => ?_))
  try dsimp only
  have hk : Kp s.heap g := fun b o e => hG _ _ e (fun h => nomatch h)
  have P := hp.keep hk
  have I' := P.inst
  k_unmd
  try k_fold
  k_with "call ref" => ((with_reducible show wpAny _ _ (PySem.call (Value.ref 281) _ _) _ _ _); (refine' use_pure (get_str G' d D ms sem n (S "gcb") _ x.c _ x.gcb (by decide +kernel) (by decide +kernel) ok.lo ok.is_.gcb) hB ?kF ?kN ?kp ?kd ?ku ?_); (case kF => k_asm); (case kN => k_asm); (case kp => exact P.keep (Fr.keep (by k_asm))); (case kd => k_dflt (exact lim1 hdp rfl)); (case ku => k_dflt (exact lim3 hun rfl)); intro v9 h9 tk9 hR9 hk9 F9 N9; (obtain ⟨t9, e9⟩ := hR9); subst e9; k_sweep)
  k_with "call ref" => ((with_reducible show wpAny _ _ (PySem.call (Value.ref 75) _ _) _ _ _); (refine' use_pure (hkind_cc G' x.c _ ⟨ok.lo, ok.hi⟩ (ok.nh (bne_eq_false_iff_eq.mp ‹(x.gcb != Str.ofString "Other") = false› : x.gcb = Str.ofString "Other"))) hB ?kF ?kN ?kp ?kd ?ku ?_); (case kF => k_asm); (case kN => k_asm); (case kp => trivial); (case kd => k_dflt (exact lim1 hdp rfl)); (case ku => k_dflt (exact lim3 hun rfl)); intro v9 h9 tk9 e9 hk9 F9 N9; subst e9; k_sweep)
  k_steps
  all_goals (try ((with_reducible refine hQ9 _ _ _ ?_); (try dsimp only)))
  all_goals (try dsimp only)
  all_goals (refine pure_end (s := s) (R := fun v => ∃ u, v = .str x.gcb u) hret hG (by assumption) ?_)
  all_goals (exact ⟨_, rfl⟩)
noncomputable def optV : Option Bool → Value
  | none => .none
  | some b => .bool b
theorem cpair_cc {w : World} {base : Heap} (G : Gr w base) (l r : Str) (t1 t2 : Tok) :
   CC w base 99 [.str l t1, .str r t2, .bool false] 2 (fun _ => True) (fun h v h' => Kp h h' ∧ v = optV (pairF l r)) := by
  have G' := G
  obtain ⟨X, p, loose, mean, mg, mb, T⟩ := G
  intro dp un fr gd s Q E hdp hun hb hp hret
  w_on
  k_dflt (refine enter (binds := [(Str.ofString "left", .str l t1), (Str.ofString "right", .str r t2), (Str.ofString "is_legacy", .bool false)]) [] X T hb (fun _ h => nomatch h) (by k_is) (by k_is) (by show dp < recursionLimit; omega) (BindsTo.of_eq rfl) (locs rfl) (fun E9 Q9 g L h₁ g9s d9r t9k o9s hQ9 hE9 hP9 hA9 hB hG X' T' F' N' hL => ?_))
  try dsimp only
  obtain ⟨a1, a2, a3, hT1⟩ := tup76 X'
  obtain ⟨b1, b2, hT2⟩ := tup77 X'
  k_unmd
  try k_fold
  k_with "compareOp In str ref" => (with_unfolding_all refine' in_tuple_strs ?k1 ?k2 ?_; (case k1 => exact tupUp (by assumption) (by k_asm)); (case k2 => kde_strs); k_whole)
  k_with "call ref" => ((with_reducible show wpAny _ _ (PySem.call (Value.ref 92) _ _) _ _ _); (refine' use_pure (joins_cc G' l r _ _) hB ?kF ?kN ?kp ?kd ?ku ?_); (case kF => k_asm); (case kN => k_asm); (case kp => trivial); (case kd => k_dflt (exact lim1 hdp rfl)); (case ku => k_dflt (exact lim3 hun rfl)); intro v9 h9 tk9 e9 hk9 F9 N9; subst e9; k_sweep)
  k_steps
  all_goals (try ((with_reducible refine hQ9 _ _ _ ?_); (try dsimp only)))
  all_goals (try dsimp only)
  all_goals (refine pure_end (s := s) (R := fun v => v = optV (pairF l r)) hret hG (by assumption) ?_)
  all_goals ((try dsimp only); simp_all [pairF, isin, S, optV])
end Mine

end

section
open PySem PySem.W PyProof.Rows PySem.Calls
namespace Mine
set_option maxRecDepth 100000
theorem hid_none {h : Heap} {l : List Addr} {a : Addr} (e : h.get? a = none) : (hideAll h l).get? a = none := Option.eq_none_iff_forall_ne_some.mpr fun o q => by rw [of_hideAll _ q] at e; cases e
theorem not_yet (h : Heap) : h.get? h.objs.size = none := Heap.get?_none_of_le (Nat.le_refl _)
theorem nw_app {g h : Heap} {L : Addr} {l l' : List (Addr × Obj)} (N : News g L h l) (N' : News g L h l') : News g L h (l ++ l') := fun q hq => (List.mem_append.mp hq).elim (N q) (N' q)
section
variable {w : World} {base : Heap} {s : Shared} {A : Around} {Q E : Value → Shared → Prop} {p : Program} {loose : List Str} {mean : ExcName → Option Value} {mg mb : Str → Option Value}
  {name qual : Str} {params : Arguments} {body : List Stmt} {scope : Scope} {dV kV doc pm cdv ct oc : Value} {an od : Option Addr} {osl : Array (Option Value)} {f : Addr} {args : List Value} {binds : List (Str × Value)}
theorem enterC (led : List (Addr × Obj)) (X : Frag.In (K9 w.params) base) (T : Top p loose mean mg mb base) (hb : Kp base s.heap) (hn : ∀ p ∈ led, s.heap.get? p.1 = some p.2 ∧ base.get? p.1 = none)
    (ho : (K9 w.params).lookup f = some ⟨oc, od, .func (fnOf name qual params body scope dV kV doc pm an cdv ct), osl⟩) (hcd : codeIn (K9 w.params) cdv qual = true) (hroom : A.depth < recursionLimit)
    (hbind : BindsTo s (fnOf name qual params body scope dV kV doc pm an cdv ct) ⟨args, []⟩ binds) (hkind : (binds.all fun y => scope.names.lookup y.1 == some .local || scope.names.lookup y.1 == some .cell) = true)
    (hnd : ((cellsFrom 0 scope.names []).map (·.1)).Nodup)
    (h : ∀ (E9 : Value → Shared → Prop) (Q9 : Flow → Shared → Prop) g L h₁ gs dr tk0 os cells, (∀ fl h' tk', Q (match fl with | .ret v => v | _ => .none) { s with heap := h', toks := tk' } → Q9 fl ⟨h', gs, dr, tk', os⟩) → (∀ e h' tk', wpAny (model pw w) (A.deeper (envOfC qual scope L f cdv)) (leaving (envOfC qual scope L f cdv) e) (fun _ s'' => E e s'') (fun e' s'' => E e' s'') { s with heap := h', toks := tk' } → E9 e ⟨h', gs, dr, tk', os⟩) → PassesOwn (model pw w) (A.deeper (envOfC qual scope L f cdv)) (envOfC qual scope L f cdv) E9 → PAt (model pw w) (A.deeper (envOfC qual scope L f cdv)) (envOfC qual scope L f cdv) E9 → Kp base g → (∀ b o, s.heap.get? b = some o → b ∉ led.map (·.1) → g.get? b = some o) → Frag.In (K9 w.params) g → Top p loose mean mg mb g → Fr g L h₁ (bindL (envOfC qual scope L f cdv).kindOf binds fun _ => none) → News g L h₁ (cells ++ led) →
      CellsAre (bindC (envOfC qual scope L f cdv).kindOf binds fun _ => none) (cellsFrom (L + 1) scope.names []) cells → s.heap.get? L = none →
      wpAny (model pw w) (A.deeper (envOfC qual scope L f cdv)) (execs body (envOfC qual scope L f cdv))
        Q9 E9 ⟨h₁, gs, dr, tk0, os⟩)
    (hco : scope.isCoroutine = false := by rfl) (hgen : scope.isGenerator = false := by rfl) (hk : scope.kind = .function := by rfl) : wpAny (model pw w) A (call (.ref f) args) Q E s := by
  refine wpAny_call ?_
  have hg : Kp base (hideAll s.heap (led.map (·.1))) := fun b o e => hideAll_get _ (hb b o e) fun hm => by
    obtain ⟨q, hq, rfl⟩ := List.mem_map.mp hm
    rw [(hn q hq).2] at e; cases e
  refine codeAny_call_function hroom (hb _ _ (X _ _ ho)) rfl hco hgen rfl (codeRec_of (X.keeps hb) hcd) (hbind _ _ _ _ ?_)
  refine wpAny_newFunctionEnv_cells hk (kindsX hkind _) fun env' he s' x => ?_
  subst he
  have up := x.toInCall.keep
  refine ⟨(T.nolimit.keeps hb).keeps up, codeAny_func ?_⟩
  obtain ⟨cells, made, Y⟩ := Cl.news (Nat.le_refl s.heap.objs.size) fun n c hm => And.intro (x.cell n c (lookup_of_mem_nodup (cs := cellsFrom (s.heap.objs.size + 1) scope.names []) (by rw [← cellsFrom_names scope.names 0 (s.heap.objs.size + 1) [] [] rfl]; exact hnd) hm)) (x.above n c hm)
  obtain ⟨h₁, tk, rfl, _⟩ := x.done
  exact h _ _ (hideAll s.heap (led.map (·.1))) s.heap.objs.size h₁ s.gens s.drawn tk s.os cells (fun _ _ _ z => z) (fun _ _ _ z => z) PassesOwn.leaving (fun _ k => PassesOwnAt.leavingOf k) hg (fun b o e hb => hideAll_get _ e hb) (X.keeps hg) (T.keeps hg)
    ⟨x.toInCall.ns, fun b o e => up b o (of_hideAll _ e), Nat.le_of_eq (hideAll_size _ _)⟩
    (nw_app (fun p hp => ⟨(made p hp).1, (made p hp).2.1, hid_none (made p hp).2.2⟩) fun p hp => ⟨up _ _ (hn p hp).1, Nat.ne_of_lt (Heap.lt_size (hn p hp).1), hideAll_none _ (List.mem_map_of_mem hp)⟩) Y (not_yet _)
end
end Mine

end

section
open PySem PySem.W PyProof.Rows PySem.Calls
namespace Mine
set_option maxRecDepth 100000
set_option maxHeartbeats 0
theorem fill17 : PySem.Challenge.rw_pb0596_01.foot = 6 ∧ K9 = K9 := by
  k_with_none
  k_with "my ne" => (first | (with_reducible first | assumption | exact Ne.symm (by assumption) | exact Mine.nr1 (by assumption) | exact Mine.ns1 (by assumption) | exact Mine.nt1 (by assumption) | exact Mine.nu1 (by assumption) | exact Mine.nr2 (by assumption) | exact Mine.ns2 (by assumption) | exact Mine.nt2 (by assumption) | exact Mine.nu2 (by assumption) | exact Mine.nr3 (by assumption) | exact Mine.ns3 (by assumption) | exact Mine.nt3 (by assumption) | exact Mine.nu3 (by assumption) | exact Mine.nr4 (by assumption) | exact Mine.ns4 (by assumption) | exact Mine.nt4 (by assumption) | exact Mine.nu4 (by assumption) | exact Mine.nr5 (by assumption) | exact Mine.ns5 (by assumption) | exact Mine.nt5 (by assumption) | exact Mine.nu5 (by assumption) | exact Mine.nr6 (by assumption) | exact Mine.ns6 (by assumption) | exact Mine.nt6 (by assumption) | exact Mine.nu6 (by assumption) | exact Mine.nr7 (by assumption) | exact Mine.ns7 (by assumption) | exact Mine.nt7 (by assumption) | exact Mine.nu7 (by assumption) | exact Mine.nr8 (by assumption) | exact Mine.ns8 (by assumption) | exact Mine.nt8 (by assumption) | exact Mine.nu8 (by assumption) | exact Mine.nr9 (by assumption) | exact Mine.ns9 (by assumption) | exact Mine.nr10 (by assumption) | exact Mine.ns10 (by assumption) | exact Mine.nr11 (by assumption) | exact Mine.ns11 (by assumption) | exact Mine.nr12 (by assumption) | exact Mine.ns12 (by assumption) | exact Mine.nw1 (by assumption) | exact Mine.nw2 (by assumption) | exact Mine.nw3 (by assumption) | exact Mine.nw4 (by assumption) | exact Mine.nw5 (by assumption) | exact Mine.nw6 (by assumption) | exact Mine.nk1 (by assumption) | exact Mine.nk2 (by assumption) | exact Mine.nk3 (by assumption) | exact Mine.nk4 (by assumption)) | fail "no")
  k_with "my om" => (first | ((with_reducible show @Eq Int _ _); with_reducible first | assumption | exact Eq.symm (by assumption) | exact Int.toNat_of_nonneg (by assumption)) | fail "no")
  k_with "my om" => (first | ((with_reducible show And (@LE.le Int _ _ _) _); with_reducible first | assumption | (refine Mine.i2 (by assumption) ?_; omega) | (refine Mine.i2' (by assumption) ?_; omega)) | fail "no")
  k_with "my om" => (first | ((with_reducible show @LT.lt Int _ _ _); first | (with_reducible first | assumption | exact Mine.i1' (by assumption) | exact Int.ofNat_lt.mpr (by assumption) | exact And.left (by assumption) | exact And.right (by assumption) | exact Int.lt_of_not_le (by assumption)) | decide +kernel) | fail "no")
  k_with "my om" => (first | ((with_reducible show @LE.le Int _ _ _); first | (with_reducible first | assumption | exact Int.natCast_nonneg _ | exact Int.le_refl _ | exact Mine.i1 _ | exact Int.ofNat_le.mpr (by assumption) | exact Mine.i6 (by assumption) (by assumption) | (refine Mine.i7 ?_; omega) | exact And.left (by assumption) | exact And.right (by assumption) | exact Int.le_of_not_lt (by assumption) | exact Int.le_of_lt (by assumption)) | decide +kernel) | fail "no")
  k_with "my om" => (first | ((with_reducible show @Eq Nat _ _); with_reducible first | assumption | exact Eq.symm (by assumption) | exact Mine.i5 (by assumption) | exact Mine.i4 _ | exact Mine.i3 _ | exact Eq.symm (Mine.i4 _) | exact Nat.add_sub_cancel_left .. | exact Nat.min_eq_left (by assumption) | exact Eq.trans (by assumption) (by assumption) | exact Eq.trans (Eq.symm (by assumption)) (by assumption) | exact Eq.trans (by assumption) (Eq.symm (by assumption))) | fail "no")
  k_with "my om" => (first | ((with_reducible show @LT.lt Nat _ _ _); with_reducible first | assumption | exact Mine.np (by assumption) | exact Mine.nq (by assumption) rfl | exact Mine.nv (by assumption) rfl | exact Mine.ia (by assumption) (by assumption) | exact Mine.ib (by assumption) (by assumption) | exact Nat.lt_of_lt_of_le (by assumption) (by assumption) | exact Nat.succ_lt_succ (by assumption) | exact And.left (by assumption) | exact And.right (by assumption) | exact Nat.lt_of_not_le (by assumption) | exact Mine.ia (Mine.ia (by assumption) (by assumption)) (by assumption) | exact Mine.ib (Mine.ia (by assumption) (by assumption)) (by assumption) | exact Mine.ia (Mine.ib (by assumption) (by assumption)) (by assumption) | exact Mine.ib (Mine.ib (by assumption) (by assumption)) (by assumption)) | fail "no")
  k_with "my om" => (first | ((with_reducible show @LE.le Nat _ _ _); first | (with_reducible first | assumption | exact Mine.nc (by assumption) rfl | exact Nat.le_refl _ | exact Mine.nl (by assumption) (by assumption) | exact Mine.nm (by assumption) (by assumption) | exact Mine.nn (by assumption) (by assumption) | exact Mine.nn (by assumption) (Mine.nc (by assumption) rfl) | exact Mine.nl (by assumption) (Mine.nc (by assumption) rfl) | exact Mine.nm (by assumption) (Mine.nc (by assumption) rfl) | exact Mine.nl (by assumption) (Mine.nl (by assumption) (Mine.nc (by assumption) rfl)) | exact Mine.nl (by assumption) (Mine.nn (by assumption) (Mine.nc (by assumption) rfl)) | exact Mine.nm (by assumption) (Mine.nn (by assumption) (Mine.nc (by assumption) rfl)) | exact Mine.nl (by assumption) (Mine.nm (by assumption) (Mine.nc (by assumption) rfl)) | exact Mine.nm (by assumption) (Mine.nl (by assumption) (Mine.nc (by assumption) rfl)) | exact Mine.nm (by assumption) (Mine.nm (by assumption) (Mine.nc (by assumption) rfl)) | exact Nat.le_add_right _ _ | exact Nat.succ_le_succ (by assumption) | exact Nat.le_of_eq (by assumption) | exact Nat.le_of_eq (Eq.symm (by assumption)) | exact Nat.le_succ_of_le (by assumption) | exact Nat.le_of_not_lt (by assumption) | exact Int.toNat_le_toNat (by assumption) | exact Mine.ig (by assumption) (by assumption) rfl | exact Mine.ih (by assumption) (by assumption) rfl | exact And.left (by assumption) | exact And.right (by assumption) | (refine Mine.ie ?_ (by assumption); omega) | (refine Mine.ie' ?_ (by assumption); omega) | (refine Mine.id1 ?_; omega) | (refine Mine.ij ?_; omega) | (refine Mine.ic (by assumption) rfl ?_; omega)) | exact Mine.nz rfl) | fail "no")
  k_with "my own" => (first | assumption | exact Mine.PAt.of (by assumption) (PySem.SameStack.mark _ _) | exact Mine.PAt.of (by assumption) (PySem.SameStack.unmark _ _) | fail "no")
  k_fill
  k_with "my inst" => (first | exact InstAt.up (by assumption) (Fr.keep (by k_asm)) | fail "no")
  k_with "my inst" => (first | exact InstAt.mix (by assumption) (by k_asm) (by k_asm) (by k_mem) | fail "no")
  exact ⟨rfl, rfl⟩
structure T6 where
  t0 : Tok
  t1 : Tok
  t2 : Tok
  t3 : Tok
  t4 : Tok
  t5 : Tok
@[reducible] noncomputable def stEs (w : World) (T : T6) (d : Addr) (kv : Value) (odd : Bool) (p : Int) (pt : Tok) (c : Int) (ct : Tok) : List DictEntry :=
  [⟨PyData.keyHash w.params (Str.ofString "data_asked"), .str (Str.ofString "data_asked") T.t0, .ref d⟩, ⟨PyData.keyHash w.params (Str.ofString "is_legacy"), .str (Str.ofString "is_legacy") T.t1, .bool false⟩,
   ⟨PyData.keyHash w.params (Str.ofString "kind"), .str (Str.ofString "kind") T.t2, kv⟩, ⟨PyData.keyHash w.params (Str.ofString "is_odd"), .str (Str.ofString "is_odd") T.t3, .bool odd⟩,
   ⟨PyData.keyHash w.params (Str.ofString "picture"), .str (Str.ofString "picture") T.t4, .int p pt⟩, ⟨PyData.keyHash w.params (Str.ofString "conjunct"), .str (Str.ofString "conjunct") T.t5, .int c ct⟩]
structure StAt (w : World) (h : Heap) (x dx d : Addr) (T : T6) (kv : Value) (odd : Bool) (p : Int) (pt : Tok) (c : Int) (ct : Tok) : Prop where
  at_ : h.get? x = some (instObj 138 dx)
  dict : h.get? dx = some (dictOf (stEs w T d kv odd p pt c ct) 6)
noncomputable def StNew (w : World) (h h' : Heap) (x dx d : Addr) : Prop := h'.get? x = some (instObj 138 dx) ∧ ∃ T pt ct, h'.get? dx = some (dictOf (stEs w T d .none false 0 pt 0 ct) 6) ∧ ∀ b o, b ≠ dx → h.get? b = some o → h'.get? b = some o
section
variable {w : World} {s : Shared} {g h' : Heap} {L x dx d : Addr} {T : T6} {pt ct : Tok} {m : Str → Option Value} {tk : Nat} {od : Obj}
theorem sinit_fin {R : Result → Shared → Prop} (hret : ∀ (h' : Heap) (tk' : Nat), StNew w s.heap h' x dx d → R (.ok (.ret .none)) { s with heap := h', toks := tk' })
    (hG : ∀ b o, s.heap.get? b = some o → ¬ b ∈ List.map (fun x => x.fst) [(dx, od)] → g.get? b = some o) (hxg : g.get? x = some (instObj 138 dx)) (F : Fr g L h' m) (N : News g L h' [(dx, dictOf (stEs w T d .none false 0 pt 0 ct) 6)]) :
    R (.ok (.ret .none)) { s with heap := h', toks := tk } :=
  hret _ _ ⟨F.keep _ _ hxg, T, _, _, (N _ (.head _)).1, fun b o hb e => F.keep b o (hG b o e (by simpa using hb))⟩
theorem take_fin {Q : Value → Shared → Prop} {odd odd' : Bool} {pp pp' : Int} {y : Sg} {u : Tok}
    (hret : ∀ (v : Value) (h' : Heap) (tk' : Nat), v = .none ∧ (∃ u pt' ct', StAt w h' x dx d T (.str y.gcb u) (takeF ⟨none, odd, pp⟩ y).odd (takeF ⟨none, odd, pp⟩ y).pic pt' 0 ct' ∧ ∀ b o, b ≠ dx → s.heap.get? b = some o → h'.get? b = some o) → Q v { s with heap := h', toks := tk' })
    (hG : ∀ b o, s.heap.get? b = some o → ¬ b ∈ List.map (fun x => x.fst) [(dx, od)] → g.get? b = some o) (hxg : g.get? x = some (instObj 138 dx)) (F : Fr g L h' m) (N : News g L h' [(dx, dictOf (stEs w T d (.str y.gcb u) odd' pp' pt 0 ct) 6)])
    (ho : odd' = (takeF ⟨none, odd, pp⟩ y).odd) (hp : pp' = (takeF ⟨none, odd, pp⟩ y).pic) : Q .none { s with heap := h', toks := tk } := by
  subst ho; subst hp
  exact hret _ _ _ ⟨rfl, _, _, _, ⟨F.keep _ _ hxg, (N _ (.head _)).1⟩, fun b o hb e => F.keep b o (hG b o e (by simpa using hb))⟩
end
theorem sinit_cc {w : World} {base : Heap} (G : Gr w base) (x dx : Addr) (d : Addr) (hnb : base.get? dx = none) :
   CI w base 114 [.ref x, .ref d, .bool false] 1 (fun h => h.get? x = some (instObj 138 dx) ∧ h.get? dx = some (dictOf [] 0))
    (fun h h' => StNew w h h' x dx d) := by
  have G' := G
  obtain ⟨X, p, loose, mean, mg, mb, T⟩ := G
  intro dp un fr gd s Q hdp hun hb hp hret
  obtain ⟨hx, hdx⟩ := hp
  w_on
  k_dflt (refine enterI (binds := [(Str.ofString "self", .ref x), (Str.ofString "data", .ref d), (Str.ofString "is_legacy", .bool false)]) [(dx, dictOf [] 0)] X T hb (fun q hq => by rw [List.mem_singleton.mp hq]; exact ⟨hdx, hnb⟩) (by k_is) (by k_is) (by show dp < recursionLimit; omega) (binds_K (X.keeps hb) rfl (by k_is) rfl rfl rfl) (locs rfl) (fun E9 Q9 g L h₁ g9s d9r t9k o9s hQ9 hE9 hP9 hA9 hB hG X' T' F' N' hL => ?_))
  try dsimp only
  have hxg : g.get? x = some (instObj 138 dx) := hG _ _ hx (by
    intro hm
    have e : x = dx := by simpa using hm
    rw [e, hdx] at hx
    cases hx)
  k_unmd
  try k_fold
  k_steps
  all_goals (try ((with_reducible refine hQ9 _ _ _ ?_); (try dsimp only)))
  all_goals (exact sinit_fin (T := ⟨_, _, _, _, _, _⟩) hret hG hxg (by assumption) (by assumption))
theorem execs_cut1 {M : Model} {A : Around} {a : Stmt} {tl : List Stmt} {env : Env} {Q : Flow → Shared → Prop} {E : Value → Shared → Prop} {s : Shared} (Inv : Shared → Prop) (key : ∀ st, Inv st → wpAny M A (execs tl env) Q E st)
    (rest : (∀ st, Inv st → wpAny M A (execs tl env) Q E st) → wpAny M A (execs (a :: tl) env) Q E s) : wpAny M A (execs (a :: tl) env) Q E s := rest key
noncomputable def TkI (s : Shared) (g : Heap) (L dx : Addr) (m : Str → Option Value) (P : Obj → Prop) (st : Shared) : Prop := ∃ h tk o, st = { s with heap := h, toks := tk } ∧ Fr g L h m ∧ News g L h [(dx, o)] ∧ P o
theorem tk_0 {w : World} {s : Shared} {g h : Heap} {L dx d : Addr} {m : Str → Option Value} {T : T6} {kv : Value} {odd odd' : Bool} {pp c : Int} {pt ct : Tok} {tk : Nat} {y : Sg} (F : Fr g L h m) (N : News g L h [(dx, dictOf (stEs w T d kv odd' pp pt c ct) 6)]) (ho : odd' = (takeF ⟨none, odd, pp⟩ y).odd) :
    TkI s g L dx m (fun o => o = dictOf (stEs w T d kv (takeF ⟨none, odd, pp⟩ y).odd pp pt c ct) 6) { s with heap := h, toks := tk } := ⟨h, tk, _, rfl, F, N, by rw [ho]⟩
theorem tk_1 {w : World} {s : Shared} {g h : Heap} {L dx d : Addr} {m : Str → Option Value} {T : T6} {kv : Value} {odd odd' : Bool} {pp pp' c : Int} {pt ct : Tok} {tk : Nat} {y : Sg} (F : Fr g L h m) (N : News g L h [(dx, dictOf (stEs w T d kv odd' pp' pt c ct) 6)]) (hp : pp' = (takeF ⟨none, odd, pp⟩ y).pic) :
    TkI s g L dx m (fun o => ∃ pt', o = dictOf (stEs w T d kv odd' (takeF ⟨none, odd, pp⟩ y).pic pt' c ct) 6) { s with heap := h, toks := tk } := ⟨h, tk, _, rfl, F, N, pt, by rw [hp]⟩
theorem take_cc {w : World} {base : Heap} (G : Gr w base) (x dx d : Addr) (T6' : T6) (kv : Value) (odd : Bool) (pp c : Int) (pt ct : Tok) (y : Sg) (u1 u2 : Tok) (hnb : base.get? dx = none) :
   CC w base 135 [.ref x, .str y.gcb u1, .bool y.ep, .str (Str.ofString "None") u2] 1 (fun h => StAt w h x dx d T6' kv odd pp pt c ct)
    (fun h v h' => v = .none ∧ ∃ u pt' ct', StAt w h' x dx d T6' (.str y.gcb u) (takeF ⟨none, odd, pp⟩ y).odd (takeF ⟨none, odd, pp⟩ y).pic pt' 0 ct' ∧ ∀ b o, b ≠ dx → h.get? b = some o → h'.get? b = some o) := by
  have G' := G
  obtain ⟨X, p, loose, mean, mg, mb, T⟩ := G
  intro dp un fr gd s Q E hdp hun hb hp hret
  obtain ⟨hx, hdx⟩ := hp
  w_on
  k_dflt (refine enter (binds := [(Str.ofString "self", .ref x), (Str.ofString "kind", .str y.gcb u1), (Str.ofString "is_picture", .bool y.ep), (Str.ofString "word", .str (Str.ofString "None") u2)]) [(dx, dictOf (stEs w T6' d kv odd pp pt c ct) 6)] X T hb (fun q hq => by rw [List.mem_singleton.mp hq]; exact ⟨hdx, hnb⟩) (by k_is) (by k_is) (by show dp < recursionLimit; omega) (BindsTo.of_eq rfl) (locs rfl) (fun E9 Q9 g L h₁ g9s d9r t9k o9s hQ9 hE9 hP9 hA9 hB hG X' T' F' N' hL => ?_))
  try dsimp only
  have hxg : g.get? x = some (instObj 138 dx) := hG _ _ hx (by
    intro hm
    have e : x = dx := by simpa using hm
    rw [e, hdx] at hx
    cases hx)
  obtain ⟨b1, b2, hT2⟩ := tup78 X'
  k_unmd
  try k_fold
  k_with "compareOp NotIn str ref" => (with_unfolding_all refine' notin_tuple_strs ?k1 ?k2 ?_; (case k1 => exact tupUp (by assumption) (by k_asm)); (case k2 => kde_strs); k_whole)
  refine execs_cut1 (TkI ⟨h₁, g9s, d9r, t9k, o9s⟩ g L dx (fun z => List.lookup z [(Str.ofString "self", Value.ref x), (Str.ofString "kind", Value.str y.gcb u1), (Str.ofString "is_picture", Value.bool y.ep), (Str.ofString "word", Value.str (Str.ofString "None") u2)].reverse) fun o => o = dictOf (stEs w T6' d kv (takeF ⟨none, odd, pp⟩ y).odd pp pt c ct) 6) ?key ?rest
  case rest =>
    intro key
    k_with "execs cons" => ((try dsimp only); (with_reducible refine key _ ?_))
    k_steps
    all_goals (try ((with_reducible refine hQ9 _ _ _ ?_); (try dsimp only)))
    all_goals (refine tk_0 (by assumption) (by assumption) ?_)
    all_goals (simp_all [takeF, S])
  case key =>
    clear F' N'
    rintro _ ⟨h, tk, _, rfl, F, N, rfl⟩
    dsimp only
    obtain ⟨odd', hod⟩ : ∃ o, o = (takeF ⟨none, odd, pp⟩ y).odd := ⟨_, rfl⟩
    rw [← hod] at N
    refine execs_cut1 (TkI ⟨h₁, g9s, d9r, t9k, o9s⟩ g L dx (fun z => List.lookup z [(Str.ofString "self", Value.ref x), (Str.ofString "kind", Value.str y.gcb u1), (Str.ofString "is_picture", Value.bool y.ep), (Str.ofString "word", Value.str (Str.ofString "None") u2)].reverse) fun o => ∃ pt', o = dictOf (stEs w T6' d kv odd' (takeF ⟨none, odd, pp⟩ y).pic pt' c ct) 6) ?key ?rest
    case rest =>
      intro key
      k_with "execs cons" => ((try dsimp only); (with_reducible refine key _ ?_))
      k_steps
      all_goals (try ((with_reducible refine hQ9 _ _ _ ?_); (try dsimp only)))
      all_goals (refine tk_1 (by assumption) (by assumption) ?_)
      all_goals (clear hret; simp_all [takeF, S])
    case key =>
      clear F N
      rintro _ ⟨h, tk, _, rfl, F, N, pt', rfl⟩
      dsimp only
      obtain ⟨pp', hpp⟩ : ∃ o, o = (takeF ⟨none, odd, pp⟩ y).pic := ⟨_, rfl⟩
      rw [← hpp] at N
      k_steps
      all_goals (try ((with_reducible refine hQ9 _ _ _ ?_); (try dsimp only)))
      all_goals (exact take_fin (T := T6') (odd := odd) (pp := pp) (y := y) hret hG hxg (by assumption) (by assumption) hod hpp)
end Mine

end

section
open PySem PySem.W PyProof.Rows PySem.Calls
namespace Mine
set_option maxRecDepth 100000
set_option maxHeartbeats 0
theorem fill18 : PySem.Challenge.rw_pb0596_01.foot = 6 ∧ K9 = K9 := by
  k_with_none
  k_with "my ne" => (first | (with_reducible first | assumption | exact Ne.symm (by assumption) | exact Mine.nr1 (by assumption) | exact Mine.ns1 (by assumption) | exact Mine.nt1 (by assumption) | exact Mine.nu1 (by assumption) | exact Mine.nr2 (by assumption) | exact Mine.ns2 (by assumption) | exact Mine.nt2 (by assumption) | exact Mine.nu2 (by assumption) | exact Mine.nr3 (by assumption) | exact Mine.ns3 (by assumption) | exact Mine.nt3 (by assumption) | exact Mine.nu3 (by assumption) | exact Mine.nr4 (by assumption) | exact Mine.ns4 (by assumption) | exact Mine.nt4 (by assumption) | exact Mine.nu4 (by assumption) | exact Mine.nr5 (by assumption) | exact Mine.ns5 (by assumption) | exact Mine.nt5 (by assumption) | exact Mine.nu5 (by assumption) | exact Mine.nr6 (by assumption) | exact Mine.ns6 (by assumption) | exact Mine.nt6 (by assumption) | exact Mine.nu6 (by assumption) | exact Mine.nr7 (by assumption) | exact Mine.ns7 (by assumption) | exact Mine.nt7 (by assumption) | exact Mine.nu7 (by assumption) | exact Mine.nr8 (by assumption) | exact Mine.ns8 (by assumption) | exact Mine.nt8 (by assumption) | exact Mine.nu8 (by assumption) | exact Mine.nr9 (by assumption) | exact Mine.ns9 (by assumption) | exact Mine.nr10 (by assumption) | exact Mine.ns10 (by assumption) | exact Mine.nr11 (by assumption) | exact Mine.ns11 (by assumption) | exact Mine.nr12 (by assumption) | exact Mine.ns12 (by assumption) | exact Mine.nw1 (by assumption) | exact Mine.nw2 (by assumption) | exact Mine.nw3 (by assumption) | exact Mine.nw4 (by assumption) | exact Mine.nw5 (by assumption) | exact Mine.nw6 (by assumption) | exact Mine.nk1 (by assumption) | exact Mine.nk2 (by assumption) | exact Mine.nk3 (by assumption) | exact Mine.nk4 (by assumption)) | fail "no")
  k_with "my om" => (first | ((with_reducible show @Eq Int _ _); with_reducible first | assumption | exact Eq.symm (by assumption) | exact Int.toNat_of_nonneg (by assumption)) | fail "no")
  k_with "my om" => (first | ((with_reducible show And (@LE.le Int _ _ _) _); with_reducible first | assumption | (refine Mine.i2 (by assumption) ?_; omega) | (refine Mine.i2' (by assumption) ?_; omega)) | fail "no")
  k_with "my om" => (first | ((with_reducible show @LT.lt Int _ _ _); first | (with_reducible first | assumption | exact Mine.i1' (by assumption) | exact Int.ofNat_lt.mpr (by assumption) | exact And.left (by assumption) | exact And.right (by assumption) | exact Int.lt_of_not_le (by assumption)) | decide +kernel) | fail "no")
  k_with "my om" => (first | ((with_reducible show @LE.le Int _ _ _); first | (with_reducible first | assumption | exact Int.natCast_nonneg _ | exact Int.le_refl _ | exact Mine.i1 _ | exact Int.ofNat_le.mpr (by assumption) | exact Mine.i6 (by assumption) (by assumption) | (refine Mine.i7 ?_; omega) | exact And.left (by assumption) | exact And.right (by assumption) | exact Int.le_of_not_lt (by assumption) | exact Int.le_of_lt (by assumption)) | decide +kernel) | fail "no")
  k_with "my om" => (first | ((with_reducible show @Eq Nat _ _); with_reducible first | assumption | exact Eq.symm (by assumption) | exact Mine.i5 (by assumption) | exact Mine.i4 _ | exact Mine.i3 _ | exact Eq.symm (Mine.i4 _) | exact Nat.add_sub_cancel_left .. | exact Nat.min_eq_left (by assumption) | exact Eq.trans (by assumption) (by assumption) | exact Eq.trans (Eq.symm (by assumption)) (by assumption) | exact Eq.trans (by assumption) (Eq.symm (by assumption))) | fail "no")
  k_with "my om" => (first | ((with_reducible show @LT.lt Nat _ _ _); with_reducible first | assumption | exact Mine.np (by assumption) | exact Mine.nq (by assumption) rfl | exact Mine.nv (by assumption) rfl | exact Mine.ia (by assumption) (by assumption) | exact Mine.ib (by assumption) (by assumption) | exact Nat.lt_of_lt_of_le (by assumption) (by assumption) | exact Nat.succ_lt_succ (by assumption) | exact And.left (by assumption) | exact And.right (by assumption) | exact Nat.lt_of_not_le (by assumption) | exact Mine.ia (Mine.ia (by assumption) (by assumption)) (by assumption) | exact Mine.ib (Mine.ia (by assumption) (by assumption)) (by assumption) | exact Mine.ia (Mine.ib (by assumption) (by assumption)) (by assumption) | exact Mine.ib (Mine.ib (by assumption) (by assumption)) (by assumption)) | fail "no")
  k_with "my om" => (first | ((with_reducible show @LE.le Nat _ _ _); first | (with_reducible first | assumption | exact Mine.nc (by assumption) rfl | exact Nat.le_refl _ | exact Mine.nl (by assumption) (by assumption) | exact Mine.nm (by assumption) (by assumption) | exact Mine.nn (by assumption) (by assumption) | exact Mine.nn (by assumption) (Mine.nc (by assumption) rfl) | exact Mine.nl (by assumption) (Mine.nc (by assumption) rfl) | exact Mine.nm (by assumption) (Mine.nc (by assumption) rfl) | exact Mine.nl (by assumption) (Mine.nl (by assumption) (Mine.nc (by assumption) rfl)) | exact Mine.nl (by assumption) (Mine.nn (by assumption) (Mine.nc (by assumption) rfl)) | exact Mine.nm (by assumption) (Mine.nn (by assumption) (Mine.nc (by assumption) rfl)) | exact Mine.nl (by assumption) (Mine.nm (by assumption) (Mine.nc (by assumption) rfl)) | exact Mine.nm (by assumption) (Mine.nl (by assumption) (Mine.nc (by assumption) rfl)) | exact Mine.nm (by assumption) (Mine.nm (by assumption) (Mine.nc (by assumption) rfl)) | exact Nat.le_add_right _ _ | exact Nat.succ_le_succ (by assumption) | exact Nat.le_of_eq (by assumption) | exact Nat.le_of_eq (Eq.symm (by assumption)) | exact Nat.le_succ_of_le (by assumption) | exact Nat.le_of_not_lt (by assumption) | exact Int.toNat_le_toNat (by assumption) | exact Mine.ig (by assumption) (by assumption) rfl | exact Mine.ih (by assumption) (by assumption) rfl | exact And.left (by assumption) | exact And.right (by assumption) | (refine Mine.ie ?_ (by assumption); omega) | (refine Mine.ie' ?_ (by assumption); omega) | (refine Mine.id1 ?_; omega) | (refine Mine.ij ?_; omega) | (refine Mine.ic (by assumption) rfl ?_; omega)) | exact Mine.nz rfl) | fail "no")
  k_with "my own" => (first | assumption | exact Mine.PAt.of (by assumption) (PySem.SameStack.mark _ _) | exact Mine.PAt.of (by assumption) (PySem.SameStack.unmark _ _) | fail "no")
  k_fill
  k_with "my inst" => (first | exact InstAt.up (by assumption) (Fr.keep (by k_asm)) | fail "no")
  k_with "my inst" => (first | exact InstAt.mix (by assumption) (by k_asm) (by k_asm) (by k_mem) | fail "no")
  exact ⟨rfl, rfl⟩
theorem StAt.inst {w : World} {h : Heap} {x dx d : Addr} {T : T6} {kv : Value} {odd : Bool} {p : Int} {pt : Tok} {c : Int} {ct : Tok} (H : StAt w h x dx d T kv odd p pt c ct) : PySem.W.InstAt h x (instObj 138 dx) 138 (some (dictOf (stEs w T d kv odd p pt c ct) 6)) := ⟨H.at_, rfl, rfl, H.dict⟩
theorem held_cc {w : World} {base : Heap} (G : Gr w base) (x dx d : Addr) (T6' : T6) (kv : Value) (odd : Bool) (pp c : Int) (pt ct : Tok) (y : Sg) (u1 u2 : Tok) :
   CC w base 128 [.ref x, .str y.gcb u1, .bool y.ep, .str (Str.ofString "None") u2] 1 (fun h => StAt w h x dx d T6' kv odd pp pt c ct)
    (fun h v h' => Kp h h' ∧ v = .bool (heldF ⟨none, odd, pp⟩ y)) := by
  have G' := G
  obtain ⟨X, p, loose, mean, mg, mb, T⟩ := G
  intro dp un fr gd s Q E hdp hun hb hp hret
  have I := hp.inst
  w_on
  k_dflt (refine enter (binds := [(Str.ofString "self", .ref x), (Str.ofString "kind", .str y.gcb u1), (Str.ofString "is_picture", .bool y.ep), (Str.ofString "word", .str (Str.ofString "None") u2)]) [] X T hb (fun _ h => nomatch h) (by k_is) (by k_is) (by show dp < recursionLimit; omega) (BindsTo.of_eq rfl) (locs rfl) (fun E9 Q9 g L h₁ g9s d9r t9k o9s hQ9 hE9 hP9 hA9 hB hG X' T' F' N' hL => ?_))
  try dsimp only
  have hk : Kp s.heap g := fun b o e => hG _ _ e (fun h => nomatch h)
  have I' := InstAt.up I hk
  k_unmd
  try k_fold
  k_steps
  all_goals (try ((with_reducible refine hQ9 _ _ _ ?_); (try dsimp only)))
  all_goals (try dsimp only)
  all_goals (refine pure_end (s := s) (R := fun v => v = .bool (heldF ⟨none, odd, pp⟩ y)) hret hG (by assumption) ?_)
  all_goals (clear hret; simp_all [heldF, S, beq_false_of_ne])
theorem use_take {w : World} {base g : Heap} {s : Shared} {L : Addr} {m : Str → Option Value} {news : List (Addr × Obj)} {Q E : Value → Shared → Prop} {dp un : Nat} {fr : Option (List Env)} {gd : Option (List Code)} {x dx d : Addr} {T : T6} {kv : Value} {odd : Bool} {pp c : Int} {pt ct : Tok} {y : Sg} {u1 u2 : Tok} (G : Gr w base) (hB : Kp base g)
    (F : Fr g L s.heap m) (N : News g L s.heap news) (hm : (dx, dictOf (stEs w T d kv odd pp pt c ct) 6) ∈ news) (hx : g.get? x = some (instObj 138 dx)) (hd : dp + 1 < recursionLimit) (hu : un + 8 * 1 < cLine)
    (h : ∀ u pt' ct' h' tk', Fr g L h' m → News g L h' [(dx, dictOf (stEs w T d (.str y.gcb u) (takeF ⟨none, odd, pp⟩ y).odd (takeF ⟨none, odd, pp⟩ y).pic pt' 0 ct') 6)] → Q .none { s with heap := h', toks := tk' }) :
    wpAny (model pw w) (Ar dp un fr gd) (call (.ref 135) [.ref x, .str y.gcb u1, .bool y.ep, .str (Str.ofString "None") u2]) Q E s := by
  have z := N _ hm
  refine take_cc G x dx d T kv odd pp c pt ct y u1 u2 (base_none hB z.2.2) _ _ _ _ _ _ _ hd hu (hB.trans F.keep) ⟨F.keep _ _ hx, z.1⟩ ?_
  rintro v h' tk' ⟨rfl, u, pt', ct', H, kp⟩
  refine h u pt' ct' h' tk' (Fr.butOne F z.2.1 z.2.2 kp) fun p hp => ?_
  rw [List.mem_singleton.mp hp]
  exact ⟨H.dict, z.2⟩
noncomputable def KV (kv : Value) (k : Option Str) : Prop := (kv = .none ∧ k = none) ∨ ∃ a u, kv = .str a u ∧ k = some a
theorem takeF_eq (k : Option Str) (odd : Bool) (pp : Int) (y : Sg) : takeF ⟨k, odd, pp⟩ y = takeF ⟨none, odd, pp⟩ y := rfl
theorem heldF_eq (k : Option Str) (odd : Bool) (pp : Int) (y : Sg) : heldF ⟨k, odd, pp⟩ y = heldF ⟨none, odd, pp⟩ y := rfl
noncomputable def PutS (w : World) (h h' : Heap) (x dx d : Addr) (T : T6) (st : St) : Prop := ∃ u pt ct k, st.kind = some k ∧ StAt w h' x dx d T (.str k u) st.odd st.pic pt 0 ct ∧ ∀ b o, b ≠ dx → h.get? b = some o → h'.get? b = some o
theorem sput_fin {w : World} {s : Shared} {Q : Value → Shared → Prop} {g h' : Heap} {L x dx d : Addr} {T : T6} {u pt ct : Tok} {m : Str → Option Value} {tk : Nat} {od : Obj} {st : St} {y : Sg} {v : Value} {odd : Bool} {pp : Int}
    (hret : ∀ (v : Value) (h' : Heap) (tk' : Nat), v = .bool (toldF st y) ∧ PutS w s.heap h' x dx d T (takeF st y) → Q v { s with heap := h', toks := tk' })
    (hG : ∀ b o, s.heap.get? b = some o → ¬ b ∈ List.map (fun x => x.fst) [(dx, od)] → g.get? b = some o) (hxg : g.get? x = some (instObj 138 dx)) (F : Fr g L h' m) (N : News g L h' [(dx, dictOf (stEs w T d (.str y.gcb u) (takeF ⟨none, odd, pp⟩ y).odd (takeF ⟨none, odd, pp⟩ y).pic pt 0 ct) 6)])
    (e : takeF ⟨none, odd, pp⟩ y = takeF st y) (hv : v = .bool (toldF st y)) : Q v { s with heap := h', toks := tk } := by
  rw [e] at N
  exact hret _ _ _ ⟨hv, u, pt, ct, y.gcb, rfl, ⟨F.keep _ _ hxg, (N _ (.head _)).1⟩, fun b o hb e => F.keep b o (hG b o e (by simpa using hb))⟩
theorem sput_cc {w : World} {base : Heap} (G : Gr w base) (x dx d : Addr) (T6' : T6) (kv : Value) (st : St) (c : Int) (pt ct : Tok) (y : Sg) (t : Tok) (D : DS) (ms : Str → Option MS) (sem : Str → Int → DV) (n : Nat) (hnb : base.get? dx = none) (ok : SgOk sem y) (hkv : KV kv st.kind) (hoff : ∀ b, Sup D ms d b → b ≠ dx) :
   CC w base 121 [.ref x, .int y.c t] 6 (fun h => StAt w h x dx d T6' kv st.odd st.pic pt c ct ∧ DatM w h d D ms sem n)
    (fun h v h' => v = .bool (toldF st y) ∧ PutS w h h' x dx d T6' (takeF st y)) := by
  have G' := G
  obtain ⟨X, p, loose, mean, mg, mb, T⟩ := G
  obtain ⟨k, odd, pp⟩ := st
  intro dp un fr gd s Q E hdp hun hb hp hret
  obtain ⟨⟨hx, hdx⟩, hD⟩ := hp
  dsimp only at hkv hx hdx
  w_on
  k_dflt (refine enter (binds := [(Str.ofString "self", .ref x), (Str.ofString "code", .int y.c t)]) [(dx, dictOf (stEs w T6' d kv odd pp pt c ct) 6)] X T hb (fun q hq => by rw [List.mem_singleton.mp hq]; exact ⟨hdx, hnb⟩) (by k_is) (by k_is) (by show dp < recursionLimit; omega) (BindsTo.of_eq rfl) (locs rfl) (fun E9 Q9 g L h₁ g9s d9r t9k o9s hQ9 hE9 hP9 hA9 hB hG X' T' F' N' hL => ?_))
  try dsimp only
  have hxg : g.get? x = some (instObj 138 dx) := hG _ _ hx (by
    intro hm
    have e : x = dx := by simpa using hm
    rw [e, hdx] at hx
    cases hx)
  have P : DatM w g d D ms sem n := hD.agree fun b o hb e => hG b o e (by simpa using hoff b hb)
  have I' := P.inst
  k_unmd
  try k_fold
  k_with "call ref" => ((with_reducible show wpAny _ _ (PySem.call (Value.ref 85) _ _) _ _ _); (refine' use_pure (ckind_cc G' d D ms sem n y _ ok) hB ?kF ?kN ?kp ?kd ?ku ?_); (case kF => k_asm); (case kN => k_asm); (case kp => exact P.keep (Fr.keep (by k_asm))); (case kd => k_dflt (exact lim1 hdp rfl)); (case ku => k_dflt (exact lim3 hun rfl)); intro v9 h9 tk9 hR9 hk9 F9 N9; (obtain ⟨t9, e9⟩ := hR9); subst e9; k_sweep)
  k_with "call ref" => ((with_reducible show wpAny _ _ (PySem.call (Value.ref 281) [_, Value.str (Str.ofString "ep") _, _] _) _ _ _); (refine' use_pure (get_bool G' d D ms sem n (S "ep") _ y.c _ y.ep (by decide +kernel) (by decide +kernel) ok.lo ok.is_.ep) hB ?kF ?kN ?kp ?kd ?ku ?_); (case kF => k_asm); (case kN => k_asm); (case kp => exact P.keep (Fr.keep (by k_asm))); (case kd => k_dflt (exact lim1 hdp rfl)); (case ku => k_dflt (exact lim3 hun rfl)); intro v9 h9 tk9 e9 hk9 F9 N9; subst e9; k_sweep)
  k_with "call ref" => ((with_reducible show wpAny _ _ (PySem.call (Value.ref 281) [_, Value.str (Str.ofString "incb") _, _] _) _ _ _); (refine' use_pure (get_str G' d D ms sem n (S "incb") _ y.c _ (Str.ofString "None") (by decide +kernel) (by decide +kernel) ok.lo ok.is_.incb) hB ?kF ?kN ?kp ?kd ?ku ?_); (case kF => k_asm); (case kN => k_asm); (case kp => exact P.keep (Fr.keep (by k_asm))); (case kd => k_dflt (exact lim1 hdp rfl)); (case ku => k_dflt (exact lim3 hun rfl)); intro v9 h9 tk9 hR9 hk9 F9 N9; (obtain ⟨t9, e9⟩ := hR9); subst e9; k_sweep)
  k_with "call ref" => ((with_reducible show wpAny _ _ (PySem.call (Value.ref 135) _ _) _ _ _); (refine' use_take G' hB ?kF ?kN ?km hxg ?kd ?ku ?_); (case kF => k_asm); (case kN => k_asm); (case km => k_mem); (case kd => k_dflt (exact lim1 hdp rfl)); (case ku => k_dflt (exact lim3 hun rfl)); intro u9 pt9 ct9 h9 tk9 F9 N9; k_sweep)
  k_with "call ref" => ((with_reducible show wpAny _ _ (PySem.call (Value.ref 128) _ _) _ _ _); (refine' use_pure (held_cc G' x dx d T6' _ odd pp c pt ct y _ _) hB ?kF ?kN ?kp ?kd ?ku ?_); (case kF => k_asm); (case kN => k_asm); (case kp => exact ⟨Fr.keep (by k_asm) _ _ hxg, News.get (by k_asm) (by k_mem)⟩); (case kd => k_dflt (exact lim1 hdp rfl)); (case ku => k_dflt (exact lim3 hun rfl)); intro v9 h9 tk9 e9 hk9 F9 N9; subst e9; k_sweep)
  k_with "exec If" => ((rename KV _ _ => hkv9); refine Hold.out ?_)
  k_steps
  all_goals (try ((with_reducible refine hQ9 _ _ _ ?_); (try dsimp only)))
  rcases hkv9 with ⟨rfl, rfl⟩ | ⟨a, u, rfl, rfl⟩
  · show wpAny _ _ _ _ _ _
    k_steps
    all_goals (try ((with_reducible refine hQ9 _ _ _ ?_); (try dsimp only)))
    all_goals (try dsimp only)
    all_goals (refine sput_fin (T := T6') (y := y) (odd := odd) (pp := pp) (st := ⟨none, odd, pp⟩) hret hG hxg (by assumption) (by assumption) rfl ?_)
    all_goals rfl
  · show wpAny _ _ _ _ _ _
    cases hpr : pairF a y.gcb with
    | none =>
      k_with "call ref" => ((with_reducible show wpAny _ _ (PySem.call (Value.ref 99) _ _) _ _ _); (refine' use_pure (cpair_cc G' a y.gcb _ _) hB ?kF ?kN ?kp ?kd ?ku ?_); (case kF => k_asm); (case kN => k_asm); (case kp => trivial); (case kd => k_dflt (exact lim1 hdp rfl)); (case ku => k_dflt (exact lim3 hun rfl)); intro v9 h9 tk9 e9 hk9 F9 N9; (rw [hpr] at e9); subst e9; (try dsimp only [optV]); k_sweep)
      k_steps
      all_goals (try ((with_reducible refine hQ9 _ _ _ ?_); (try dsimp only)))
      all_goals (try dsimp only)
      all_goals (refine sput_fin (T := T6') (y := y) (odd := odd) (pp := pp) (st := ⟨some a, odd, pp⟩) hret hG hxg (by assumption) (by assumption) rfl ?_)
      all_goals (simp [toldF, hpr, heldF_eq])
    | some b =>
      k_with "call ref" => ((with_reducible show wpAny _ _ (PySem.call (Value.ref 99) _ _) _ _ _); (refine' use_pure (cpair_cc G' a y.gcb _ _) hB ?kF ?kN ?kp ?kd ?ku ?_); (case kF => k_asm); (case kN => k_asm); (case kp => trivial); (case kd => k_dflt (exact lim1 hdp rfl)); (case ku => k_dflt (exact lim3 hun rfl)); intro v9 h9 tk9 e9 hk9 F9 N9; (rw [hpr] at e9); subst e9; (try dsimp only [optV]); k_sweep)
      k_steps
      all_goals (try ((with_reducible refine hQ9 _ _ _ ?_); (try dsimp only)))
      all_goals (try dsimp only)
      all_goals (refine sput_fin (T := T6') (y := y) (odd := odd) (pp := pp) (st := ⟨some a, odd, pp⟩) hret hG hxg (by assumption) (by assumption) rfl ?_)
      all_goals (simp [toldF, hpr, heldF_eq])
end Mine

end

section
open PySem PySem.W PyProof.Rows PySem.Calls PySem.Spec PyProof.Rows.LCg PyProof.V
namespace Mine
set_option maxRecDepth 100000
noncomputable def PcTree (prog : Program) (w : World) (A : Around) (c : Option PySem.Expr) (elt : PySem.Expr) (env : Env) (yes : Value → Shared → Prop) (no : Shared → Prop) (E : Value → Shared → Prop) (s : Shared) : Prop :=
  match c with
  | none => wpAny (model prog w) A (eval elt env) yes E s
  | some c => wpAny (model prog w) A (isTrue c env (eval c env)) (fun ok s' => if ok = true then wpAny (model prog w) A (eval elt env) yes E s' else no s') E s
theorem PcTree.mono {prog : Program} {w : World} {A : Around} {c : Option PySem.Expr} {elt : PySem.Expr} {env : Env} {yes yes' : Value → Shared → Prop} {no no' : Shared → Prop} {E : Value → Shared → Prop} {s : Shared} (h : PcTree prog w A c elt env yes no E s) (hy : ∀ v s', yes v s' → yes' v s') (hn : ∀ s', no s' → no' s') :
    PcTree prog w A c elt env yes' no' E s := by
  cases c with
  | none => exact wpAny_mono h hy fun _ _ e => e
  | some c =>
    refine wpAny_mono h (fun ok s' h' => ?_) fun _ _ e => e
    cases ok with
    | true => rw [if_pos rfl] at h' ⊢; exact wpAny_mono h' hy fun _ _ e => e
    | false => rw [if_neg (by decide)] at h' ⊢; exact hn _ h'
noncomputable def PcGo (prog : Program) (w : World) (A : Around) (elts : List PySem.Expr) (kk : Nat) (tp : Pos) (c : Option PySem.Expr) (elt : PySem.Expr) (env : Env) (it acc : Value) (stop more : Shared → Prop) (Er : Value → Shared → Prop) : Shared → Prop :=
  wpAny (model prog w) A (pyNext it) (fun r z => match r with
    | none => stop z
    | some v => wpAny (model prog w) A (letOwnedTupleGo (.Tuple elts kk tp) it v) (fun _ => wpAny (model prog w) A (assign (.Tuple elts kk tp) env v) (fun _ => PcTree prog w A c elt env (fun x => wpAny (model prog w) A (call (.builtin "list.append") [acc, x]) (fun _ => more) Er) more Er) Er) Er z) Er
theorem pc_loop {prog : Program} {w : World} {A : Around} {s : Shared} {elt iter : PySem.Expr} {elts : List PySem.Expr} {kk : Nat} {tp : Pos} {c : Option PySem.Expr} {scope : Scope} {pos : Pos} {it acc : Value} {env : Env} {R : Result → Shared → Prop} (I : Nat → Shared → Prop)
    (turn : ∀ n s, I n s → PcGo prog w A elts kk tp c elt env it acc (R (.ok .next)) (fun s' => ∃ m, m < n ∧ I m s') (notedBy (model prog w) A env fun e s' => R (.error e) s') s) (n : Nat) (h : I n s) :
    codeAny (model prog w) A (.compLoop (.ListComp elt [⟨.Tuple elts kk tp, iter, c.toList, 0⟩] scope pos) 0 it acc env) R s := by
  cases c with
  | none => exact LCp.codeAny_compLoop_pair I turn n h
  | some c => exact kct_loop I turn n h
noncomputable def PcEnd (h₀ : Heap) (L : Addr) (m : Str → Option Value) (s : Shared) (own : List (Addr × Obj)) (C : Addr) (oC : Obj) (D : Addr) (oD : Obj) (ws : List Addr) (keep : List (Addr × Obj)) (J : List (Addr × Obj) → Prop) (s' : Shared) : Prop :=
  ∃ h' tk news', s' = { s with heap := h', toks := tk } ∧ Fr h₀ L h' m ∧ News h₀ L h' (own ++ (C, oC) :: (D, oD) :: news') ∧ (∀ p ∈ news', p.1 ∉ ws ∧ p.1 ≠ C ∧ p.1 ≠ D) ∧ (∀ p ∈ keep, p ∈ news') ∧ J news'
noncomputable def PcTurn (prog : Program) (w : World) (A : Around) (h₀ : Heap) (L : Addr) (m : Str → Option Value) (env : Env) (c : Option PySem.Expr) (elt : PySem.Expr) (a b : Str) (scope : Scope) (cl : List (Str × Addr)) (s : Shared) (ws : List Addr) (keep : List (Addr × Obj)) (n : Nat) (V : Nat → Value → Value → Prop) (J : Nat → List Value → List (Addr × Obj) → Prop) : Prop :=
  ∀ i ys news₁ v₁ v₂ own C oC D m₂ h tk (E' : Value → Shared → Prop), i < n → V i v₁ v₂ → J i ys news₁ → List.map (fun p : Addr × Obj => p.1) own = ws → NsObj oC m₂ → m₂ a = some v₁ → m₂ b = some v₂ → Fr h₀ L h m → News h₀ L h (own ++ (C, oC) :: (D, lst ys) :: news₁) → (∀ p ∈ news₁, p.1 ∉ ws ∧ p.1 ≠ C ∧ p.1 ≠ D) → C ∉ ws → D ∉ ws → C ≠ D → (∀ p ∈ keep, p ∈ news₁) →
   PcTree prog w A c elt (compEnvC scope cl C env) (fun y s' => PcEnd h₀ L m { s with heap := h, toks := tk } own C oC D (lst ys) ws keep (J (i + 1) (ys ++ [y])) s') (fun s' => PcEnd h₀ L m { s with heap := h, toks := tk } own C oC D (lst ys) ws keep (J (i + 1) ys) s') E' { s with heap := h, toks := tk }
-- the objects at a list of addresses
theorem objs_at {h : Heap} : ∀ ws : List Addr, (∀ b ∈ ws, ∃ o, h.get? b = some o) → ∃ own : List (Addr × Obj), own.map (·.1) = ws ∧ ∀ p ∈ own, h.get? p.1 = some p.2
  | [], _ => ⟨[], rfl, fun _ q => nomatch q⟩
  | b :: r, k =>
    have ⟨o, e⟩ := k b (.head _)
    have ⟨l, e1, e2⟩ := objs_at r fun c q => k c (.tail _ q)
    ⟨(b, o) :: l, congrArg (b :: ·) e1, fun p q => (List.mem_cons.mp q).elim (fun z => z ▸ e) (e2 p)⟩
theorem nw_cons {g h : Heap} {L : Addr} {p : Addr × Obj} {l : List (Addr × Obj)} (e : h.get? p.1 = some p.2) (a : p.1 ≠ L ∧ g.get? p.1 = none) (N : News g L h l) : News g L h (p :: l) := fun q hq => (List.mem_cons.mp hq).elim (fun z => z ▸ ⟨e, a⟩) (N q)
-- what stays as it is: the places of the list D and of the frame C, of the iterator's objects ws, of what it reads (fp)
structure PcFix (h₀ : Heap) (L : Addr) (ws fp : List Addr) (keep : List (Addr × Obj)) (C D : Addr) : Prop where
  apart : C ≠ D
  cNew : C ≠ L ∧ h₀.get? C = none
  dNew : D ≠ L ∧ h₀.get? D = none
  cOut : C ∉ ws ∧ C ∉ fp
  dOut : D ∉ ws ∧ D ∉ fp
  wNew : ∀ b ∈ ws, b ≠ L ∧ h₀.get? b = none
  src : ∀ b ∈ fp, b ∈ ws ∨ ∃ o, h₀.get? b = some o ∨ (b, o) ∈ keep
theorem new_is {h₀ h : Heap} {L z : Addr} {m : Str → Option Value} (F : Fr h₀ L h m) (hz : h.objs.size ≤ z) : z ≠ L ∧ h₀.get? z = none := ⟨Nat.ne_of_gt (Nat.lt_of_lt_of_le F.ns.lt hz), ktu_new F hz⟩
theorem PcFix.mk' {h₀ h : Heap} {L C D : Addr} {m : Str → Option Value} {ws fp : List Addr} {keep news : List (Addr × Obj)} (F : Fr h₀ L h m) (N : News h₀ L h news) (hk : ∀ p ∈ keep, p ∈ news)
    (hw : ∀ b ∈ ws, (b ≠ L ∧ h₀.get? b = none) ∧ (@LT.lt Nat _ b h.objs.size)) (hs : ∀ b ∈ fp, b ∈ ws ∨ ∃ o, h₀.get? b = some o ∨ (b, o) ∈ keep) (hC : h.objs.size ≤ C) (hD : h.objs.size ≤ D) (ne : C ≠ D) : PcFix h₀ L ws fp keep C D := by
  have wl : ∀ z, h.objs.size ≤ z → z ∉ ws := fun z hz q => Nat.lt_irrefl _ (Nat.lt_of_lt_of_le (hw z q).2 hz)
  have fl : ∀ z, h.objs.size ≤ z → z ∉ fp := fun z hz q => by
    rcases hs z q with q | ⟨o, q | q⟩
    · exact wl z hz q
    · exact Nat.lt_irrefl _ (Nat.lt_of_lt_of_le (Heap.lt_size (F.keep z o q)) hz)
    · exact Nat.lt_irrefl _ (Nat.lt_of_lt_of_le (Heap.lt_size (N _ (hk _ q)).1) hz)
  exact ⟨ne, new_is F hC, new_is F hD, ⟨wl C hC, fl C hC⟩, ⟨wl D hD, fl D hD⟩, fun b q => (hw b q).1, hs⟩
-- how things stand ahead of turn i
structure PcNow (h₀ : Heap) (L : Addr) (m : Str → Option Value) (ws : List Addr) (keep : List (Addr × Obj)) (C D : Addr) (St : Nat → Heap → Prop) (J : Nat → List Value → List (Addr × Obj) → Prop) (i : Nat) (h : Heap) (ys : List Value) (news : List (Addr × Obj)) : Prop where
  st : St i h
  fr : Fr h₀ L h m
  comp : ∃ mC, h.Ns C mC
  acc : h.get? D = some (lst ys)
  led : News h₀ L h news
  away : ∀ p ∈ news, p.1 ∉ ws ∧ p.1 ≠ C ∧ p.1 ≠ D
  kept : ∀ p ∈ keep, p ∈ news
  inv : J i ys news
  short : ys.length ≤ i
section
variable {prog : Program} {w : World} {A : Around} {E : Value → Shared → Prop} {s : Shared} {h₀ : Heap} {L : Addr} {m : Str → Option Value} {env : Env}
variable {ws fp wr : List Addr} {keep : List (Addr × Obj)} {C D : Addr} {St : Nat → Heap → Prop} {J : Nat → List Value → List (Addr × Obj) → Prop}
-- behind a turn's own work
theorem PcNow.next {i : Nat} {h h' : Heap} {ys : List Value} {own news news' : List (Addr × Obj)} {oC : Obj} {m₂ : Str → Option Value} (X : PcFix h₀ L ws fp keep C D) (hfr : ∀ i h h', St i h → (∀ b ∈ fp, ∀ o, h.get? b = some o → h'.get? b = some o) → St i h')
    (st : St i h) (ho : own.map (·.1) = ws) (hC : NsObj oC m₂) (F : Fr h₀ L h m) (N : News h₀ L h (own ++ news)) (kp : ∀ p ∈ keep, p ∈ news) (F' : Fr h₀ L h' m) (N' : News h₀ L h' (own ++ (C, oC) :: (D, lst ys) :: news')) (off : ∀ p ∈ news', p.1 ∉ ws ∧ p.1 ≠ C ∧ p.1 ≠ D) (kp' : ∀ p ∈ keep, p ∈ news') (j : J i ys news') (hl : ys.length ≤ i) :
    PcNow h₀ L m ws keep C D St J i h' ys news' := by
  have rest : ∀ p ∈ (C, oC) :: (D, lst ys) :: news', h'.get? p.1 = some p.2 ∧ p.1 ≠ L ∧ h₀.get? p.1 = none := fun p hp => N' p (List.mem_append_right _ hp)
  have both : ∀ b ∈ fp, ∃ o, h.get? b = some o ∧ h'.get? b = some o := fun b hb => by
    rcases X.src b hb with q | ⟨o, q | q⟩
    · rw [← ho] at q
      obtain ⟨p, hp, rfl⟩ := List.mem_map.mp q
      exact ⟨p.2, (N p (List.mem_append_left _ hp)).1, (N' p (List.mem_append_left _ hp)).1⟩
    · exact ⟨o, F.keep b o q, F'.keep b o q⟩
    · exact ⟨o, (N _ (List.mem_append_right _ (kp _ q))).1, (rest _ (.tail _ (.tail _ (kp' _ q)))).1⟩
  refine ⟨hfr _ _ _ st fun b hb o e => ?_, F', ⟨_, hC.ns (rest _ (.head _)).1⟩, (rest _ (.tail _ (.head _))).1, fun p hp => rest p (.tail _ (.tail _ hp)), off, kp', j, hl⟩
  obtain ⟨o', e1, e2⟩ := both b hb
  rwa [← e, e1]
-- the turn's value goes to the end of the list
theorem PcNow.put {h h' : Heap} {ys : List Value} {own news' : List (Addr × Obj)} {oC oD : Obj} (X : PcFix h₀ L ws fp keep C D) (ho : own.map (·.1) = ws) (N : News h₀ L h (own ++ (C, oC) :: (D, lst ys) :: news')) (off : ∀ p ∈ news', p.1 ∉ ws ∧ p.1 ≠ C ∧ p.1 ≠ D) (hs : Heap.SameBut D h h') (hD : h'.get? D = some oD) :
    News h₀ L h' (own ++ (C, oC) :: (D, oD) :: news') := by
  have mv : ∀ p, p ∈ own ++ (C, oC) :: (D, lst ys) :: news' → p.1 ≠ D → h'.get? p.1 = some p.2 ∧ p.1 ≠ L ∧ h₀.get? p.1 = none := fun p hp q => ⟨hs.extBut _ _ q (N p hp).1, (N p hp).2⟩
  refine nw_app (fun p hp => mv p (List.mem_append_left _ hp) fun q => X.dOut.1 ?_) (fun p hp => ?_)
  · rw [← ho, ← q]; exact List.mem_map_of_mem hp
  · rcases hp with _ | ⟨_, _ | ⟨_, hp⟩⟩
    · exact mv _ (List.mem_append_right _ (.head _)) X.apart
    · exact ⟨hD, X.dNew⟩
    · exact mv _ (List.mem_append_right _ (.tail _ (.tail _ hp))) (off p hp).2.2
theorem pc_turn {elt : PySem.Expr} {a b : Str} {pa pb tp : Pos} {kk : Nat} {c : Option PySem.Expr} {scope : Scope} {cl : List (Str × Addr)} {s₂ : Shared} {I : Addr} {n i tk : Nat} {P Md : Nat → Value → Heap → Prop} {h : Heap} {ys : List Value} {news : List (Addr × Obj)}
    {V : Nat → Value → Value → Prop} {stop more : Shared → Prop} {Er : Value → Shared → Prop}
    (W : KTurns prog w A (.Tuple [.Name a pa, .Name b pb] kk tp) I fp wr n P Md St) (hh : A.handled = none) (hsz : n ≤ sizeLine) (hP : ∀ i v h, P i v h → ∃ T v₁ v₂, v = .ref T ∧ h.IsTuple T #[v₁, v₂] ∧ V i v₁ v₂)
    (hobj : ∀ i h, St i h → ∀ b ∈ ws, ∃ o, h.get? b = some o) (hwr : ∀ b ∈ wr, b ∈ ws) (X : PcFix h₀ L ws fp keep C D)
    (hkind : scope.kind = .function) (hxa : scope.names.lookup a = some .local) (hxb : scope.names.lookup b = some .local) (hab : ¬ a = b)
    (turn : PcTurn prog w A h₀ L m env c elt a b scope cl s₂ ws keep n V J) (hi : i < n) (Z : PcNow h₀ L m ws keep C D St J i h ys news)
    (next : ∀ h' tk' ys' news', PcNow h₀ L m ws keep C D St J (i + 1) h' ys' news' → more { s₂ with heap := h', toks := tk' }) :
    PcGo prog w A [.Name a pa, .Name b pb] kk tp c elt (compEnvC scope cl C env) (.ref I) (.ref D) stop more Er { s₂ with heap := h, toks := tk } := by
  refine W.item i _ _ _ hi Z.st fun v h1 tk1 md k1 => W.go i v _ _ _ md fun h2 p2 st2 k2 => ?_
  obtain ⟨T, v₁, v₂, rfl, hT, hV⟩ := hP i v h2 p2
  have to2 : ∀ b o, b ∉ ws → h.get? b = some o → h2.get? b = some o := fun b o q e => k2 b o (fun z => q (hwr b z)) (k1 b o (fun z => q (hwr b z)) e)
  obtain ⟨mC, hmC⟩ := Z.comp
  refine kcp_assign (env := compEnvC scope cl C env) hh hT (lookup_relabel_local hxa) (lookup_relabel_local hxb) (by simp [compEnvC, relabel, hkind]) (hmC.at' fun o e => to2 _ o X.cOut.1 e) fun h3 tk3 ns3 k3 => ?_
  have to3 : ∀ b o, b ∉ ws → b ≠ C → h.get? b = some o → h3.get? b = some o := fun b o q q' e => k3 b o q' (to2 b o q e)
  have st3 : St (i + 1) h3 := W.frame _ _ _ st2 fun b hb o e => k3 b o (fun q => X.cOut.2 (by rw [← show b = C from q]; exact hb)) e
  obtain ⟨own, ho, hat⟩ := objs_at ws (hobj _ _ st3)
  obtain ⟨oC, eC, nC⟩ := ns_obj ns3
  have inW : ∀ p ∈ own, p.1 ∈ ws := fun p hp => ho ▸ List.mem_map_of_mem hp
  have F3 : Fr h₀ L h3 m := ⟨Z.fr.ns.at' fun o e => to3 L o (fun q => (X.wNew L q).1 rfl) X.cNew.1.symm e, fun b o e => to3 b o (fun q => by rw [(X.wNew b q).2] at e; cases e) (fun q => by rw [q, X.cNew.2] at e; cases e) (Z.fr.keep b o e), Z.fr.above⟩
  have N3 : News h₀ L h3 (own ++ (C, oC) :: (D, lst ys) :: news) := nw_app (fun p hp => ⟨hat p hp, X.wNew _ (inW p hp)⟩) (nw_cons eC X.cNew (nw_cons (to3 _ _ X.dOut.1 X.apart.symm Z.acc) X.dNew fun p hp => ⟨to3 _ _ (Z.away p hp).1 (Z.away p hp).2.1 (Z.led p hp).1, (Z.led p hp).2⟩))
  have last : ∀ (h' : Heap) (tk' : Nat) (ys' : List Value) (news' : List (Addr × Obj)), Fr h₀ L h' m → News h₀ L h' (own ++ (C, oC) :: (D, lst ys') :: news') → (∀ p ∈ news', p.1 ∉ ws ∧ p.1 ≠ C ∧ p.1 ≠ D) → (∀ p ∈ keep, p ∈ news') → J (i + 1) ys' news' → ys'.length ≤ i + 1 → more { s₂ with heap := h', toks := tk' } :=
    fun h' tk' ys' news' F' N' off' kp' j hl => next h' tk' ys' news' (PcNow.next X W.frame st3 ho nC F3 N3 (fun p hp => .tail _ (.tail _ (Z.kept p hp))) F' N' off' kp' j hl)
  refine PcTree.mono (turn i ys news v₁ v₂ own C oC D _ h3 _ _ hi hV Z.inv ho nC (by simp [hab]) (by simp) F3 N3 Z.away X.cOut.1 X.dOut.1 X.apart Z.kept) ?_ ?_
  · rintro y _ ⟨h4, tk4, news4, rfl, F4, N4, off4, kp4, j4⟩
    refine append_at (N4 (D, lst ys) (List.mem_append_right _ (.tail _ (.head _)))).1 (fun h5 sb e5 => ?_) (by rw [List.size_toArray]; exact Nat.le_trans Z.short (Nat.le_trans (Nat.le_of_lt hi) hsz))
    exact last h5 _ _ news4 (F4.change sb X.dNew.1 X.dNew.2) (PcNow.put X ho N4 off4 sb (e5.trans (congrArg some (lst_snoc ys y)))) off4 kp4 j4 (by rw [List.length_append]; exact Nat.succ_le_succ Z.short)
  · rintro _ ⟨h4, tk4, news4, rfl, F4, N4, off4, kp4, j4⟩
    exact last h4 _ _ news4 F4 N4 off4 kp4 j4 (Nat.le_succ_of_le Z.short)
-- an iterator that hands out pairs
structure PcIt (prog : Program) (w : World) (A : Around) (elts : List PySem.Expr) (kk : Nat) (tp : Pos) (I : Addr) (fp wr ws : List Addr) (n : Nat) (P Md : Nat → Value → Heap → Prop) (St : Nat → Heap → Prop) (V : Nat → Value → Value → Prop) : Prop where
  turns : KTurns prog w A (.Tuple elts kk tp) I fp wr n P Md St
  pair : ∀ i v h, P i v h → ∃ T v₁ v₂, v = .ref T ∧ h.IsTuple T #[v₁, v₂] ∧ V i v₁ v₂
  objs : ∀ i h, St i h → ∀ b ∈ ws, ∃ o, h.get? b = some o
  writes : ∀ b ∈ wr, b ∈ ws
  self : ∀ (s : Shared) (Q : Value → Shared → Prop) (E : Value → Shared → Prop), St 0 s.heap → Q (.ref I) s → wpAny (model prog w) A (pyIter (.ref I)) Q E s
  calm : A.handled = none
  few : n ≤ sizeLine
theorem pc_begin {elt iter : PySem.Expr} {a b : Str} {pa pb tp : Pos} {kk : Nat} {c : Option PySem.Expr} {scope : Scope} {cl : List (Str × Addr)} {pos : Pos} {I : Addr} {n : Nat} {P Md : Nat → Value → Heap → Prop} {news : List (Addr × Obj)} {V : Nat → Value → Value → Prop} {RR : Value → Addr → Result → Shared → Prop}
    (K : PcIt prog w A [.Name a pa, .Name b pb] kk tp I fp wr ws n P Md St V) (hw : ∀ b ∈ ws, (b ≠ L ∧ h₀.get? b = none) ∧ (@LT.lt Nat _ b s.heap.objs.size)) (src : ∀ b ∈ fp, b ∈ ws ∨ ∃ o, h₀.get? b = some o ∨ (b, o) ∈ keep)
    (hcell : ∀ y ∈ scope.names, y.2 ≠ .cell) (hkind : scope.kind = .function) (hxa : scope.names.lookup a = some .local) (hxb : scope.names.lookup b = some .local) (hab : ¬ a = b)
    (st : St 0 s.heap) (F : Fr h₀ L s.heap m) (N : News h₀ L s.heap news) (off : ∀ p ∈ news, p.1 ∉ ws) (kp : ∀ p ∈ keep, p ∈ news) (j : J 0 [] news) (turn : PcTurn prog w A h₀ L m env c elt a b scope cl s ws keep n V J)
    (done : ∀ C D h tk mC ys nw, (C ≠ L ∧ h₀.get? C = none) → C ≠ D → (∀ p ∈ nw, p.1 ≠ C ∧ p.1 ≠ D) → h.Ns C mC → Fr h₀ L h m → News h₀ L h ((D, lst ys) :: nw) → J n ys nw → RR (.ref D) C (.ok .next) { s with heap := h, toks := tk }) :
    wpAny (model prog w) A (newList []) (fun acc => wpAny (model prog w) A (newFunctionEnv scope env.globals cl [] env.qual none .none (some env)) (fun cenv => codeAny (model prog w) A (.compStart (.ListComp elt [⟨.Tuple [.Name a pa, .Name b pb] kk tp, iter, c.toList, 0⟩] scope pos) 0 (.ref I) acc { cenv with scope := relabel scope env }) (RR acc cenv.locals)) E) E s := by
  refine wpAny_newObj_type (wpAny_newFunctionEnv hcell (fun _ q => nomatch q) (fun h1 ns1 sb => ?_) hkind)
  dsimp only at ns1 sb ⊢
  have sz : ∀ o, (s.heap.push o).objs.size = s.heap.objs.size + 1 := fun o => Heap.size_push ..
  have far : ∀ b o o', s.heap.get? b = some o → b ≠ (s.heap.push o').objs.size := fun b o o' e => by rw [sz]; exact Nat.ne_of_lt (Nat.lt_succ_of_lt (Heap.lt_size e))
  have up : ∀ b o, s.heap.get? b = some o → h1.get? b = some o := fun b o e => sb.extBut b o (far b o _ e) (Heap.get?_push_of_some _ (Heap.get?_push_of_some _ e))
  have X : PcFix h₀ L ws fp keep (s.heap.push { cls := .type "list", data := .seq #[] }).objs.size s.heap.objs.size := PcFix.mk' F N kp hw src (by rw [sz]; exact Nat.le_succ _) (Nat.le_refl _) (by rw [sz]; exact Nat.succ_ne_self _)
  have Z : PcNow h₀ L m ws keep (s.heap.push { cls := .type "list", data := .seq #[] }).objs.size s.heap.objs.size St J 0 h1 [] news :=
    ⟨K.turns.frame _ _ _ st fun b _ o e => up b o e, F.keeps up, ⟨_, ns1⟩, sb.extBut _ _ X.apart.symm (Heap.get?_push_of_some _ (Heap.get?_push_size _ rfl)), fun p hp => ⟨up _ _ (N p hp).1, (N p hp).2⟩,
      fun p hp => ⟨off p hp, far _ _ _ (N p hp).1, Nat.ne_of_lt (Heap.lt_size (N p hp).1)⟩, kp, j, Nat.le_refl _⟩
  have loop : ∀ tk, codeAny (model prog w) A (.compLoop (.ListComp elt [⟨.Tuple [.Name a pa, .Name b pb] kk tp, iter, c.toList, 0⟩] scope pos) 0 (.ref I) (.ref s.heap.objs.size) (compEnvC scope cl (s.heap.push { cls := .type "list", data := .seq #[] }).objs.size env)) (RR (.ref s.heap.objs.size) (s.heap.push { cls := .type "list", data := .seq #[] }).objs.size) { s with heap := h1, toks := tk } := fun tk0 => by
    refine pc_loop (fun k s' => ∃ i h tk ys nw, s' = { s with heap := h, toks := tk } ∧ i + k = n + 1 ∧ i ≤ n ∧ PcNow h₀ L m ws keep (s.heap.push { cls := .type "list", data := .seq #[] }).objs.size s.heap.objs.size St J i h ys nw) ?_ (n + 1) ⟨0, h1, tk0, [], news, rfl, Nat.zero_add _, Nat.zero_le _, Z⟩
    rintro k _ ⟨i, h, tk, ys, nw, rfl, ik, hi, Y⟩
    by_cases lt : i < n
    · exact pc_turn K.turns K.calm K.few K.pair K.objs K.writes X hkind hxa hxb hab turn lt Y fun h' tk' ys' nw' Y' => ⟨k - 1, by omega, i + 1, h', tk', ys', nw', rfl, by omega, lt, Y'⟩
    · obtain rfl : i = n := by omega
      refine K.turns.done _ _ _ Y.st fun h' tk' k' => ?_
      obtain ⟨mC, e⟩ := Y.comp
      have mv : ∀ b o, b ∉ ws → h.get? b = some o → h'.get? b = some o := fun b o q => k' b o fun z => q (K.writes b z)
      exact done _ _ h' tk' mC ys nw X.cNew X.apart (fun p hp => (Y.away p hp).2) (e.at' fun o => mv _ o X.cOut.1) ⟨Y.fr.ns.at' fun o => mv L o fun q => (X.wNew L q).1 rfl, fun b o q => mv b o (fun z => by rw [(X.wNew b z).2] at q; cases q) (Y.fr.keep b o q), Y.fr.above⟩
        (nw_cons (mv _ _ X.dOut.1 Y.acc) X.dNew fun p hp => ⟨mv _ _ (Y.away p hp).1 (Y.led p hp).1, (Y.led p hp).2⟩) Y.inv
  exact codeAny_compStart_list (loop _) (K.self _ _ _ Z.st (loop _))
noncomputable def PcSrc (prog : Program) (w : World) (A : Around) (h₀ : Heap) (L : Addr) (m : Str → Option Value) (env : Env) (c : Option PySem.Expr) (elt : PySem.Expr) (a b : Str) (pa pb tp : Pos) (kk : Nat) (scope : Scope) (cl : List (Str × Addr)) (Fin : Shared → List Value → List (Addr × Obj) → Prop) (xv : Value) (s₁ : Shared) : Prop :=
  ∃ (I : Addr) (fp wr ws : List Addr) (n : Nat) (P Md : Nat → Value → Heap → Prop) (St : Nat → Heap → Prop) (keep news : List (Addr × Obj)) (V : Nat → Value → Value → Prop) (J : Nat → List Value → List (Addr × Obj) → Prop),
    xv = .ref I ∧ PcIt prog w A [.Name a pa, .Name b pb] kk tp I fp wr ws n P Md St V ∧ (∀ b ∈ ws, (b ≠ L ∧ h₀.get? b = none) ∧ (@LT.lt Nat _ b s₁.heap.objs.size)) ∧ (∀ b ∈ fp, b ∈ ws ∨ ∃ o, h₀.get? b = some o ∨ (b, o) ∈ keep) ∧ St 0 s₁.heap ∧
    Fr h₀ L s₁.heap m ∧ News h₀ L s₁.heap news ∧ (∀ p ∈ news, p.1 ∉ ws) ∧ (∀ p ∈ keep, p ∈ news) ∧ J 0 [] news ∧ PcTurn prog w A h₀ L m env c elt a b scope cl s₁ ws keep n V J ∧ ∀ ys news', J n ys news' → Fin s₁ ys news'
noncomputable def PcFinE (h₀ : Heap) (L : Addr) (m : Str → Option Value) (Q : Value → Shared → Prop) (s : Shared) (ys : List Value) (news : List (Addr × Obj)) : Prop :=
  ∀ D h tk, Fr h₀ L h m → News h₀ L h ((D, lst ys) :: news) → (∀ p ∈ news, p.1 ≠ D) → Q (.ref D) { s with heap := h, toks := tk }
noncomputable def PcFinA (h₀ : Heap) (L : Addr) (m : Str → Option Value) (y : Str) (Q : Flow → Shared → Prop) (s : Shared) (ys : List Value) (news : List (Addr × Obj)) : Prop :=
  ∀ D h tk, Fr h₀ L h (fun z => if z = y then some (.ref D) else m z) → News h₀ L h ((D, lst ys) :: news) → (∀ p ∈ news, p.1 ≠ D) → Q .next { s with heap := h, toks := tk }
-- the comprehension's own frame is let go
theorem nw_but {h h' : Heap} {nw : List (Addr × Obj)} (N : News h₀ L h nw) (off : ∀ p ∈ nw, p.1 ≠ C) (sb : Heap.SameBut C h h') : News h₀ L h' nw := fun p hp => ⟨sb.extBut _ _ (off p hp) (N p hp).1, (N p hp).2⟩
theorem pc_off {D : Addr} {ys : List Value} {nw : List (Addr × Obj)} (ne : C ≠ D) (off : ∀ p ∈ nw, p.1 ≠ C ∧ p.1 ≠ D) : ∀ p ∈ (D, lst ys) :: nw, p.1 ≠ C := fun p hp => (List.mem_cons.mp hp).elim (fun z => z ▸ ne.symm) fun q => (off p q).1
theorem pc_ListComp {elt iter : PySem.Expr} {a b : Str} {pa pb tp : Pos} {kk : Nat} {c : Option PySem.Expr} {scope : Scope} {cl : List (Str × Addr)} {pos : Pos} {Q : Value → Shared → Prop} (_F₀ : Fr h₀ L s.heap m)
    (hclos : closureFor scope env = pure cl) (hcell : ∀ y ∈ scope.names, y.2 ≠ .cell) (hkind : scope.kind = .function) (hnames : ∀ y ∈ scope.names, y.2 = .local → scope.names.lookup y.1 = some .local)
    (hxa : scope.names.lookup a = some .local) (hxb : scope.names.lookup b = some .local) (hab : ¬ a = b) (h : wpAny (model prog w) A (eval iter env) (PcSrc prog w A h₀ L m env c elt a b pa pb tp kk scope cl (PcFinE h₀ L m Q)) E s)
    (hs : ∀ x, foldedSetIterable iter env x = pure x := by intro _; rfl) : wpAny (model prog w) A (eval (.ListComp elt [⟨.Tuple [.Name a pa, .Name b pb] kk tp, iter, c.toList, 0⟩] scope pos) env) Q E s := by
  rw [eval_ListComp]
  refine wpAny_comprehension_free rfl hs hclos hkind hnames (wpAny_mono h ?_ fun _ _ e => e)
  rintro _ s₁ ⟨I, fp, wr, ws, n, P, Md, St, keep, news, V, J, rfl, K, hw, src, st, F, N, off, kp, j, turn, fin⟩
  exact K.self _ _ _ st (pc_begin K hw src hcell hkind hxa hxb hab st F N off kp j turn fun C D h2 tk mC ys nw hC ne o hm F2 N2 j2 => ⟨mC, hm, fun h3 sb => fin ys nw j2 D h3 tk (F2.change sb hC.1 hC.2) (nw_but N2 (pc_off ne o) sb) fun p hp => (o p hp).2⟩)
theorem pc_Assign {elt iter : PySem.Expr} {a b y : Str} {pa pb tp py : Pos} {kk : Nat} {c : Option PySem.Expr} {scope : Scope} {cl : List (Str × Addr)} {pos spos : Pos} {Q : Flow → Shared → Prop} (_F₀ : Fr h₀ L s.heap m) (hLe : env.locals = L)
    (hsw : swapsWith (.ListComp elt [⟨.Tuple [.Name a pa, .Name b pb] kk tp, iter, c.toList, 0⟩] scope pos) (some (.Name y py)) spos.line env = pure true)
    (hclos : closureFor scope env = pure cl) (hcell : ∀ y ∈ scope.names, y.2 ≠ .cell) (hkind : scope.kind = .function) (hnames : ∀ y ∈ scope.names, y.2 = .local → scope.names.lookup y.1 = some .local)
    (hxa : scope.names.lookup a = some .local) (hxb : scope.names.lookup b = some .local) (hab : ¬ a = b) (hy : env.kindOf y = some .local) (hp : (env.scope.kind == .class || (env.scope.kind == .module && env.locals != env.globals)) = false)
    (h : wpAny (model prog w) A (eval iter env) (PcSrc prog w A h₀ L m env c elt a b pa pb tp kk scope cl (PcFinA h₀ L m y Q)) E s)
    (hs : ∀ x, foldedSetIterable iter env x = pure x := by intro _; rfl) : wpAny (model prog w) A (exec (.Assign [.Name y py] (.ListComp elt [⟨.Tuple [.Name a pa, .Name b pb] kk tp, iter, c.toList, 0⟩] scope pos) spos) env) Q E s := by
  subst hLe
  rw [exec_Assign_Name_used _ _ _ _ hsw]
  have key : ∀ at_, wpAny (model prog w) A (comprehension (.ListComp elt [⟨.Tuple [.Name a pa, .Name b pb] kk tp, iter, c.toList, 0⟩] scope pos) scope env at_ (newList []) false (eval iter env) (some (assign (.Name y py) env))) (fun _ => Q .next) E s := fun at_ => by
    refine wpAny_comprehension_free (Q := fun _ => Q .next) rfl hs hclos hkind hnames (wpAny_mono h ?_ fun _ _ e => e)
    rintro _ s₁ ⟨I, fp, wr, ws, n, P, Md, St, keep, news, V, J, rfl, K, hw, src, st, F, N, off, kp, j, turn, fin⟩
    refine K.self _ _ _ st (pc_begin K hw src hcell hkind hxa hxb hab st F N off kp j turn fun C D h2 tk mC ys nw hC ne o hm F2 N2 j2 => ?_)
    refine wpAny_assign_Name (wpAny_storeName_local hy F2.ns (fun h3 n3 sb3 => ?_) hp)
    have F3 : Fr h₀ env.locals h3 (fun z => if z = y then some (.ref D) else m z) := F2.set n3 sb3
    exact ⟨mC, hm.sameBut sb3 hC.1, fun h4 sb => fin ys nw j2 D h4 _ (F3.change sb hC.1 hC.2) (nw_but (nw_but N2 (fun p hp => (N2 p hp).2.1) sb3) (pc_off ne o) sb) fun p hp => (o p hp).2⟩
  exact wpAny_bind (wpAny_standAt (wpAny_bind (wpAny_bind (wpAny_mono (key _) (fun _ _ q => wpAny_pure (wpAny_pure q)) fun _ _ e => e))))
theorem all_nil {p : Addr → Prop} : ∀ z ∈ ([] : List Addr), p z := fun _ q => nomatch q
theorem all_cons {p : Addr → Prop} {a : Addr} {l : List Addr} (h : p a) (k : ∀ z ∈ l, p z) : ∀ z ∈ a :: l, p z := List.forall_mem_cons.mpr ⟨h, k⟩
theorem not_of {ws : List Addr} {news : List (Addr × Obj)} {h : Heap} (N : News h₀ L h news) (hw : ∀ b ∈ ws, h.objs.size ≤ b) : ∀ p ∈ news, p.1 ∉ ws := fun p hp q => Nat.lt_irrefl _ (Nat.lt_of_lt_of_le (Heap.lt_size (N p hp).1) (hw _ q))
theorem pc_enum {elt : PySem.Expr} {a b : Str} {pa pb tp : Pos} {kk : Nat} {c : Option PySem.Expr} {scope : Scope} {cl : List (Str × Addr)} {Fin : Shared → List Value → List (Addr × Obj) → Prop} {l : Addr} {vs : List Value} {news : List (Addr × Obj)}
    (hh : A.handled = none) (F : Fr h₀ L s.heap m) (N : News h₀ L s.heap news) (hl₀ : h₀.IsList l vs.toArray) (hsz : vs.length ≤ 1000) (J : Nat → List Value → List (Addr × Obj) → Prop) (hJ : J 0 [] news)
    (turn : ∀ (g : Heap) (I : Addr), PcTurn prog w A h₀ L m env c elt a b scope cl { s with heap := g } [I + 1, I] [] vs.length (fun i v₁ v₂ => ∃ t, v₁ = .int (i : Int) t ∧ vs[i]? = some v₂) J) (fin : ∀ g ys news', J vs.length ys news' → Fin { s with heap := g } ys news') :
    wpAny (model prog w) A (call (.type "enumerate") [.ref l]) (PcSrc prog w A h₀ L m env c elt a b pa pb tp kk scope cl Fin) E s := by
  have ls := hl₀.at fun o e => F.keep _ _ e
  have ⟨ol, eol, _⟩ := hl₀
  have lt := Heap.lt_size (F.keep _ _ eol)
  refine call_enumerate_list ls fun h' hE hI sz hk => ?_
  have fresh : ∀ k, k < 2 → (s.heap.objs.size + k ≠ L ∧ h₀.get? (s.heap.objs.size + k) = none) ∧ s.heap.objs.size + k < h'.objs.size := fun k q => ⟨new_is F (Nat.le_add_right _ _), by rw [sz]; exact Nat.add_lt_add_left q _⟩
  refine ⟨_, _, _, [s.heap.objs.size + 1, s.heap.objs.size], vs.length, _, _, _, [], news, _, J, rfl, ⟨KTurns.ofWalksU (WalksT.enumerate hh (s.heap.objs.size + 1) s.heap.objs.size l (Nat.succ_ne_self _) (ktu_ne 1 lt) (Nat.ne_of_lt lt) vs.toArray).toU, ?_, ?_, fun _ q => q, ?_, hh, Nat.le_trans hsz (by rw [sizeLine_eq]; decide)⟩,
    all_cons (fresh 1 (by decide)) (all_cons (fresh 0 (by decide)) all_nil), all_cons (.inl (.head _)) (all_cons (.inl (.tail _ (.head _))) (all_cons (.inr ⟨ol, .inl eol⟩) all_nil)), ⟨⟨_, hE⟩, hI, ls.at fun o e => hk l o e⟩, F.keeps hk, N.grown hk,
    not_of N (all_cons (Nat.le_succ _) (all_cons (Nat.le_refl _) all_nil)), fun _ q => (nomatch q), hJ, turn h' _, fin h'⟩
  · intro i v h ⟨T, vals, ev, ⟨t, x, ex, evs⟩, hT⟩
    subst evs
    exact ⟨T, _, _, ev, hT, t, rfl, by simpa using ex⟩
  · intro i h st
    exact all_cons ⟨_, st.1.choose_spec⟩ (all_cons (st.2.1.imp fun o q => q.1) all_nil)
  · exact fun z Q E st q => wpAny_pyIter_enum st.1.choose_spec q
theorem pc_zip {elt : PySem.Expr} {a b : Str} {pa pb tp : Pos} {kk : Nat} {c : Option PySem.Expr} {scope : Scope} {cl : List (Str × Addr)} {Fin : Shared → List Value → List (Addr × Obj) → Prop} {l1 l2 : Addr} {lo1 lo2 : Obj} {xs ys : List Value} {n1 n2 : Nat} {news : List (Addr × Obj)}
    (hh : A.handled = none) (F : Fr h₀ L s.heap m) (N : News h₀ L s.heap news) (hm1 : (l1, lo1) ∈ news) (hc1 : lo1.cls = .type "list") (hd1 : lo1.data = .seq xs.toArray n1) (hm2 : (l2, lo2) ∈ news) (hc2 : lo2.cls = .type "list") (hd2 : lo2.data = .seq ys.toArray n2) (hsz : xs.length ≤ 1000)
    (J : Nat → List Value → List (Addr × Obj) → Prop) (hJ : J 0 [] news)
    (turn : ∀ (g : Heap) (I : Addr), PcTurn prog w A h₀ L m env c elt a b scope cl { s with heap := g } [I + 4, I + 2, I + 3, I, I + 1] [(l1, lo1), (l2, lo2)] (min xs.length ys.length) (fun i v₁ v₂ => xs[i]? = some v₁ ∧ ys[i]? = some v₂) J) (fin : ∀ g zs news', J (min xs.length ys.length) zs news' → Fin { s with heap := g } zs news') :
    wpAny (model prog w) A (call (.type "zip") [.ref l1, .ref l2]) (PcSrc prog w A h₀ L m env c elt a b pa pb tp kk scope cl Fin) E s := by
  have is1 : s.heap.IsList l1 xs.toArray := ⟨lo1, (N _ hm1).1, hc1, n1, hd1⟩
  have is2 : s.heap.IsList l2 ys.toArray := ⟨lo2, (N _ hm2).1, hc2, n2, hd2⟩
  refine call_zip_2 is1 is2 fun h' hz hTI hTO hi1 hi2 sz hk => ?_
  have fresh : ∀ k, k < 5 → (s.heap.objs.size + k ≠ L ∧ h₀.get? (s.heap.objs.size + k) = none) ∧ s.heap.objs.size + k < h'.objs.size := fun k q => ⟨new_is F (Nat.le_add_right _ _), by rw [sz]; exact Nat.add_lt_add_left q _⟩
  refine ⟨_, _, [s.heap.objs.size + 4, s.heap.objs.size + 3, s.heap.objs.size, s.heap.objs.size + 1], [s.heap.objs.size + 4, s.heap.objs.size + 2, s.heap.objs.size + 3, s.heap.objs.size, s.heap.objs.size + 1], min xs.length ys.length, _, _, _, [(l1, lo1), (l2, lo2)], news, _, J, rfl,
    ⟨KTurns.ofWalksU (WalksT.zip2 hh _ _ _ _ _ _ _ (ktu_apart s.heap.objs.size l1 l2 (Heap.lt_size (N _ hm1).1) (Heap.lt_size (N _ hm2).1)) xs.toArray ys.toArray).toU, ?_, ?_, ?_, ?_, hh, Nat.le_trans (Nat.min_le_left _ _) (Nat.le_trans hsz (by rw [sizeLine_eq]; decide))⟩,
    all_cons (fresh 4 (by decide)) (all_cons (fresh 2 (by decide)) (all_cons (fresh 3 (by decide)) (all_cons (fresh 0 (by decide)) (all_cons (fresh 1 (by decide)) all_nil)))), ?_, ⟨hz, hTI, ⟨_, _, hTO⟩, hi1, hi2, is1.at fun o e => hk l1 o e, is2.at fun o e => hk l2 o e⟩, F.keeps hk, N.grown hk,
    not_of N (all_cons (Nat.le_add_right _ 4) (all_cons (Nat.le_add_right _ 2) (all_cons (Nat.le_add_right _ 3) (all_cons (Nat.le_refl _) (all_cons (Nat.le_add_right _ 1) all_nil))))), ?_, hJ, turn h' _, fin h'⟩
  · intro i v h ⟨T, vals, ev, ⟨x, y, ex, ey, evs⟩, hT⟩
    subst evs
    exact ⟨T, _, _, ev, hT, by simpa using ex, by simpa using ey⟩
  · intro i h ⟨q1, q2, q3, q4, q5, _⟩
    exact all_cons ⟨_, q1⟩ (all_cons ⟨_, q2⟩ (all_cons ⟨_, q3.choose_spec.choose_spec⟩ (all_cons (q4.imp fun o q => q.1) (all_cons (q5.imp fun o q => q.1) all_nil))))
  · exact all_cons (.head _) (all_cons (.tail _ (.tail _ (.head _))) (all_cons (.tail _ (.tail _ (.tail _ (.head _)))) (all_cons (.tail _ (.tail _ (.tail _ (.tail _ (.head _))))) all_nil)))
  · exact fun z Q E st q => wpAny_pyIter_zip st.1 q
  · exact all_cons (.inl (.head _)) (all_cons (.inl (.tail _ (.head _))) (all_cons (.inl (.tail _ (.tail _ (.head _)))) (all_cons (.inl (.tail _ (.tail _ (.tail _ (.head _))))) (all_cons (.inl (.tail _ (.tail _ (.tail _ (.tail _ (.head _)))))) (all_cons (.inr ⟨lo1, .inr (.head _)⟩) (all_cons (.inr ⟨lo2, .inr (.tail _ (.head _))⟩) all_nil))))))
  · exact fun p hp => (List.mem_cons.mp hp).elim (fun q => q ▸ hm1) fun q => List.mem_singleton.mp q ▸ hm2
end
end Mine

end

section
open PySem PySem.W PyProof.Rows PySem.Calls PyProof.Rows.LCg
namespace Mine
set_option maxRecDepth 100000
set_option maxHeartbeats 0
theorem fill19 : PySem.Challenge.rw_pb0596_01.foot = 6 ∧ K9 = K9 := by
  k_with_none
  k_with "my ne" => (first | (with_reducible first | assumption | exact Ne.symm (by assumption) | exact Mine.nr1 (by assumption) | exact Mine.ns1 (by assumption) | exact Mine.nt1 (by assumption) | exact Mine.nu1 (by assumption) | exact Mine.nr2 (by assumption) | exact Mine.ns2 (by assumption) | exact Mine.nt2 (by assumption) | exact Mine.nu2 (by assumption) | exact Mine.nr3 (by assumption) | exact Mine.ns3 (by assumption) | exact Mine.nt3 (by assumption) | exact Mine.nu3 (by assumption) | exact Mine.nr4 (by assumption) | exact Mine.ns4 (by assumption) | exact Mine.nt4 (by assumption) | exact Mine.nu4 (by assumption) | exact Mine.nr5 (by assumption) | exact Mine.ns5 (by assumption) | exact Mine.nt5 (by assumption) | exact Mine.nu5 (by assumption) | exact Mine.nr6 (by assumption) | exact Mine.ns6 (by assumption) | exact Mine.nt6 (by assumption) | exact Mine.nu6 (by assumption) | exact Mine.nr7 (by assumption) | exact Mine.ns7 (by assumption) | exact Mine.nt7 (by assumption) | exact Mine.nu7 (by assumption) | exact Mine.nr8 (by assumption) | exact Mine.ns8 (by assumption) | exact Mine.nt8 (by assumption) | exact Mine.nu8 (by assumption) | exact Mine.nr9 (by assumption) | exact Mine.ns9 (by assumption) | exact Mine.nr10 (by assumption) | exact Mine.ns10 (by assumption) | exact Mine.nr11 (by assumption) | exact Mine.ns11 (by assumption) | exact Mine.nr12 (by assumption) | exact Mine.ns12 (by assumption) | exact Mine.nw1 (by assumption) | exact Mine.nw2 (by assumption) | exact Mine.nw3 (by assumption) | exact Mine.nw4 (by assumption) | exact Mine.nw5 (by assumption) | exact Mine.nw6 (by assumption) | exact Mine.nk1 (by assumption) | exact Mine.nk2 (by assumption) | exact Mine.nk3 (by assumption) | exact Mine.nk4 (by assumption)) | fail "no")
  k_with "my om" => (first | ((with_reducible show @Eq Int _ _); with_reducible first | assumption | exact Eq.symm (by assumption) | exact Int.toNat_of_nonneg (by assumption)) | fail "no")
  k_with "my om" => (first | ((with_reducible show And (@LE.le Int _ _ _) _); with_reducible first | assumption | (refine Mine.i2 (by assumption) ?_; omega) | (refine Mine.i2' (by assumption) ?_; omega)) | fail "no")
  k_with "my om" => (first | ((with_reducible show @LT.lt Int _ _ _); first | (with_reducible first | assumption | exact Mine.i1' (by assumption) | exact Int.ofNat_lt.mpr (by assumption) | exact And.left (by assumption) | exact And.right (by assumption) | exact Int.lt_of_not_le (by assumption)) | decide +kernel) | fail "no")
  k_with "my om" => (first | ((with_reducible show @LE.le Int _ _ _); first | (with_reducible first | assumption | exact Int.natCast_nonneg _ | exact Int.le_refl _ | exact Mine.i1 _ | exact Int.ofNat_le.mpr (by assumption) | exact Mine.i6 (by assumption) (by assumption) | (refine Mine.i7 ?_; omega) | exact And.left (by assumption) | exact And.right (by assumption) | exact Int.le_of_not_lt (by assumption) | exact Int.le_of_lt (by assumption)) | decide +kernel) | fail "no")
  k_with "my om" => (first | ((with_reducible show @Eq Nat _ _); with_reducible first | assumption | exact Eq.symm (by assumption) | exact Mine.i5 (by assumption) | exact Mine.i4 _ | exact Mine.i3 _ | exact Eq.symm (Mine.i4 _) | exact Nat.add_sub_cancel_left .. | exact Nat.min_eq_left (by assumption) | exact Eq.trans (by assumption) (by assumption) | exact Eq.trans (Eq.symm (by assumption)) (by assumption) | exact Eq.trans (by assumption) (Eq.symm (by assumption))) | fail "no")
  k_with "my om" => (first | ((with_reducible show @LT.lt Nat _ _ _); with_reducible first | assumption | exact Mine.np (by assumption) | exact Mine.nq (by assumption) rfl | exact Mine.nv (by assumption) rfl | exact Mine.ia (by assumption) (by assumption) | exact Mine.ib (by assumption) (by assumption) | exact Nat.lt_of_lt_of_le (by assumption) (by assumption) | exact Nat.succ_lt_succ (by assumption) | exact And.left (by assumption) | exact And.right (by assumption) | exact Nat.lt_of_not_le (by assumption) | exact Mine.ia (Mine.ia (by assumption) (by assumption)) (by assumption) | exact Mine.ib (Mine.ia (by assumption) (by assumption)) (by assumption) | exact Mine.ia (Mine.ib (by assumption) (by assumption)) (by assumption) | exact Mine.ib (Mine.ib (by assumption) (by assumption)) (by assumption)) | fail "no")
  k_with "my om" => (first | ((with_reducible show @LE.le Nat _ _ _); first | (with_reducible first | assumption | exact Mine.nc (by assumption) rfl | exact Nat.le_refl _ | exact Mine.nl (by assumption) (by assumption) | exact Mine.nm (by assumption) (by assumption) | exact Mine.nn (by assumption) (by assumption) | exact Mine.nn (by assumption) (Mine.nc (by assumption) rfl) | exact Mine.nl (by assumption) (Mine.nc (by assumption) rfl) | exact Mine.nm (by assumption) (Mine.nc (by assumption) rfl) | exact Mine.nl (by assumption) (Mine.nl (by assumption) (Mine.nc (by assumption) rfl)) | exact Mine.nl (by assumption) (Mine.nn (by assumption) (Mine.nc (by assumption) rfl)) | exact Mine.nm (by assumption) (Mine.nn (by assumption) (Mine.nc (by assumption) rfl)) | exact Mine.nl (by assumption) (Mine.nm (by assumption) (Mine.nc (by assumption) rfl)) | exact Mine.nm (by assumption) (Mine.nl (by assumption) (Mine.nc (by assumption) rfl)) | exact Mine.nm (by assumption) (Mine.nm (by assumption) (Mine.nc (by assumption) rfl)) | exact Nat.le_add_right _ _ | exact Nat.succ_le_succ (by assumption) | exact Nat.le_of_eq (by assumption) | exact Nat.le_of_eq (Eq.symm (by assumption)) | exact Nat.le_succ_of_le (by assumption) | exact Nat.le_of_not_lt (by assumption) | exact Int.toNat_le_toNat (by assumption) | exact Mine.ig (by assumption) (by assumption) rfl | exact Mine.ih (by assumption) (by assumption) rfl | exact And.left (by assumption) | exact And.right (by assumption) | (refine Mine.ie ?_ (by assumption); omega) | (refine Mine.ie' ?_ (by assumption); omega) | (refine Mine.id1 ?_; omega) | (refine Mine.ij ?_; omega) | (refine Mine.ic (by assumption) rfl ?_; omega)) | exact Mine.nz rfl) | fail "no")
  k_with "my own" => (first | assumption | exact Mine.PAt.of (by assumption) (PySem.SameStack.mark _ _) | exact Mine.PAt.of (by assumption) (PySem.SameStack.unmark _ _) | fail "no")
  k_fill
  k_with "my inst" => (first | exact InstAt.up (by assumption) (Fr.keep (by k_asm)) | fail "no")
  k_with "my inst" => (first | exact InstAt.mix (by assumption) (by k_asm) (by k_asm) (by k_mem) | fail "no")
  exact ⟨rfl, rfl⟩
section
variable {w : World} {base g : Heap} {s : Shared} {L : Addr} {m : Str → Option Value} {news : List (Addr × Obj)} {Q E : Value → Shared → Prop} {dp un : Nat} {fr : Option (List Env)} {gd : Option (List Code)}
theorem new_stream (G : Gr w base) (hB : Kp base g) (X : Frag.In (K9 w.params) g) (hmk : makesIn (K9 w.params) 138 = true) (hi : findIn (K9 w.params) (.ref 138) "__init__" = some (some (.ref 114))) (hf : isFn (K9 w.params) (.ref 114) = true) {d : Addr}
    (F : Fr g L s.heap m) (N : News g L s.heap news) (hdp : dp + 2 < recursionLimit) (hun : un + 24 < cLine)
    (h : ∀ x dx T pt ct h' tk', Fr g L h' m → News g L h' ((x, instObj 138 dx) :: (dx, dictOf (stEs w T d .none false 0 pt 0 ct) 6) :: news) → Q (.ref x) { s with heap := h', toks := tk' }) :
    wpAny (model pw w) (Ar dp un fr gd) (call (.ref 138) [.ref d, .bool false]) Q E s := by
  refine call_cls F X N hmk hi hf fun x dx h1 F1 N1 l1 l2 => ?_
  have nd := N1 (dx, dictOf [] 0) (by k_mem)
  have nx := N1 (x, instObj 138 dx) (by k_mem)
  refine sinit_cc G x dx d (base_none hB nd.2.2) _ _ _ _ _ _ ?_ ?_ (hB.trans F1.keep) ⟨nx.1, nd.1⟩ ?_
  · exact hdp
  · have hcu : (Code.builtin "type.__call__" ⟨[Value.ref 138, .ref d, .bool false], []⟩).cUnits ≤ 16 := Nat.le_of_ble_eq_true rfl
    show un + (Code.builtin "type.__call__" ⟨[Value.ref 138, .ref d, .bool false], []⟩).cUnits + 8 * 1 < cLine; omega
  · rintro h' tk' ⟨hx, T, pt, ct, hdx, kp⟩
    refine ⟨rfl, h x dx T pt ct h' tk' (Fr.butOne F1 nd.2.1 nd.2.2 kp) fun p hp => ?_⟩
    rcases List.mem_cons.mp hp with rfl | hp
    · exact ⟨hx, nx.2⟩
    · rcases List.mem_cons.mp hp with rfl | hp
      · exact ⟨hdx, nd.2⟩
      · have z := N1 p (.tail _ (.tail _ hp))
        exact ⟨kp _ _ (Nat.ne_of_lt (l1 p hp)) z.1, z.2⟩
theorem use_sput (G : Gr w base) (hB : Kp base g) {x dx d : Addr} {T : T6} {kv : Value} {st : St} {c : Int} {pt ct : Tok} {y : Sg} {t : Tok} {D : DS} {ms : Str → Option MS} {sem : Str → Int → DV} {n : Nat} {p1 p2 p3 : Addr × Obj} {own : List (Addr × Obj)} {odd : Bool} {pp : Int}
    (F : Fr g L s.heap m) (N : News g L s.heap (p1 :: p2 :: p3 :: (x, instObj 138 dx) :: (dx, dictOf (stEs w T d kv odd pp pt c ct) 6) :: own)) (hP : DatM w g d D ms sem n) (ok : SgOk sem y) (hkv : KV kv st.kind) (ho : odd = st.odd) (hp : pp = st.pic)
    (n1 : p1.1 ≠ dx) (n2 : p2.1 ≠ dx) (n3 : p3.1 ≠ dx) (no : ∀ p ∈ own, p.1 ≠ dx) (hd : dp + 6 < recursionLimit) (hu : un + 8 * 6 < cLine)
    (h : ∀ kv' pt' ct' h' tk', KV kv' (takeF st y).kind → Fr g L h' m → News g L h' (p1 :: p2 :: p3 :: (x, instObj 138 dx) :: (dx, dictOf (stEs w T d kv' (takeF st y).odd (takeF st y).pic pt' 0 ct') 6) :: own) → Q (.bool (toldF st y)) { s with heap := h', toks := tk' }) :
    wpAny (model pw w) (Ar dp un fr gd) (call (.ref 121) [.ref x, .int y.c t]) Q E s := by
  subst ho; subst hp
  have z := N (dx, dictOf (stEs w T d kv st.odd st.pic pt c ct) 6) (by k_mem)
  have zx := N (x, instObj 138 dx) (by k_mem)
  refine sput_cc G x dx d T kv st c pt ct y t D ms sem n (base_none hB z.2.2) ok hkv (fun b hb e => ?_) _ _ _ _ _ _ _ hd hu (hB.trans F.keep) ⟨⟨zx.1, z.1⟩, hP.keep F.keep⟩ ?_
  · obtain ⟨o, ho⟩ := hP.sup_some hb
    rw [e, z.2.2] at ho; cases ho
  rintro v h' tk' ⟨rfl, u, pt', ct', k, hk, H, kp⟩
  refine h (.str k u) pt' ct' h' tk' (.inr ⟨k, u, rfl, hk⟩) (Fr.butOne F z.2.1 z.2.2 kp) fun p hp => ?_
  have old : ∀ q ∈ p1 :: p2 :: p3 :: (x, instObj 138 dx) :: (dx, dictOf (stEs w T d kv st.odd st.pic pt c ct) 6) :: own, q.1 ≠ dx → h'.get? q.1 = some q.2 ∧ q.1 ≠ L ∧ g.get? q.1 = none := fun q hq hne => ⟨kp _ _ hne (N q hq).1, (N q hq).2⟩
  rcases List.mem_cons.mp hp with rfl | hp
  · exact old _ (.head _) n1
  rcases List.mem_cons.mp hp with rfl | hp
  · exact old _ (.tail _ (.head _)) n2
  rcases List.mem_cons.mp hp with rfl | hp
  · exact old _ (.tail _ (.tail _ (.head _))) n3
  rcases List.mem_cons.mp hp with rfl | hp
  · exact ⟨H.at_, zx.2⟩
  rcases List.mem_cons.mp hp with rfl | hp
  · exact ⟨H.dict, z.2⟩
  · exact old _ (.tail _ (.tail _ (.tail _ (.tail _ (.tail _ hp))))) (no p hp)
end
theorem news_perm {g h : Heap} {L : Addr} {l l' : List (Addr × Obj)} (N : News g L h l) (hs : ∀ p ∈ l', p ∈ l) : News g L h l' := fun p hp => N p (hs p hp)
theorem news_swap {g h : Heap} {L : Addr} {l l' : List (Addr × Obj)} (N : News g L h (l ++ l')) : News g L h (l' ++ l) := fun p hp => N p (by
  rcases List.mem_append.mp hp with h | h
  · exact List.mem_append_right _ h
  · exact List.mem_append_left _ h)
theorem cell_ne {g h : Heap} {L a b : Addr} {o : Obj} {v : Option Value} {es : List DictEntry} {n : Nat} {own r2 : List (Addr × Obj)} {p q r : Addr × Obj} (N : News g L h (own ++ p :: q :: (a, o) :: r :: (b, dictOf es n) :: r2)) (ho : o.data = .cell v) : a ≠ b := by
  intro e
  subst e
  have h1 := (N (a, o) (List.mem_append_right _ (.tail _ (.tail _ (.head _))))).1
  have h2 := (N (a, dictOf es n) (List.mem_append_right _ (.tail _ (.tail _ (.tail _ (.tail _ (.head _))))))).1
  rw [h1] at h2
  cases h2
  cases ho
theorem breaks_snoc : ∀ (l : List Sg) (st : St) (x : Sg), breaks st (l ++ [x]) = breaks st l ++ [toldF (l.foldl takeF st) x]
  | [], _, _ => rfl
  | y :: r, st, x => by simp [breaks, breaks_snoc r]
theorem pl_snoc : ∀ (bs : List Bool) (i : Nat) (b : Bool), pl i (bs ++ [b]) = pl i bs ++ if b then [i + bs.length] else []
  | [], i, b => by cases b <;> simp [pl]
  | true :: r, i, b => by simp only [List.cons_append, pl, if_true, pl_snoc r, List.length_cons]; rw [show i + 1 + r.length = i + (r.length + 1) from by omega]
  | false :: r, i, b => by simp only [List.cons_append, pl, Bool.false_eq_true, if_false, pl_snoc r, List.length_cons]; rw [show i + 1 + r.length = i + (r.length + 1) from by omega]
theorem pl_len : ∀ (bs : List Bool) (i : Nat), (pl i bs).length ≤ bs.length
  | [], _ => Nat.le_refl _
  | true :: r, i => by simp only [pl, if_true, List.length_cons]; have := pl_len r (i + 1); omega
  | false :: r, i => by simp only [pl, Bool.false_eq_true, if_false, List.length_cons]; have := pl_len r (i + 1); omega
noncomputable def nums (l : List Nat) : List Int := List.map (fun n : Nat => (n : Int)) l
noncomputable def NewL (h h' : Heap) (v : Value) (R : List Value → Prop) : Prop := ∃ r vs n, v = .ref r ∧ h'.get? r = some (PySem.W.listOf vs.toArray n) ∧ h.get? r = none ∧ R vs
noncomputable def CpJ (w : World) (c : Addr) (oc : Obj) (x dx d : Addr) (T : T6) (xs : List Sg) (i : Nat) (ys : List Value) (news : List (Addr × Obj)) : Prop :=
  ∃ kv pt ct, KV kv ((xs.take i).foldl takeF st0).kind ∧ news = [(c, oc), (x, instObj 138 dx), (dx, dictOf (stEs w T d kv ((xs.take i).foldl takeF st0).odd ((xs.take i).foldl takeF st0).pic pt 0 ct) 6)] ∧ IntsAre ys (nums (pl 0 (breaks st0 (xs.take i))))
theorem cp_end {w : World} {g h9 : Heap} {s : Shared} {L c x dx d C D' : Addr} {oc oC : Obj} {T : T6} {xs : List Sg} {y : Sg} {i tk9 : Nat} {ys ys' : List Value} {m : Str → Option Value} {own : List (Addr × Obj)} {ws : List Addr} {kv9 : Value} {pt9 ct9 : Tok} {old : Obj} {b : Bool} {t : Tok}
    (hx : xs[i]? = some y) (F : Fr g L h9 m) (N : News g L h9 ((C, oC) :: (D', lst ys) :: (c, oc) :: (x, instObj 138 dx) :: (dx, dictOf (stEs w T d kv9 (takeF ((xs.take i).foldl takeF st0) y).odd (takeF ((xs.take i).foldl takeF st0) y).pic pt9 0 ct9) 6) :: own))
    (hkv : KV kv9 (takeF ((xs.take i).foldl takeF st0) y).kind) (off : ∀ p ∈ [(c, oc), (x, instObj 138 dx), (dx, old)], p.1 ∉ ws ∧ p.1 ≠ C ∧ p.1 ≠ D') (hys : IntsAre ys (nums (pl 0 (breaks st0 (xs.take i))))) (hb : toldF ((xs.take i).foldl takeF st0) y = b) (hy : ys' = if b = true then ys ++ [.int (i : Int) t] else ys) :
    PcEnd g L m s own C oC D' (lst ys) ws [] (CpJ w c oc x dx d T xs (i + 1) ys') { s with heap := h9, toks := tk9 } := by
  have hi : i < xs.length := (List.getElem?_eq_some_iff.mp hx).1
  have et : xs.take (i + 1) = xs.take i ++ [y] := by rw [List.take_add_one, hx, Option.toList_some]
  have ef : (xs.take (i + 1)).foldl takeF st0 = takeF ((xs.take i).foldl takeF st0) y := by rw [et, List.foldl_append]; rfl
  refine ⟨h9, tk9, [(c, oc), (x, instObj 138 dx), (dx, dictOf (stEs w T d kv9 (takeF ((xs.take i).foldl takeF st0) y).odd (takeF ((xs.take i).foldl takeF st0) y).pic pt9 0 ct9) 6)], rfl, F, ?_, ?_, (fun _ h => nomatch h), ⟨kv9, pt9, ct9, by rw [ef]; exact hkv, by rw [ef], ?_⟩⟩
  · exact news_swap (l := [(C, oC), (D', lst ys), (c, oc), (x, instObj 138 dx), (dx, dictOf (stEs w T d kv9 (takeF ((xs.take i).foldl takeF st0) y).odd (takeF ((xs.take i).foldl takeF st0) y).pic pt9 0 ct9) 6)]) N
  · intro p hp
    rcases List.mem_cons.mp hp with rfl | hp
    · exact off _ (.head _)
    rcases List.mem_cons.mp hp with rfl | hp
    · exact off _ (.tail _ (.head _))
    · rw [List.mem_singleton.mp hp]; exact off (dx, old) (.tail _ (.tail _ (.head _)))
  · rw [et, breaks_snoc, pl_snoc, breaks_len, hb, hy]
    have el : (xs.take i).length = i := by rw [List.length_take]; omega
    rw [el]
    cases b with
    | true =>
      simp only [if_true]
      have e : nums (pl 0 (breaks st0 (xs.take i)) ++ [0 + i]) = nums (pl 0 (breaks st0 (xs.take i))) ++ [(i : Int)] := by simp [nums]
      rw [e]
      exact hys.append (.cons _ _ .nil)
    | false => simpa using hys
theorem len_any {prog : Program} {w : World} {A : Around} {E : Value → Shared → Prop} {s : Shared} {l : Addr} {vs : List Value} {Q : Value → Shared → Prop} (hl : s.heap.IsList l vs.toArray) (hz : vs.length ≤ 1000) (h : ∀ t tk, Q (.int (vs.length : Int) t) { s with toks := tk }) :
    wpAny (model prog w) A (call (.builtin "len") [.ref l]) Q E s := call_len_list hl (by rw [List.size_toArray]; omega) (by rw [List.size_toArray]; exact h _ _)
theorem newl_fin {s : Shared} {Q : Value → Shared → Prop} {g h' : Heap} {L r : Addr} {zs : List Value} {n tk : Nat} {m : Str → Option Value} {news : List (Addr × Obj)} {R : List Value → Prop}
    (hret : ∀ (v : Value) (h' : Heap) (tk' : Nat), Kp s.heap h' ∧ NewL s.heap h' v R → Q v { s with heap := h', toks := tk' }) (hk : Kp s.heap g) (F : Fr g L h' m) (N : News g L h' news) (hm : (r, PySem.W.listOf zs.toArray n) ∈ news) (hz : R zs) : Q (.ref r) { s with heap := h', toks := tk } :=
  hret _ _ _ ⟨hk.trans F.keep, r, zs, n, rfl, (N _ hm).1, base_none hk (N _ hm).2.2, hz⟩
theorem places_cc {w : World} {base : Heap} (G : Gr w base) (tl d : Addr) (vs : List Value) (xs : List Sg) (D : DS) (ms : Str → Option MS) (sem : Str → Int → DV) (n : Nat) (hlen : vs.length ≤ 9) (hok : ∀ x ∈ xs, SgOk sem x) :
   CC w base 148 [.ref tl, .ref d, .bool false] 9 (fun h => h.IsList tl vs.toArray ∧ IntsAre vs (xs.map Sg.c) ∧ DatM w h d D ms sem n)
    (fun h v h' => Kp h h' ∧ NewL h h' v fun ys => IntsAre ys (nums (placesF xs))) := by
  have G' := G
  obtain ⟨X, p, loose, mean, mg, mb, T⟩ := G
  intro dp un fr gd s Q E hdp hun hb hp hret
  obtain ⟨hl, hi, hD⟩ := hp
  w_on
  k_dflt (refine enterC (binds := [(Str.ofString "text", .ref tl), (Str.ofString "data", .ref d), (Str.ofString "is_legacy", .bool false)]) [] X T hb (fun _ h => nomatch h) (by k_is) (by k_is) (by show dp < recursionLimit; omega) (binds_K (X.keeps hb) rfl (by k_is) rfl rfl rfl) rfl (by decide +kernel) (fun E9 Q9 g L h₁ g9s d9r tk0 o9s cells hQ9 hE9 hP9 hA9 hB hG X' T' F' N' Y hL => ?_))
  k_cells Y
  try simp only [List.cons_append, List.nil_append] at N'
  try dsimp only
  have hk : Kp s.heap g := fun b o e => hG _ _ e (fun h => nomatch h)
  have hl' : g.IsList tl vs.toArray := hl.at fun o e => hk _ _ e
  have P := hD.keep hk
  k_unmd
  try k_fold
  k_with "call ref" => ((with_reducible show wpAny _ _ (PySem.call (Value.ref 138) _ _) _ _ _); (refine' new_stream G' hB X' (by k_is) (by k_is) (by k_is) ?kF ?kN ?kd ?ku ?_); (case kF => k_asm); (case kN => k_asm); (case kd => k_dflt (exact lim1 hdp rfl)); (case ku => k_dflt (exact lim3 hun rfl)); intro x9 dx9 T9 pt9 ct9 h9 tk9 F9 N9; (try dsimp only); k_sweep)
  k_with "call type:enumerate" => ((with_reducible show wpAny _ _ (call (Value.type _) [Value.ref _]) (PcSrc _ _ _ _ _ _ _ _ _ _ _ _ _ _ _ _ _ _) _ _); refine Hold.out ?_)
  k_with "exec Assign cons ListComp" => (k_here; lcg_calm; k_dflt (refine pc_Assign (c := some _) (L := L) (by k_asm) (by rfl) (by with_unfolding_all rfl) (by with_unfolding_all rfl) (by decide) (by rfl) (by decide) (by rfl) (by rfl) (by decide +kernel) (by rfl) (by rfl) ?_ (by intro _; rfl)))
  k_steps
  all_goals (try ((with_reducible refine hQ9 _ _ _ ?_); (try dsimp only)))
  rename Fr _ _ _ _ => F2
  rename News _ _ _ _ => N2
  rename (_ : Obj).data = Data.cell _ => hoc
  rename Obj => oc
  have N3 := news_perm (l' := [(L + 1, oc), (x9, instObj 138 dx9), (dx9, dictOf (stEs w T9 d .none false 0 pt9 0 ct9) 6)]) N2 (by simp)
  clear N2
  refine pc_enum (vs := vs) (by rfl) F2 N3 hl' (by omega) (CpJ w (L + 1) oc x9 dx9 d T9 xs) ⟨.none, pt9, ct9, .inl ⟨rfl, rfl⟩, rfl, .nil⟩ (fun gh I => ?_) (fun gh ys news' hJ => ?_)
  · rintro i ys _ _ v₂ own C oC D' m₂ h tk E' hil ⟨t, rfl, hv⟩ ⟨kv, pt, ct, hkv, rfl, hys⟩ how hoC ha hb2 F N off hCw hDw hCD hkp
    obtain ⟨x, hx⟩ : ∃ x, xs[i]? = some x := by
      have h1 := hi.length
      rw [List.length_map] at h1
      exact ⟨_, List.getElem?_eq_getElem (by omega)⟩
    obtain ⟨t', ht'⟩ := hi.get i x.c (by rw [List.getElem?_map, hx]; rfl)
    have e2 : v₂ = .int x.c t' := by rw [ht'] at hv; exact (Option.some.inj hv).symm
    subst e2
    have okx := hok x (List.mem_of_getElem? hx)
    have oo : ∀ p ∈ own, p.1 ≠ dx9 := fun p hp e => by
      have q : p.1 ∈ [I + 1, I] := by rw [← how]; exact List.mem_map_of_mem (f := fun p : Addr × Obj => p.1) hp
      rw [e] at q
      exact (off (dx9, dictOf (stEs w T9 d kv ((xs.take i).foldl takeF st0).odd ((xs.take i).foldl takeF st0).pic pt 0 ct) 6) (.tail _ (.tail _ (.head _)))).1 q
    have oC' := (off (dx9, dictOf (stEs w T9 d kv ((xs.take i).foldl takeF st0).odd ((xs.take i).foldl takeF st0).pic pt 0 ct) 6) (.tail _ (.tail _ (.head _)))).2
    have ocd : L + 1 ≠ dx9 := cell_ne N hoc
    have N5 : News g L h ((C, oC) :: (D', lst ys) :: (L + 1, oc) :: (x9, instObj 138 dx9) :: (dx9, dictOf (stEs w T9 d kv ((xs.take i).foldl takeF st0).odd ((xs.take i).foldl takeF st0).pic pt 0 ct) 6) :: own) := news_swap N
    clear N
    show wpAny _ _ _ _ _ _
    k_with "call ref" => ((with_reducible show wpAny _ _ (PySem.call (Value.ref 121) _ _) _ _ _); (refine' use_sput G' hB (st := (xs.take i).foldl takeF st0) ?kF ?kN P okx hkv rfl rfl ?n1 ?n2 ?n3 oo ?kd ?ku ?_); (case kF => k_asm); (case kN => k_asm); (case n1 => exact oC'.1.symm); (case n2 => exact oC'.2.symm); (case n3 => exact ocd); (case kd => k_dflt (exact lim1 hdp rfl)); (case ku => k_dflt (exact lim3 hun rfl)); intro kv9 pt9 ct9 h9 tk9 kk9 F9 N9; (try dsimp only); k_sweep)
    k_steps
    all_goals (try ((with_reducible refine hQ9 _ _ _ ?_); (try dsimp only)))
    · exact cp_end hx F9 N9 kk9 off hys (by assumption) rfl
    · exact cp_end (t := 0) hx F9 N9 kk9 off hys (by assumption) rfl
  · intro Df h tk F N off
    obtain ⟨kv, pt, ct, hkv, rfl, hys⟩ := hJ
    have hlx : xs.length = vs.length := by have := hi.length; rw [List.length_map] at this; omega
    rw [List.take_of_length_le (by omega)] at hys
    have hyl : ys.length ≤ 9 := by
      have h1 := hys.length
      have h2 := pl_len (breaks st0 xs) 0
      rw [breaks_len] at h2
      unfold nums at h1
      rw [List.length_map] at h1
      omega
    k_with "call builtin:len" => ((with_reducible show wpAny _ _ (call (Value.builtin "len") [Value.ref _]) _ _ _); (refine' len_any (vs := vs) ?l (by omega) ?_); (case l => is_list); intro t9 tk9; (try dsimp only))
    k_with "binaryOp Add ref ref" => (k_here; k_dflt (refine' ad_two (vs := ys) (ws := [_]) ?F ?N ?l ?r ?z ?_; (case F => k_asm); (case N => k_asm); (case l => kmk_list); (case r => kmk_list); (case z => simp; omega)); intro D' h' F' N' l1; (try k_lt l1); (try k_sweep))
    try dsimp only
    k_steps
    all_goals (try ((with_reducible refine hQ9 _ _ _ ?_); (try dsimp only)))
    all_goals (try dsimp only)
    · have e0 : xs = [] := by
        have q : decide (List.map Sg.c xs = []) = true := by assumption
        simpa using q
      refine newl_fin (zs := ys) (n := ys.length) hret hk (by assumption) (by assumption) (.tail _ (.head _)) ?_
      subst e0
      simpa [placesF, breaks, pl] using hys
    · have e0 : xs ≠ [] := by
        have q : decide (List.map Sg.c xs = []) = false := by assumption
        simpa using q
      refine newl_fin (zs := ys ++ [.int (vs.length : Int) t9]) (n := 0) hret hk (by assumption) (by assumption) (.head _) ?_
      have e1 : nums (placesF xs) = nums (pl 0 (breaks st0 xs)) ++ [(vs.length : Int)] := by rw [placesF, if_neg e0, ← hlx]; simp [nums]
      rw [e1]
      exact hys.append (.cons _ _ .nil)
end Mine

end

section
open PySem PySem.W PyProof.Rows PySem.Calls PyProof.Rows.LCg
namespace Mine
set_option maxRecDepth 100000
set_option maxHeartbeats 0
theorem fill20 : PySem.Challenge.rw_pb0596_01.foot = 6 ∧ K9 = K9 := by
  k_with_none
  k_with "my ne" => (first | (with_reducible first | assumption | exact Ne.symm (by assumption) | exact Mine.nr1 (by assumption) | exact Mine.ns1 (by assumption) | exact Mine.nt1 (by assumption) | exact Mine.nu1 (by assumption) | exact Mine.nr2 (by assumption) | exact Mine.ns2 (by assumption) | exact Mine.nt2 (by assumption) | exact Mine.nu2 (by assumption) | exact Mine.nr3 (by assumption) | exact Mine.ns3 (by assumption) | exact Mine.nt3 (by assumption) | exact Mine.nu3 (by assumption) | exact Mine.nr4 (by assumption) | exact Mine.ns4 (by assumption) | exact Mine.nt4 (by assumption) | exact Mine.nu4 (by assumption) | exact Mine.nr5 (by assumption) | exact Mine.ns5 (by assumption) | exact Mine.nt5 (by assumption) | exact Mine.nu5 (by assumption) | exact Mine.nr6 (by assumption) | exact Mine.ns6 (by assumption) | exact Mine.nt6 (by assumption) | exact Mine.nu6 (by assumption) | exact Mine.nr7 (by assumption) | exact Mine.ns7 (by assumption) | exact Mine.nt7 (by assumption) | exact Mine.nu7 (by assumption) | exact Mine.nr8 (by assumption) | exact Mine.ns8 (by assumption) | exact Mine.nt8 (by assumption) | exact Mine.nu8 (by assumption) | exact Mine.nr9 (by assumption) | exact Mine.ns9 (by assumption) | exact Mine.nr10 (by assumption) | exact Mine.ns10 (by assumption) | exact Mine.nr11 (by assumption) | exact Mine.ns11 (by assumption) | exact Mine.nr12 (by assumption) | exact Mine.ns12 (by assumption) | exact Mine.nw1 (by assumption) | exact Mine.nw2 (by assumption) | exact Mine.nw3 (by assumption) | exact Mine.nw4 (by assumption) | exact Mine.nw5 (by assumption) | exact Mine.nw6 (by assumption) | exact Mine.nk1 (by assumption) | exact Mine.nk2 (by assumption) | exact Mine.nk3 (by assumption) | exact Mine.nk4 (by assumption)) | fail "no")
  k_with "my om" => (first | ((with_reducible show @Eq Int _ _); with_reducible first | assumption | exact Eq.symm (by assumption) | exact Int.toNat_of_nonneg (by assumption)) | fail "no")
  k_with "my om" => (first | ((with_reducible show And (@LE.le Int _ _ _) _); with_reducible first | assumption | (refine Mine.i2 (by assumption) ?_; omega) | (refine Mine.i2' (by assumption) ?_; omega)) | fail "no")
  k_with "my om" => (first | ((with_reducible show @LT.lt Int _ _ _); first | (with_reducible first | assumption | exact Mine.i1' (by assumption) | exact Int.ofNat_lt.mpr (by assumption) | exact And.left (by assumption) | exact And.right (by assumption) | exact Int.lt_of_not_le (by assumption)) | decide +kernel) | fail "no")
  k_with "my om" => (first | ((with_reducible show @LE.le Int _ _ _); first | (with_reducible first | assumption | exact Int.natCast_nonneg _ | exact Int.le_refl _ | exact Mine.i1 _ | exact Int.ofNat_le.mpr (by assumption) | exact Mine.i6 (by assumption) (by assumption) | (refine Mine.i7 ?_; omega) | exact And.left (by assumption) | exact And.right (by assumption) | exact Int.le_of_not_lt (by assumption) | exact Int.le_of_lt (by assumption)) | decide +kernel) | fail "no")
  k_with "my om" => (first | ((with_reducible show @Eq Nat _ _); with_reducible first | assumption | exact Eq.symm (by assumption) | exact Mine.i5 (by assumption) | exact Mine.i4 _ | exact Mine.i3 _ | exact Eq.symm (Mine.i4 _) | exact Nat.add_sub_cancel_left .. | exact Nat.min_eq_left (by assumption) | exact Eq.trans (by assumption) (by assumption) | exact Eq.trans (Eq.symm (by assumption)) (by assumption) | exact Eq.trans (by assumption) (Eq.symm (by assumption))) | fail "no")
  k_with "my om" => (first | ((with_reducible show @LT.lt Nat _ _ _); with_reducible first | assumption | exact Mine.np (by assumption) | exact Mine.nq (by assumption) rfl | exact Mine.nv (by assumption) rfl | exact Mine.ia (by assumption) (by assumption) | exact Mine.ib (by assumption) (by assumption) | exact Nat.lt_of_lt_of_le (by assumption) (by assumption) | exact Nat.succ_lt_succ (by assumption) | exact And.left (by assumption) | exact And.right (by assumption) | exact Nat.lt_of_not_le (by assumption) | exact Mine.ia (Mine.ia (by assumption) (by assumption)) (by assumption) | exact Mine.ib (Mine.ia (by assumption) (by assumption)) (by assumption) | exact Mine.ia (Mine.ib (by assumption) (by assumption)) (by assumption) | exact Mine.ib (Mine.ib (by assumption) (by assumption)) (by assumption)) | fail "no")
  k_with "my om" => (first | ((with_reducible show @LE.le Nat _ _ _); first | (with_reducible first | assumption | exact Mine.nc (by assumption) rfl | exact Nat.le_refl _ | exact Mine.nl (by assumption) (by assumption) | exact Mine.nm (by assumption) (by assumption) | exact Mine.nn (by assumption) (by assumption) | exact Mine.nn (by assumption) (Mine.nc (by assumption) rfl) | exact Mine.nl (by assumption) (Mine.nc (by assumption) rfl) | exact Mine.nm (by assumption) (Mine.nc (by assumption) rfl) | exact Mine.nl (by assumption) (Mine.nl (by assumption) (Mine.nc (by assumption) rfl)) | exact Mine.nl (by assumption) (Mine.nn (by assumption) (Mine.nc (by assumption) rfl)) | exact Mine.nm (by assumption) (Mine.nn (by assumption) (Mine.nc (by assumption) rfl)) | exact Mine.nl (by assumption) (Mine.nm (by assumption) (Mine.nc (by assumption) rfl)) | exact Mine.nm (by assumption) (Mine.nl (by assumption) (Mine.nc (by assumption) rfl)) | exact Mine.nm (by assumption) (Mine.nm (by assumption) (Mine.nc (by assumption) rfl)) | exact Nat.le_add_right _ _ | exact Nat.succ_le_succ (by assumption) | exact Nat.le_of_eq (by assumption) | exact Nat.le_of_eq (Eq.symm (by assumption)) | exact Nat.le_succ_of_le (by assumption) | exact Nat.le_of_not_lt (by assumption) | exact Int.toNat_le_toNat (by assumption) | exact Mine.ig (by assumption) (by assumption) rfl | exact Mine.ih (by assumption) (by assumption) rfl | exact And.left (by assumption) | exact And.right (by assumption) | (refine Mine.ie ?_ (by assumption); omega) | (refine Mine.ie' ?_ (by assumption); omega) | (refine Mine.id1 ?_; omega) | (refine Mine.ij ?_; omega) | (refine Mine.ic (by assumption) rfl ?_; omega)) | exact Mine.nz rfl) | fail "no")
  k_with "my own" => (first | assumption | exact Mine.PAt.of (by assumption) (PySem.SameStack.mark _ _) | exact Mine.PAt.of (by assumption) (PySem.SameStack.unmark _ _) | fail "no")
  k_fill
  exact ⟨rfl, rfl⟩
theorem news_cons {g h : Heap} {L : Addr} {a : Addr × Obj} {l : List (Addr × Obj)} : News g L h (a :: l) ↔ (h.get? a.1 = some a.2 ∧ a.1 ≠ L ∧ g.get? a.1 = none) ∧ News g L h l :=
  ⟨fun N => ⟨N _ (.head _), fun p hp => N p (.tail _ hp)⟩, fun ⟨h1, h2⟩ p hp => by
    rcases List.mem_cons.mp hp with rfl | hp
    · exact h1
    · exact h2 p hp⟩
theorem news_app {g h : Heap} {L : Addr} {l l' : List (Addr × Obj)} : News g L h (l ++ l') ↔ News g L h l ∧ News g L h l' :=
  ⟨fun N => ⟨fun p hp => N p (List.mem_append_left _ hp), fun p hp => N p (List.mem_append_right _ hp)⟩, fun ⟨h1, h2⟩ p hp => by
    rcases List.mem_append.mp hp with hp | hp
    · exact h1 p hp
    · exact h2 p hp⟩
theorem use_newl {w : World} {base g : Heap} {s : Shared} {L : Addr} {m : Str → Option Value} {news : List (Addr × Obj)} {Q E : Value → Shared → Prop} {dp un dep : Nat} {fr : Option (List Env)} {gd : Option (List Code)} {f : Addr} {args : List Value} {pre : Heap → Prop} {R : List Value → Prop}
    (C : CC w base f args dep pre (fun h v h' => Kp h h' ∧ NewL h h' v R)) (hB : Kp base g) (F : Fr g L s.heap m) (N : News g L s.heap news) (hp : pre s.heap) (hd : dp + dep < recursionLimit) (hu : un + 8 * dep < cLine)
    (h : ∀ r vs n h' tk', R vs → Fr g L h' m → News g L h' ((r, PySem.W.listOf vs.toArray n) :: news) → (∀ p ∈ news, (@Ne Nat p.1 r)) → Kp s.heap h' → Q (.ref r) { s with heap := h', toks := tk' }) :
    wpAny (model pw w) (Ar dp un fr gd) (call (.ref f) args) Q E s :=
  C _ _ _ _ _ _ _ hd hu (hB.trans F.keep) hp fun v h' tk' ⟨k, r, vs, n, e, h1, h2, hR⟩ => by
    subst e
    refine h r vs n h' tk' hR (F.keeps k) (news_cons.mpr ⟨⟨h1, ?_, none_g F h2⟩, N.grown k⟩) (fun p hp q => ?_) k
    · intro q
      have q' : r = L := q
      subst q'
      obtain ⟨o, _, _, e', _⟩ := F.ns
      rw [h2] at e'; cases e'
    · have z := (N p hp).1
      rw [show p.1 = r from q, h2] at z; cases z
theorem places_len {vs : List Value} {xs : List Sg} (h : IntsAre vs (nums (placesF xs))) : vs.length ≤ xs.length + 1 := by
  have h1 := h.length
  unfold nums at h1
  rw [List.length_map] at h1
  unfold placesF at h1
  have h2 := pl_len (breaks st0 xs) 0
  rw [breaks_len] at h2
  split at h1
  · simp at h1; subst h1; simp
  · rw [List.length_append, List.length_singleton] at h1; omega
noncomputable def NewLL (h h' : Heap) (v : Value) (R : List (List Value) → Prop) : Prop := ∃ (r : Addr) (n : Nat) (rs : List (Addr × List Value)), v = .ref r ∧ h'.get? r = some (PySem.W.listOf (rs.map fun p => Value.ref p.1).toArray n) ∧ h.get? r = none ∧ (∀ p ∈ rs, h'.get? p.1 = some (PySem.W.listOf p.2.toArray 0) ∧ h.get? p.1 = none) ∧ R (rs.map (·.2))
noncomputable def CoJ (b3 : List (Addr × Obj)) (vs : List Value) (zs : List (Nat × Nat)) (i : Nat) (ys : List Value) (news : List (Addr × Obj)) : Prop :=
  ∃ rs : List (Addr × List Value), news = b3 ++ rs.map (fun p => (p.1, PySem.W.listOf p.2.toArray 0)) ∧ ys = rs.map (fun p => Value.ref p.1) ∧ rs.map (·.2) = (zs.take i).map fun p => sliceF vs p.1 p.2
theorem pl_sorted : ∀ (bs : List Bool) (i : Nat), (pl i bs ++ [i + bs.length]).Pairwise (· ≤ ·) ∧ ∀ a ∈ pl i bs ++ [i + bs.length], i ≤ a ∧ a ≤ i + bs.length
  | [], i => by simp [pl]
  | b :: r, i => by
    have ⟨h1, h2⟩ := pl_sorted r (i + 1)
    rw [show i + 1 + r.length = i + (b :: r).length from by simp; omega] at h1 h2
    have h2' : ∀ a ∈ pl (i + 1) r ++ [i + (b :: r).length], i ≤ a ∧ a ≤ i + (b :: r).length := fun a ha => ⟨by have := (h2 a ha).1; omega, (h2 a ha).2⟩
    cases b with
    | true =>
      simp only [pl, if_true, List.cons_append]
      refine ⟨List.pairwise_cons.mpr ⟨fun a ha => (h2' a ha).1, h1⟩, fun a ha => ?_⟩
      rcases List.mem_cons.mp ha with rfl | ha
      · exact ⟨Nat.le_refl _, Nat.le_add_right _ _⟩
      · exact h2' a ha
    | false =>
      simp only [pl, Bool.false_eq_true, if_false]
      exact ⟨h1, h2'⟩
theorem places_step {xs : List Sg} {i a b : Nat} (ha : (placesF xs)[i]? = some a) (hb : (placesF xs)[i + 1]? = some b) : a ≤ b ∧ b ≤ xs.length := by
  unfold placesF at ha hb
  by_cases h : xs = []
  · rw [if_pos h] at ha; simp at ha
  · rw [if_neg h] at ha hb
    have ⟨h1, h2⟩ := pl_sorted (breaks st0 xs) 0
    rw [breaks_len, Nat.zero_add] at h1 h2
    obtain ⟨i1, e1⟩ := List.getElem?_eq_some_iff.mp ha
    obtain ⟨i2, e2⟩ := List.getElem?_eq_some_iff.mp hb
    refine ⟨?_, (h2 b (List.mem_of_getElem? hb)).2⟩
    rw [← e1, ← e2]
    exact List.pairwise_iff_getElem.mp h1 i (i + 1) i1 i2 (Nat.lt_succ_self _)
theorem co_end {g h9 : Heap} {s : Shared} {L C Dn D' : Addr} {oC : Obj} {b3 : List (Addr × Obj)} {vs : List Value} {zs : List (Nat × Nat)} {i a b tk9 : Nat} {rs : List (Addr × List Value)} {m : Str → Option Value} {own keep : List (Addr × Obj)} {ws : List Addr} {ys : List Value}
    (hz : zs[i]? = some (a, b)) (F : Fr g L h9 m) (N : News g L h9 ((Dn, PySem.W.listOf ((vs.drop (a : Int).toNat).take ((b : Int).toNat - (a : Int).toNat)).toArray 0) :: (C, oC) :: (D', lst ys) :: (b3 ++ (own ++ rs.map fun p => (p.1, PySem.W.listOf p.2.toArray 0)))))
    (ey : ys = rs.map fun p => Value.ref p.1) (hrs : rs.map (·.2) = (zs.take i).map fun p => sliceF vs p.1 p.2) (off : ∀ p ∈ b3 ++ rs.map (fun p => (p.1, PySem.W.listOf p.2.toArray 0)), p.1 ∉ ws ∧ p.1 ≠ C ∧ p.1 ≠ D') (hn : Dn ∉ ws ∧ Dn ≠ C ∧ Dn ≠ D') (hk : ∀ p ∈ keep, p ∈ b3) :
    PcEnd g L m s own C oC D' (lst ys) ws keep (CoJ b3 vs zs (i + 1) (ys ++ [.ref Dn])) { s with heap := h9, toks := tk9 } := by
  rw [Int.toNat_natCast, Int.toNat_natCast] at N
  simp only [news_cons, news_app] at N
  refine ⟨h9, tk9, b3 ++ (rs ++ [(Dn, (vs.drop a).take (b - a))]).map (fun p => (p.1, PySem.W.listOf p.2.toArray 0)), rfl, F, ?_, ?_, fun p hp => List.mem_append_left _ (hk p hp), ⟨rs ++ [(Dn, (vs.drop a).take (b - a))], rfl, by rw [ey]; simp, ?_⟩⟩
  · simp only [List.map_append, List.map_cons, List.map_nil, news_cons, news_app]
    exact ⟨N.2.2.2.2.1, N.2.1, N.2.2.1, N.2.2.2.1, N.2.2.2.2.2, N.1, News.nil⟩
  · intro p hp
    rw [List.map_append, ← List.append_assoc] at hp
    rcases List.mem_append.mp hp with hp | hp
    · exact off p hp
    · simp at hp; subst hp; exact hn
  · rw [List.map_append, hrs, List.take_add_one, hz, Option.toList_some, List.map_append]; rfl
theorem paired_slices {vs : List Value} {xs : List Sg} (hi : IntsAre vs (xs.map Sg.c)) : ∀ zs : List (Nat × Nat), Paired (fun cvs cl => IntsAre cvs (cl.map Sg.c)) (zs.map fun p => sliceF vs p.1 p.2) (zs.map fun p => sliceF xs p.1 p.2)
  | [] => .nil
  | p :: r => .cons (by unfold sliceF; rw [List.map_take, List.map_drop]; exact (hi.drop _).take _) (paired_slices hi r)
theorem clusters_cc {w : World} {base : Heap} (G : Gr w base) (tl d : Addr) (vs : List Value) (xs : List Sg) (D : DS) (ms : Str → Option MS) (sem : Str → Int → DV) (n : Nat) (hlen : vs.length ≤ 9) (hok : ∀ x ∈ xs, SgOk sem x) :
   CC w base 154 [.ref tl, .ref d] 10 (fun h => h.IsList tl vs.toArray ∧ IntsAre vs (xs.map Sg.c) ∧ DatM w h d D ms sem n)
    (fun h v h' => Kp h h' ∧ NewLL h h' v fun css => Paired (fun cvs cl => IntsAre cvs (cl.map Sg.c)) css (clustersF xs)) := by
  have G' := G
  obtain ⟨X, p, loose, mean, mg, mb, T⟩ := G
  intro dp un fr gd s Q E hdp hun hb hp hret
  obtain ⟨hl, hi, hD⟩ := hp
  w_on
  k_dflt (refine enterC (binds := [(Str.ofString "text", .ref tl), (Str.ofString "data", .ref d), (Str.ofString "is_legacy", .bool false)]) [] X T hb (fun _ h => nomatch h) (by k_is) (by k_is) (by show dp < recursionLimit; omega) (binds_K (X.keeps hb) rfl (by k_is) rfl rfl rfl) rfl (by decide +kernel) (fun E9 Q9 g L h₁ g9s d9r tk0 o9s cells hQ9 hE9 hP9 hA9 hB hG X' T' F' N' Y hL => ?_))
  k_cells Y
  try simp only [List.cons_append, List.nil_append] at N'
  try dsimp only
  have hk : Kp s.heap g := fun b o e => hG _ _ e (fun h => nomatch h)
  have hl' : g.IsList tl vs.toArray := hl.at fun o e => hk _ _ e
  have P := hD.keep hk
  have hlx : xs.length = vs.length := by have := hi.length; rw [List.length_map] at this; omega
  k_unmd
  try k_fold
  k_with "call ref" => ((with_reducible show wpAny _ _ (PySem.call (Value.ref 148) _ _) _ _ _); (refine' use_newl (places_cc G' tl d vs xs D ms sem n hlen hok) hB ?kF ?kN ?kp ?kd ?ku ?_); (case kF => k_asm); (case kN => k_asm); (case kp => exact ⟨hl'.at fun o e => Fr.keep (by k_asm) _ _ e, hi, P.keep (Fr.keep (by k_asm))⟩); (case kd => k_dflt (exact lim1 hdp rfl)); (case ku => k_dflt (exact lim3 hun rfl)); intro r9 vs9 n9 h9 tk9 hR9 F9 N9 ne9 kp9; (have hz9 := places_len hR9); (clear kp9); (try dsimp only); k_sweep)
  k_with "subscriptTail Name Slice ref ref" => (k_here; k_dflt (refine' sl_from (vs := vs9) ?F ?N ?l ?k ?_ ?s ?t ?z; (case F => k_asm); (case N => k_asm); (case l => kmk_list); (case k => omega); (case s => with_unfolding_all rfl); (case t => kmk_pure); (case z => omega)); intro D' h' F' N' l1; (try dsimp only); (try k_sweep))
  k_with "eval ListComp" => (k_here; lcg_calm; k_dflt (refine pc_ListComp (c := none) (L := L) (by k_asm) (by with_unfolding_all rfl) (by decide) (by rfl) (by decide) (by rfl) (by rfl) (by decide +kernel) ?_ (by intro _; rfl)))
  k_with "call type:zip" => ((with_reducible show wpAny _ _ (call (Value.type _) [Value.ref _, Value.ref _]) (PcSrc _ _ _ _ _ _ _ _ _ _ _ _ _ _ _ _ _ _) _ _); refine Hold.out ?_)
  k_steps
  all_goals (try ((with_reducible refine hQ9 _ _ _ ?_); (try dsimp only)))
  rename Fr _ _ _ _ => F2
  rename News _ _ _ _ => N2
  rename (_ : Obj).data = Data.cell _ => hoc
  rename Obj => oc
  have hgt : ∀ (i : Nat) v₁ v₂, vs9[i]? = some v₁ → (vs9.drop (1 : Int).toNat)[i]? = some v₂ → ∃ (a b : Nat) (t u : Tok), v₁ = .int a t ∧ v₂ = .int b u ∧ (placesF xs)[i]? = some a ∧ (placesF xs)[i + 1]? = some b := fun i v₁ v₂ h1 h2 => by
    have h2' : vs9[i + 1]? = some v₂ := by rw [← h2, List.getElem?_drop]; congr 1; exact Nat.add_comm _ _
    have key : ∀ (j : Nat) v, vs9[j]? = some v → ∃ (a : Nat) (t : Tok), v = .int a t ∧ (placesF xs)[j]? = some a := fun j v hv => by
      have hl9 := hR9.length
      have hj : j < (nums (placesF xs)).length := by have := (List.getElem?_eq_some_iff.mp hv).1; omega
      obtain ⟨t, ht⟩ := hR9.get j _ (List.getElem?_eq_getElem hj)
      rw [hv] at ht
      refine ⟨(placesF xs)[j]'(by unfold nums at hj; simpa using hj), t, ?_, by simp⟩
      rw [Option.some.inj ht]; simp [nums]
    obtain ⟨a, t, e1, e2⟩ := key i v₁ h1
    obtain ⟨b, u, e3, e4⟩ := key (i + 1) v₂ h2'
    exact ⟨a, b, t, u, e1, e3, e2, e4⟩
  refine pc_zip (xs := vs9) (ys := vs9.drop (1 : Int).toNat) (by rfl) F2 N2 (.tail _ (.head _)) rfl rfl (.head _) rfl rfl (by omega) (CoJ _ vs ((placesF xs).zip (placesF xs).tail)) ⟨[], (List.append_nil _).symm, rfl, by simp⟩ (fun gh I => ?_) (fun gh ys news' hJ => ?_)
  · rintro i _ _ v₁ v₂ own C oC Dd m₂ h tk E' hil ⟨hv1, hv2⟩ ⟨rs, rfl, rfl, hrs⟩ how hoC ha hb2 F N off hCw hDw hCD hkp
    obtain ⟨a, b, t, u, rfl, rfl, hpa, hpb⟩ := hgt i v₁ v₂ hv1 hv2
    obtain ⟨hab, hbl⟩ := places_step hpa hpb
    have N5 : News g L h ((C, oC) :: (Dd, lst (rs.map fun p => Value.ref p.1)) :: (D', PySem.W.listOf (vs9.drop (1 : Int).toNat).toArray 0) :: (r9, PySem.W.listOf vs9.toArray n9) :: (L + 1, oc) :: (own ++ rs.map fun p => (p.1, PySem.W.listOf p.2.toArray 0))) := by
      simp only [news_cons, news_app, List.cons_append, List.nil_append] at N ⊢
      exact ⟨N.2.1, N.2.2.1, N.2.2.2.1, N.2.2.2.2.1, N.2.2.2.2.2.1, N.1, N.2.2.2.2.2.2⟩
    clear N
    show wpAny _ _ _ _ _ _
    k_with "subscriptTail Name Slice ref ref" => (k_here; k_dflt (refine' sl_run (vs := vs) (x := (a : Int)) (y := (b : Int)) ?F ?N ?l ?k ?k2 ?k3 ?_ ?s ?t ?z; (case F => k_asm); (case N => k_asm); (case l => is_list); (case k => omega); (case k2 => omega); (case k3 => omega); (case s => with_unfolding_all rfl); (case t => kmk_pure); (case z => omega)); intro D9 h9 F9 N9 l9; (try dsimp only); (try k_sweep))
    k_steps
    all_goals (try ((with_reducible refine hQ9 _ _ _ ?_); (try dsimp only)))
    refine co_end (a := a) (b := b) (rs := rs) (b3 := [(D', PySem.W.listOf (vs9.drop (1 : Int).toNat).toArray 0), (r9, PySem.W.listOf vs9.toArray n9), (L + 1, oc)]) ?_ F9 N9 rfl hrs off ⟨fun q => ?_, ?_, ?_⟩ ?_
    · rw [List.getElem?_zip_eq_some]
      exact ⟨hpa, by rw [List.getElem?_tail]; exact hpb⟩
    · rw [← how] at q
      obtain ⟨p, hp, e⟩ := List.mem_map.mp q
      have z := l9 p (.tail _ (.tail _ (.tail _ (.tail _ (.tail _ (List.mem_append_left _ hp))))))
      have e' : p.1 = D9 := e
      rw [e'] at z
      exact Nat.lt_irrefl _ z
    · exact (Nat.ne_of_lt (l9 (C, oC) (.head _))).symm
    · exact (Nat.ne_of_lt (l9 (Dd, lst (rs.map fun p => Value.ref p.1)) (.tail _ (.head _)))).symm
    · intro p hp
      rcases List.mem_cons.mp hp with rfl | hp
      · exact .tail _ (.head _)
      · rw [List.mem_singleton.mp hp]; exact .head _
  · intro Df h tk F N off
    obtain ⟨rs, rfl, rfl, hrs⟩ := hJ
    try dsimp only
    have el : min vs9.length (List.drop (1 : Int).toNat vs9).length = ((placesF xs).zip (placesF xs).tail).length := by
      have h1 := hR9.length
      unfold nums at h1
      rw [List.length_map] at h1
      rw [List.length_zip, List.length_drop, List.length_tail, h1]; rfl
    rw [el, List.take_length] at hrs
    have N' : News g L h ((Df, PySem.W.listOf (rs.map fun p => Value.ref p.1).toArray (rs.map fun p => Value.ref p.1).length) :: ([(D', PySem.W.listOf (vs9.drop (1 : Int).toNat).toArray 0), (r9, PySem.W.listOf vs9.toArray n9), (L + 1, oc)] ++ rs.map (fun p => (p.1, PySem.W.listOf p.2.toArray 0)))) := N
    have zr : ∀ p ∈ rs, h.get? p.1 = some (PySem.W.listOf p.2.toArray 0) ∧ s.heap.get? p.1 = none := fun p hp => by
      have z := N' (p.1, PySem.W.listOf p.2.toArray 0) (.tail _ (List.mem_append_right _ (List.mem_map_of_mem (f := fun p : Addr × List Value => (p.1, PySem.W.listOf p.2.toArray 0)) hp)))
      exact ⟨z.1, base_none hk z.2.2⟩
    with_reducible refine hQ9 _ _ _ ?_
    try dsimp only
    refine hret _ _ _ ⟨hk.trans F.keep, Df, _, rs, rfl, (N' _ (.head _)).1, base_none hk (N' _ (.head _)).2.2, zr, ?_⟩
    rw [hrs]
    exact paired_slices hi _
end Mine

end

section
open PySem PySem.W PyProof.Rows PySem.Calls PyProof.Rows.LCg
namespace Mine
set_option maxRecDepth 100000
set_option maxHeartbeats 0
theorem fill21 : PySem.Challenge.rw_pb0596_01.foot = 6 ∧ K9 = K9 := by
  k_with_none
  k_with "my ne" => (first | (with_reducible first | assumption | exact Ne.symm (by assumption) | exact Mine.nr1 (by assumption) | exact Mine.ns1 (by assumption) | exact Mine.nt1 (by assumption) | exact Mine.nu1 (by assumption) | exact Mine.nr2 (by assumption) | exact Mine.ns2 (by assumption) | exact Mine.nt2 (by assumption) | exact Mine.nu2 (by assumption) | exact Mine.nr3 (by assumption) | exact Mine.ns3 (by assumption) | exact Mine.nt3 (by assumption) | exact Mine.nu3 (by assumption) | exact Mine.nr4 (by assumption) | exact Mine.ns4 (by assumption) | exact Mine.nt4 (by assumption) | exact Mine.nu4 (by assumption) | exact Mine.nr5 (by assumption) | exact Mine.ns5 (by assumption) | exact Mine.nt5 (by assumption) | exact Mine.nu5 (by assumption) | exact Mine.nr6 (by assumption) | exact Mine.ns6 (by assumption) | exact Mine.nt6 (by assumption) | exact Mine.nu6 (by assumption) | exact Mine.nr7 (by assumption) | exact Mine.ns7 (by assumption) | exact Mine.nt7 (by assumption) | exact Mine.nu7 (by assumption) | exact Mine.nr8 (by assumption) | exact Mine.ns8 (by assumption) | exact Mine.nt8 (by assumption) | exact Mine.nu8 (by assumption) | exact Mine.nr9 (by assumption) | exact Mine.ns9 (by assumption) | exact Mine.nr10 (by assumption) | exact Mine.ns10 (by assumption) | exact Mine.nr11 (by assumption) | exact Mine.ns11 (by assumption) | exact Mine.nr12 (by assumption) | exact Mine.ns12 (by assumption) | exact Mine.nw1 (by assumption) | exact Mine.nw2 (by assumption) | exact Mine.nw3 (by assumption) | exact Mine.nw4 (by assumption) | exact Mine.nw5 (by assumption) | exact Mine.nw6 (by assumption) | exact Mine.nk1 (by assumption) | exact Mine.nk2 (by assumption) | exact Mine.nk3 (by assumption) | exact Mine.nk4 (by assumption)) | fail "no")
  k_with "my om" => (first | ((with_reducible show @Eq Int _ _); with_reducible first | assumption | exact Eq.symm (by assumption) | exact Int.toNat_of_nonneg (by assumption)) | fail "no")
  k_with "my om" => (first | ((with_reducible show And (@LE.le Int _ _ _) _); with_reducible first | assumption | (refine Mine.i2 (by assumption) ?_; omega) | (refine Mine.i2' (by assumption) ?_; omega)) | fail "no")
  k_with "my om" => (first | ((with_reducible show @LT.lt Int _ _ _); first | (with_reducible first | assumption | exact Mine.i1' (by assumption) | exact Int.ofNat_lt.mpr (by assumption) | exact And.left (by assumption) | exact And.right (by assumption) | exact Int.lt_of_not_le (by assumption)) | decide +kernel) | fail "no")
  k_with "my om" => (first | ((with_reducible show @LE.le Int _ _ _); first | (with_reducible first | assumption | exact Int.natCast_nonneg _ | exact Int.le_refl _ | exact Mine.i1 _ | exact Int.ofNat_le.mpr (by assumption) | exact Mine.i6 (by assumption) (by assumption) | (refine Mine.i7 ?_; omega) | exact And.left (by assumption) | exact And.right (by assumption) | exact Int.le_of_not_lt (by assumption) | exact Int.le_of_lt (by assumption)) | decide +kernel) | fail "no")
  k_with "my om" => (first | ((with_reducible show @Eq Nat _ _); with_reducible first | assumption | exact Eq.symm (by assumption) | exact Mine.i5 (by assumption) | exact Mine.i4 _ | exact Mine.i3 _ | exact Eq.symm (Mine.i4 _) | exact Nat.add_sub_cancel_left .. | exact Nat.min_eq_left (by assumption) | exact Eq.trans (by assumption) (by assumption) | exact Eq.trans (Eq.symm (by assumption)) (by assumption) | exact Eq.trans (by assumption) (Eq.symm (by assumption))) | fail "no")
  k_with "my om" => (first | ((with_reducible show @LT.lt Nat _ _ _); with_reducible first | assumption | exact Mine.np (by assumption) | exact Mine.nq (by assumption) rfl | exact Mine.nv (by assumption) rfl | exact Mine.ia (by assumption) (by assumption) | exact Mine.ib (by assumption) (by assumption) | exact Nat.lt_of_lt_of_le (by assumption) (by assumption) | exact Nat.succ_lt_succ (by assumption) | exact And.left (by assumption) | exact And.right (by assumption) | exact Nat.lt_of_not_le (by assumption) | exact Mine.ia (Mine.ia (by assumption) (by assumption)) (by assumption) | exact Mine.ib (Mine.ia (by assumption) (by assumption)) (by assumption) | exact Mine.ia (Mine.ib (by assumption) (by assumption)) (by assumption) | exact Mine.ib (Mine.ib (by assumption) (by assumption)) (by assumption)) | fail "no")
  k_with "my om" => (first | ((with_reducible show @LE.le Nat _ _ _); first | (with_reducible first | assumption | exact Mine.nc (by assumption) rfl | exact Nat.le_refl _ | exact Mine.nl (by assumption) (by assumption) | exact Mine.nm (by assumption) (by assumption) | exact Mine.nn (by assumption) (by assumption) | exact Mine.nn (by assumption) (Mine.nc (by assumption) rfl) | exact Mine.nl (by assumption) (Mine.nc (by assumption) rfl) | exact Mine.nm (by assumption) (Mine.nc (by assumption) rfl) | exact Mine.nl (by assumption) (Mine.nl (by assumption) (Mine.nc (by assumption) rfl)) | exact Mine.nl (by assumption) (Mine.nn (by assumption) (Mine.nc (by assumption) rfl)) | exact Mine.nm (by assumption) (Mine.nn (by assumption) (Mine.nc (by assumption) rfl)) | exact Mine.nl (by assumption) (Mine.nm (by assumption) (Mine.nc (by assumption) rfl)) | exact Mine.nm (by assumption) (Mine.nl (by assumption) (Mine.nc (by assumption) rfl)) | exact Mine.nm (by assumption) (Mine.nm (by assumption) (Mine.nc (by assumption) rfl)) | exact Nat.le_add_right _ _ | exact Nat.succ_le_succ (by assumption) | exact Nat.le_of_eq (by assumption) | exact Nat.le_of_eq (Eq.symm (by assumption)) | exact Nat.le_succ_of_le (by assumption) | exact Nat.le_of_not_lt (by assumption) | exact Int.toNat_le_toNat (by assumption) | exact Mine.ig (by assumption) (by assumption) rfl | exact Mine.ih (by assumption) (by assumption) rfl | exact And.left (by assumption) | exact And.right (by assumption) | (refine Mine.ie ?_ (by assumption); omega) | (refine Mine.ie' ?_ (by assumption); omega) | (refine Mine.id1 ?_; omega) | (refine Mine.ij ?_; omega) | (refine Mine.ic (by assumption) rfl ?_; omega)) | exact Mine.nz rfl) | fail "no")
  k_with "my own" => (first | assumption | exact Mine.PAt.of (by assumption) (PySem.SameStack.mark _ _) | exact Mine.PAt.of (by assumption) (PySem.SameStack.unmark _ _) | fail "no")
  k_fill
  k_with "my inst" => (first | exact InstAt.up (by assumption) (Fr.keep (by k_asm)) | fail "no")
  exact ⟨rfl, rfl⟩
theorem in_tup_is {prog : Program} {w : World} {A : Around} {E : Value → Shared → Prop} {s : Shared} {t : Addr} {items : Array Value} {ys : List Str} {x : Str} {u : Tok} {Q : Value → Shared → Prop} {b : Bool} (ht : IsTup s.heap t items) (hi : StrsAre items.toList ys) (hb : (ys.any (· == x)) = b) (h : Q (.bool b) s) :
    wpAny (model prog w) A (compareOp .In (.str x u) (.ref t)) Q E s := in_tuple_strs ht hi (by rw [hb]; exact h)
theorem int_is {k k' : Int} {t : Tok} (h : k' = k) : ∃ u, Value.int k t = Value.int k' u := ⟨t, by rw [h]⟩
theorem ccol_cc {w : World} {base : Heap} (G : Gr w base) (d : Addr) (D : DS) (ms : Str → Option MS) (sem : Str → Int → DV) (n : Nat) (x : Sg) (t : Tok) (wide : Bool) (ok : SgOk sem x) (hr : refused x = false) :
   CC w base 164 [.int x.c t, .ref d, .bool wide] 4 (fun h => DatM w h d D ms sem n) (fun h v h' => Kp h h' ∧ ∃ u, v = .int (colF wide x) u) := by
  have G' := G
  obtain ⟨X, p, loose, mean, mg, mb, T⟩ := G
  intro dp un fr gd s Q E hdp hun hb hp hret
  w_on
  k_dflt (refine enter (binds := [(Str.ofString "code", .int x.c t), (Str.ofString "data", .ref d), (Str.ofString "is_wide_ambiguous", .bool wide)]) [] X T hb (fun _ h => nomatch h) (by k_is) (by k_is) (by show dp < recursionLimit; omega) (binds_K (X.keeps hb) rfl (by k_is) rfl rfl rfl) (locs rfl) (fun E9 Q9 g L h₁ g9s d9r t9k o9s hQ9 hE9 hP9 hA9 hB hG X' T' F' N' hL => ?_))
  try dsimp only
  have hk : Kp s.heap g := fun b o e => hG _ _ e (fun h => nomatch h)
  have P := hp.keep hk
  have I' := P.inst
  obtain ⟨a1, a2, a3, a4, hT1⟩ := tup155 X'
  obtain ⟨b1, b2, hT2⟩ := tup156 X'
  k_unmd
  try k_fold
  k_with "call ref" => ((with_reducible show wpAny _ _ (PySem.call (Value.ref 281) [_, Value.str (Str.ofString "gc") _, _] _) _ _ _); (refine' use_pure (get_str G' d D ms sem n (S "gc") _ x.c _ x.gc (by decide +kernel) (by decide +kernel) ok.lo ok.is_.gc) hB ?kF ?kN ?kp ?kd ?ku ?_); (case kF => k_asm); (case kN => k_asm); (case kp => exact P.keep (Fr.keep (by k_asm))); (case kd => k_dflt (exact lim1 hdp rfl)); (case ku => k_dflt (exact lim3 hun rfl)); intro v9 h9 tk9 hR9 hk9 F9 N9; (obtain ⟨t9, e9⟩ := hR9); subst e9; k_sweep)
  k_with "call ref" => ((with_reducible show wpAny _ _ (PySem.call (Value.ref 281) [_, Value.str (Str.ofString "ea") _, _] _) _ _ _); (refine' use_pure (get_str G' d D ms sem n (S "ea") _ x.c _ x.ea (by decide +kernel) (by decide +kernel) ok.lo ok.is_.ea) hB ?kF ?kN ?kp ?kd ?ku ?_); (case kF => k_asm); (case kN => k_asm); (case kp => exact P.keep (Fr.keep (by k_asm))); (case kd => k_dflt (exact lim1 hdp rfl)); (case ku => k_dflt (exact lim3 hun rfl)); intro v9 h9 tk9 hR9 hk9 F9 N9; (obtain ⟨t9, e9⟩ := hR9); subst e9; k_sweep)
  k_with "call ref" => ((with_reducible show wpAny _ _ (PySem.call (Value.ref 281) [_, Value.str (Str.ofString "di") _, _] _) _ _ _); (refine' use_pure (get_bool G' d D ms sem n (S "di") _ x.c _ x.di (by decide +kernel) (by decide +kernel) ok.lo ok.is_.di) hB ?kF ?kN ?kp ?kd ?ku ?_); (case kF => k_asm); (case kN => k_asm); (case kp => exact P.keep (Fr.keep (by k_asm))); (case kd => k_dflt (exact lim1 hdp rfl)); (case ku => k_dflt (exact lim3 hun rfl)); intro v9 h9 tk9 e9 hk9 F9 N9; subst e9; k_sweep)
  k_with "compareOp In str ref" => ((with_reducible show wpAny _ _ (compareOp _ _ (Value.ref 155)) _ _ _); with_unfolding_all refine' in_tup_is (b := false) ?k1 ?k2 hr ?_; (case k1 => exact tupUp (by assumption) (by k_asm)); (case k2 => kde_strs); k_whole)
  k_with "compareOp In str ref" => ((with_reducible show wpAny _ _ (compareOp _ _ (Value.ref 156)) _ _ _); with_unfolding_all refine' in_tuple_strs ?k1 ?k2 ?_; (case k1 => exact tupUp (by assumption) (by k_asm)); (case k2 => kde_strs); k_whole)
  k_steps
  all_goals (try ((with_reducible refine hQ9 _ _ _ ?_); (try dsimp only)))
  all_goals (try dsimp only)
  all_goals (refine pure_end (s := s) (R := fun v => ∃ u, v = .int (colF wide x) u) hret hG (by assumption) ?_)
  all_goals ((try dsimp only); refine int_is ?_; clear hret)
  all_goals (simp_all [colF, isin, S, bne])
end Mine

end

section
open PySem PySem.W PyProof.Rows PySem.Calls PyProof.Rows.LCg
namespace Mine
set_option maxRecDepth 100000
set_option maxHeartbeats 0
theorem fillX4 : PySem.Challenge.rw_pb0596_01.foot = 6 ∧ K9 = K9 := by
  k_with_none
  k_with "my ne" => (first | (with_reducible first | assumption | exact Ne.symm (by assumption) | exact Mine.nr1 (by assumption) | exact Mine.ns1 (by assumption) | exact Mine.nt1 (by assumption) | exact Mine.nu1 (by assumption) | exact Mine.nr2 (by assumption) | exact Mine.ns2 (by assumption) | exact Mine.nt2 (by assumption) | exact Mine.nu2 (by assumption) | exact Mine.nr3 (by assumption) | exact Mine.ns3 (by assumption) | exact Mine.nt3 (by assumption) | exact Mine.nu3 (by assumption) | exact Mine.nr4 (by assumption) | exact Mine.ns4 (by assumption) | exact Mine.nt4 (by assumption) | exact Mine.nu4 (by assumption) | exact Mine.nr5 (by assumption) | exact Mine.ns5 (by assumption) | exact Mine.nt5 (by assumption) | exact Mine.nu5 (by assumption) | exact Mine.nr6 (by assumption) | exact Mine.ns6 (by assumption) | exact Mine.nt6 (by assumption) | exact Mine.nu6 (by assumption) | exact Mine.nr7 (by assumption) | exact Mine.ns7 (by assumption) | exact Mine.nt7 (by assumption) | exact Mine.nu7 (by assumption) | exact Mine.nr8 (by assumption) | exact Mine.ns8 (by assumption) | exact Mine.nt8 (by assumption) | exact Mine.nu8 (by assumption) | exact Mine.nr9 (by assumption) | exact Mine.ns9 (by assumption) | exact Mine.nr10 (by assumption) | exact Mine.ns10 (by assumption) | exact Mine.nr11 (by assumption) | exact Mine.ns11 (by assumption) | exact Mine.nr12 (by assumption) | exact Mine.ns12 (by assumption) | exact Mine.nw1 (by assumption) | exact Mine.nw2 (by assumption) | exact Mine.nw3 (by assumption) | exact Mine.nw4 (by assumption) | exact Mine.nw5 (by assumption) | exact Mine.nw6 (by assumption) | exact Mine.nk1 (by assumption) | exact Mine.nk2 (by assumption) | exact Mine.nk3 (by assumption) | exact Mine.nk4 (by assumption)) | fail "no")
  k_with "my om" => (first | ((with_reducible show @Eq Int _ _); with_reducible first | assumption | exact Eq.symm (by assumption) | exact Int.toNat_of_nonneg (by assumption)) | fail "no")
  k_with "my om" => (first | ((with_reducible show And (@LE.le Int _ _ _) _); with_reducible first | assumption | (refine Mine.i2 (by assumption) ?_; omega) | (refine Mine.i2' (by assumption) ?_; omega)) | fail "no")
  k_with "my om" => (first | ((with_reducible show @LT.lt Int _ _ _); first | (with_reducible first | assumption | exact Mine.i1' (by assumption) | exact Int.ofNat_lt.mpr (by assumption) | exact And.left (by assumption) | exact And.right (by assumption) | exact Int.lt_of_not_le (by assumption)) | decide +kernel) | fail "no")
  k_with "my om" => (first | ((with_reducible show @LE.le Int _ _ _); first | (with_reducible first | assumption | exact Int.natCast_nonneg _ | exact Int.le_refl _ | exact Mine.i1 _ | exact Int.ofNat_le.mpr (by assumption) | exact Mine.i6 (by assumption) (by assumption) | (refine Mine.i7 ?_; omega) | exact And.left (by assumption) | exact And.right (by assumption) | exact Int.le_of_not_lt (by assumption) | exact Int.le_of_lt (by assumption)) | decide +kernel) | fail "no")
  k_with "my om" => (first | ((with_reducible show @Eq Nat _ _); with_reducible first | assumption | exact Eq.symm (by assumption) | exact Mine.i5 (by assumption) | exact Mine.i4 _ | exact Mine.i3 _ | exact Eq.symm (Mine.i4 _) | exact Nat.add_sub_cancel_left .. | exact Nat.min_eq_left (by assumption) | exact Eq.trans (by assumption) (by assumption) | exact Eq.trans (Eq.symm (by assumption)) (by assumption) | exact Eq.trans (by assumption) (Eq.symm (by assumption))) | fail "no")
  k_with "my om" => (first | ((with_reducible show @LT.lt Nat _ _ _); with_reducible first | assumption | exact Mine.np (by assumption) | exact Mine.nq (by assumption) rfl | exact Mine.nv (by assumption) rfl | exact Mine.ia (by assumption) (by assumption) | exact Mine.ib (by assumption) (by assumption) | exact Nat.lt_of_lt_of_le (by assumption) (by assumption) | exact Nat.succ_lt_succ (by assumption) | exact And.left (by assumption) | exact And.right (by assumption) | exact Nat.lt_of_not_le (by assumption) | exact Mine.ia (Mine.ia (by assumption) (by assumption)) (by assumption) | exact Mine.ib (Mine.ia (by assumption) (by assumption)) (by assumption) | exact Mine.ia (Mine.ib (by assumption) (by assumption)) (by assumption) | exact Mine.ib (Mine.ib (by assumption) (by assumption)) (by assumption)) | fail "no")
  k_with "my om" => (first | ((with_reducible show @LE.le Nat _ _ _); first | (with_reducible first | assumption | exact Mine.nc (by assumption) rfl | exact Nat.le_refl _ | exact Mine.nl (by assumption) (by assumption) | exact Mine.nm (by assumption) (by assumption) | exact Mine.nn (by assumption) (by assumption) | exact Mine.nn (by assumption) (Mine.nc (by assumption) rfl) | exact Mine.nl (by assumption) (Mine.nc (by assumption) rfl) | exact Mine.nm (by assumption) (Mine.nc (by assumption) rfl) | exact Mine.nl (by assumption) (Mine.nl (by assumption) (Mine.nc (by assumption) rfl)) | exact Mine.nl (by assumption) (Mine.nn (by assumption) (Mine.nc (by assumption) rfl)) | exact Mine.nm (by assumption) (Mine.nn (by assumption) (Mine.nc (by assumption) rfl)) | exact Mine.nl (by assumption) (Mine.nm (by assumption) (Mine.nc (by assumption) rfl)) | exact Mine.nm (by assumption) (Mine.nl (by assumption) (Mine.nc (by assumption) rfl)) | exact Mine.nm (by assumption) (Mine.nm (by assumption) (Mine.nc (by assumption) rfl)) | exact Nat.le_add_right _ _ | exact Nat.succ_le_succ (by assumption) | exact Nat.le_of_eq (by assumption) | exact Nat.le_of_eq (Eq.symm (by assumption)) | exact Nat.le_succ_of_le (by assumption) | exact Nat.le_of_not_lt (by assumption) | exact Int.toNat_le_toNat (by assumption) | exact Mine.ig (by assumption) (by assumption) rfl | exact Mine.ih (by assumption) (by assumption) rfl | exact And.left (by assumption) | exact And.right (by assumption) | (refine Mine.ie ?_ (by assumption); omega) | (refine Mine.ie' ?_ (by assumption); omega) | (refine Mine.id1 ?_; omega) | (refine Mine.ij ?_; omega) | (refine Mine.ic (by assumption) rfl ?_; omega)) | exact Mine.nz rfl) | fail "no")
  k_with "my own" => (first | assumption | exact Mine.PAt.of (by assumption) (PySem.SameStack.mark _ _) | exact Mine.PAt.of (by assumption) (PySem.SameStack.unmark _ _) | fail "no")
  k_fill
  k_with "my inst" => (first | exact InstAt.up (by assumption) (Fr.keep (by k_asm)) | fail "no")
  exact ⟨rfl, rfl⟩
noncomputable def Threw (h : Heap) (outer : List Env) (e : Addr) (h' : Heap) : Prop :=
  ∃ B a0, (∀ b o, h.get? b = some o → b ∉ outer.filterMap (·.frame) → B.get? b = some o) ∧ Heap.FlyingW B outer e (.ref 52) a0 h' ∧ h.UpToSlots h'
noncomputable def CX (w : World) (base : Heap) (f : Addr) (args : List Value) (dep : Nat) (pre : Heap → Prop) : Prop :=
  ∀ (dp un : Nat) (outer : List Env) (gd : Option (List Code)) (s : Shared) (Q E : Value → Shared → Prop), dp + dep < recursionLimit → un + 8 * dep < cLine → Kp base s.heap → pre s.heap → s.heap.FunFrames base outer →
    (∀ e h' tk', Threw s.heap outer e h' → E (.ref e) { s with heap := h', toks := tk' }) → wpAny (model pw w) (Ar dp un (some outer) gd) (call (.ref f) args) Q E s
theorem frames_at {base H h g : Heap} {outer : List Env} {L a : Addr} {m : Str → Option Value} {name : Str} {scope : Scope} {cd : Value} (FF : H.FunFrames base outer) (k : Kp H h) (F : Fr g L h m) (hL : base.get? L = none) (hk : scope.kind = .function) : h.FunFrames base (envOf name scope L a cd :: outer) :=
  .cons (by show scope.kind ≠ .module; rw [hk]; decide) rfl F.ns hL (FF.of_keeps fun b o e _ => ⟨o, k b o e, rfl⟩)
theorem frame_in (l : List Env) : ∀ env ∈ l, ∀ b, env.frame = some b → b ∈ l.filterMap (·.frame) := fun env he _ hb => List.mem_filterMap.mpr ⟨env, he, hb⟩
theorem pk_B : ∀ w : World, mroIn (K9 w.params) 52 (.type "BaseException") = some true := by intro w; kernel_rfl
theorem pk_meta : ∀ w : World, peek (K9 w.params) (st9 w) (typeOf (.ref 52)) = some (.type "type") := by intro w; kernel_rfl
theorem threw_first {M : Model} {A : Around} {E : Value → Shared → Prop} {s' : Shared} {base H g h : Heap} {outer : List Env} {L a e : Addr} {m : Str → Option Value} {name : Str} {scope : Scope} {cd : Value} {Q : Unit → Shared → Prop}
    (hA : A.frames = some outer) (FF : H.FunFrames base outer) (k : Kp H h) (F : Fr g L h m) (hL : H.get? L = none) (hB : Kp base H) (hx : MadeE h s'.heap e) (hQ : ∀ h', Threw H outer e h' → Q () { s' with heap := h' }) (hk : scope.kind = .function := by rfl) :
    wpAny M (A.deeper (envOf name scope L a cd)) (leaving (envOf name scope L a cd) (.ref e)) Q E s' := by
  obtain ⟨k1, ne, t, d, he⟩ := hx
  have hid : ∀ b o, (hideAll h ((envOf name scope L a cd :: outer).filterMap (·.frame))).get? b = some o → s'.heap.get? b = some o := fun b o q => k1 b o (of_hideAll _ q)
  have FB := (funFrames_hide (frames_at (name := name) (a := a) (cd := cd) FF k F (none_of_sub hB hL) hk) (frame_in _)).of_keeps fun b o q _ => ⟨o, k1 b o q, rfl⟩
  refine wpAny_leaving_firstW (Around.frames_deeper hA) FB rfl he hid (none_of_sub (fun b o q => of_hideAll _ q) ne) rfl (by rfl) (by rfl) fun h' hl => ?_
  obtain ⟨l1, ⟨_, _, l2⟩, l3, l4⟩ := hl
  refine hQ h' ⟨_, _, fun b o q nm => hideAll_get _ (k b o q) fun hm => ?_, ⟨l1, none_of_sub (fun b o q => of_hideAll _ q) ne, l2, l3⟩, ((Heap.UpToSlots.of_keeps k).trans (Heap.UpToSlots.of_keeps k1)).trans l4⟩
  rcases kts_mem hm with z | z
  · rw [z, hL] at q; cases q
  · exact nm z
theorem threw_on {M : Model} {A : Around} {E : Value → Shared → Prop} {s' : Shared} {H g h : Heap} {outer : List Env} {L a e : Addr} {m : Str → Option Value} {name : Str} {scope : Scope} {cd : Value} {Q : Unit → Shared → Prop}
    (hA : A.frames = some outer) (k : Kp H h) (F : Fr g L h m) (hL : H.get? L = none) (hx : Threw h (envOf name scope L a cd :: outer) e s'.heap) (hQ : ∀ h', Threw H outer e h' → Q () { s' with heap := h' }) :
    wpAny M (A.deeper (envOf name scope L a cd)) (leaving (envOf name scope L a cd) (.ref e)) Q E s' := by
  obtain ⟨B, a0, b1, b2, b3⟩ := hx
  refine wpAny_leaves_onW (Around.frames_deeper hA) rfl b2 fun h' x1 x2 => hQ h' ⟨B, a0, fun b o q nm => b1 b o (k b o q) fun hm => ?_, x1, ((Heap.UpToSlots.of_keeps k).trans b3).trans x2⟩
  rcases kts_mem hm with z | z
  · rw [z, hL] at q; cases q
  · exact nm z
noncomputable def RaiseIt (w : World) (E : Value → Shared → Prop) (v : Value) (s : Shared) : Prop := ∃ e t d, v = .ref e ∧ Frag.In (K9 w.params) s.heap ∧ s.heap.get? e = some { cls := .ref 52, dict := some d, data := .fields #[.ref t, .none, .none, .none, .bool false, .none] } ∧ E (.ref e) s
theorem exec_raise {w : World} {A : Around} {E : Value → Shared → Prop} {s : Shared} {env : Env} {x : PySem.Expr} {pos : Pos} {Q : Flow → Shared → Prop} (hh : A.handled = none)
    (h : wpAny (model pw w) A (eval x env) (RaiseIt w E) E s) : wpAny (model pw w) A (exec (.Raise (some x) none pos) env) Q E s := by
  have told : wpAny (model pw w) A (raiseStmt env (some (eval x env >>= fun v => standAt pos >>= fun _ => pure v)) none) Q E s := by
    refine wpAny_bind (wpAny_bind (wpAny_mono h ?_ fun _ _ q => q))
    rintro _ ⟨hp, g, dr, tk, os⟩ ⟨e, t, d, rfl, X, he, hE⟩
    have l1 : PySem.W.Looks (model pw w) hp (typeOf (.ref e)) (.ref 52) := (Looks.ld he).andThen .now
    have l2 : PySem.W.Looks (model pw w) hp (isInstance (.ref e) (.type "BaseException")) true := l1.andThen (looks_mroIn X (pk_B w))
    have l3 : PySem.W.Looks (model pw w) hp (typeOf (.ref 52)) (.type "type") := .of_peek X (pk_meta w)
    refine wpAny_bind (wpAny_standAt (wpAny_pure ?_))
    repeat (first | with_reducible exact wpAny_raiseNew_none hh hE | with_reducible refine Looks.here l2 ?_ | with_reducible refine Looks.here l3 ?_ | with_reducible refine Looks.here l1 ?_ | wp_step)
  rw [arm_exec_Raise]
  exact wpAny_bind (wpAny_standAt told)
theorem ccolx_cc {w : World} {base : Heap} (G : Gr w base) (d : Addr) (D : DS) (ms : Str → Option MS) (sem : Str → Int → DV) (n : Nat) (x : Sg) (t : Tok) (wide : Bool) (ok : SgOk sem x) (hr : refused x = true) :
   CX w base 164 [.int x.c t, .ref d, .bool wide] 4 (fun h => DatM w h d D ms sem n) := by
  have G' := G
  obtain ⟨X, p, loose, mean, mg, mb, T⟩ := G
  intro dp un outer gd s Q E hdp hun hb hp hff hret
  w_on
  k_dflt (refine enter (binds := [(Str.ofString "code", .int x.c t), (Str.ofString "data", .ref d), (Str.ofString "is_wide_ambiguous", .bool wide)]) [] X T hb (fun _ h => nomatch h) (by k_is) (by k_is) (by show dp < recursionLimit; omega) (binds_K (X.keeps hb) rfl (by k_is) rfl rfl rfl) (locs rfl) (fun E9 Q9 g L h₁ g9s d9r t9k o9s hQ9 hE9 hP9 hA9 hB hG X' T' F' N' hL => ?_))
  try dsimp only
  have hk : Kp s.heap g := fun b o e => hG _ _ e (fun h => nomatch h)
  have P := hp.keep hk
  have I' := P.inst
  obtain ⟨a1, a2, a3, a4, hT1⟩ := tup155 X'
  k_unmd
  try k_fold
  k_with "call ref" => ((with_reducible show wpAny _ _ (PySem.call (Value.ref 281) [_, Value.str (Str.ofString "gc") _, _] _) _ _ _); (refine' use_pure (get_str G' d D ms sem n (S "gc") _ x.c _ x.gc (by decide +kernel) (by decide +kernel) ok.lo ok.is_.gc) hB ?kF ?kN ?kp ?kd ?ku ?_); (case kF => k_asm); (case kN => k_asm); (case kp => exact P.keep (Fr.keep (by k_asm))); (case kd => k_dflt (exact lim1 hdp rfl)); (case ku => k_dflt (exact lim3 hun rfl)); intro v9 h9 tk9 hR9 hk9 F9 N9; (obtain ⟨t9, e9⟩ := hR9); subst e9; k_sweep)
  k_with "compareOp In str ref" => ((with_reducible show wpAny _ _ (compareOp _ _ (Value.ref 155)) _ _ _); with_unfolding_all refine' in_tup_is (b := true) ?k1 ?k2 hr ?_; (case k1 => exact tupUp (by assumption) (by k_asm)); (case k2 => kde_strs); k_whole)
  k_with "exec Raise some none" => (k_here; (refine exec_raise rfl ?_); k_whole)
  k_with "call ref" => ((with_reducible show wpAny _ _ (PySem.call (Value.ref 52) _ _) _ _ _); (refine' call_bad G' ?kB ?kd ?ku ?_); (case kB => exact hB.trans (Fr.keep (by k_asm))); (case kd => k_dflt (exact lim1 hdp rfl)); (case ku => k_dflt (exact lim3 hun rfl)); intro h9 e9 tk9 M9)
  k_steps
  all_goals (try ((with_reducible refine hQ9 _ _ _ ?_); (try dsimp only)))
  rename Fr _ _ _ _ => F8
  obtain ⟨k9, ne9, t9, d9, he9⟩ := id M9
  refine ⟨e9, t9, d9, rfl, (X'.keeps F8.keep).keeps k9, he9, ?_⟩
  with_reducible refine hE9 _ _ _ ?_
  try dsimp only
  exact threw_first rfl hff (hk.trans F8.keep) F8 hL hb M9 fun h' hT => hret _ _ _ hT
end Mine

end

section
open PySem PySem.W PyProof.Rows PySem.Calls PyProof.V PySem.Spec PySem.SeqAt
namespace Mine
theorem paired_len {α β : Type} {f : α → β → Prop} : ∀ {l : List α} {m : List β}, Paired f l m → l.length = m.length
  | _, _, .nil => rfl
  | _, _, .cons _ t => congrArg (· + 1) (paired_len t)
theorem paired_get {α β : Type} {f : α → β → Prop} {l : List α} {m : List β} (p : Paired f l m) : ∀ {j : Nat} {a : α} {b : β}, l[j]? = some a → m[j]? = some b → f a b := by
  induction p with
  | nil => exact fun h => nomatch (h : none = some _)
  | cons h _ ih =>
    intro j a b e1 e2
    cases j with
    | zero => cases e1; cases e2; exact h
    | succ j => exact ih e1 e2
section
variable {prog : Program} {w : World} {A : Around} {E : Value → Shared → Prop} {s : Shared}
theorem eq_gen {α : Type} [DecidableEq α] {f : Value → α → Prop} (hf : ∀ v x u y, f v x → f u y → EqAt A.in1 s v u (decide (x = y))) {a b : Addr} {vs us : List Value} {xs ys : List α} {Q : Value → Shared → Prop} (h1 : Paired f vs xs) (h2 : Paired f us ys)
    (hl : s.heap.IsList a vs.toArray) (hb : s.heap.IsList b us.toArray) (hu : A.units < cLine) (h : Q (.bool (decide (xs = ys))) s) : wpAny (model prog w) A (compareOp .Eq (.ref a) (.ref b)) Q E s := by
  have l1 := paired_len h1
  have l2 := paired_len h2
  by_cases hz : xs.length = ys.length
  · refine eq_listAt (e := fun j => decide (xs[j]? = ys[j]?)) hl hb (by simp; omega) hu (fun j j1 j2 => ?_) ?_
    · have j1' : j < vs.length := by simpa using j1
      have j2' : j < us.length := by simpa using j2
      have q1 : xs[j]? = some (xs[j]'(by omega)) := List.getElem?_eq_getElem _
      have q2 : ys[j]? = some (ys[j]'(by omega)) := List.getElem?_eq_getElem _
      have r1 := paired_get h1 (List.getElem?_eq_getElem j1') q1
      have r2 := paired_get h2 (List.getElem?_eq_getElem j2') q2
      have := hf _ _ _ _ r1 r2
      simp only [q1, q2, Option.some.injEq]
      exact this
    · have : ((List.range vs.toArray.size).all fun j => decide (xs[j]? = ys[j]?)) = decide (xs = ys) := by
        rw [Bool.eq_iff_iff, List.all_eq_true, decide_eq_true_iff]
        constructor
        · intro q
          refine List.ext_getElem? fun j => ?_
          by_cases hj : j < xs.length
          · simpa using q j (by simp; omega)
          · rw [List.getElem?_eq_none (by omega), List.getElem?_eq_none (by omega)]
        · rintro rfl j _; simp
      rw [this]; exact h
  · refine eq_list_lengthsAt hl hb (by simp; omega) hu ?_
    have : decide (xs = ys) = false := decide_eq_false fun e => hz (by rw [e])
    rw [this] at h; exact h
noncomputable def strOf (v : Value) (x : Str) : Prop := ∃ t, v = .str x t
noncomputable def intOf (v : Value) (x : Int) : Prop := ∃ t, v = .int x t
theorem eq_strs {a b : Addr} {vs us : List Value} {xs ys : List Str} {Q : Value → Shared → Prop} (h1 : Paired strOf vs xs) (h2 : Paired strOf us ys)
    (hl : s.heap.IsList a vs.toArray) (hb : s.heap.IsList b us.toArray) (hu : A.units < cLine) (h : Q (.bool (decide (xs = ys))) s) : wpAny (model prog w) A (compareOp .Eq (.ref a) (.ref b)) Q E s :=
  eq_gen (f := strOf) (fun v x u y ⟨t, e⟩ ⟨t', e'⟩ => by subst e e'; have := EqAt.str_str (A := A.in1) (s := s) x t y t'; rwa [show (x == y) = decide (x = y) from by rw [Bool.eq_iff_iff]; simp] at this) h1 h2 hl hb hu h
theorem eq_nums {a b : Addr} {vs us : List Value} {xs ys : List Int} {Q : Value → Shared → Prop} (h1 : Paired intOf vs xs) (h2 : Paired intOf us ys)
    (hl : s.heap.IsList a vs.toArray) (hb : s.heap.IsList b us.toArray) (hu : A.units < cLine) (h : Q (.bool (decide (xs = ys))) s) : wpAny (model prog w) A (compareOp .Eq (.ref a) (.ref b)) Q E s :=
  eq_gen (f := intOf) (fun v x u y ⟨t, e⟩ ⟨t', e'⟩ => by subst e e'; have := EqAt.int_int (A := A.in1) (s := s) x t y t'; rwa [show (x == y) = decide (x = y) from by rw [Bool.eq_iff_iff]; simp] at this) h1 h2 hl hb hu h
theorem paired_ints : ∀ {vs : List Value} {ns : List Int}, IntsAre vs ns → Paired intOf vs ns
  | _, _, .nil => .nil
  | _, _, .cons _ _ t => .cons ⟨_, rfl⟩ (paired_ints t)
end
end Mine

end

section
open PySem PySem.W PyProof.Rows PySem.Calls PyProof.Rows.LCg
namespace Mine
set_option maxRecDepth 100000
set_option maxHeartbeats 0
theorem fill22 : PySem.Challenge.rw_pb0596_01.foot = 6 ∧ K9 = K9 := by
  k_with_none
  k_with "my ne" => (first | (with_reducible first | assumption | exact Ne.symm (by assumption) | exact Mine.nr1 (by assumption) | exact Mine.ns1 (by assumption) | exact Mine.nt1 (by assumption) | exact Mine.nu1 (by assumption) | exact Mine.nr2 (by assumption) | exact Mine.ns2 (by assumption) | exact Mine.nt2 (by assumption) | exact Mine.nu2 (by assumption) | exact Mine.nr3 (by assumption) | exact Mine.ns3 (by assumption) | exact Mine.nt3 (by assumption) | exact Mine.nu3 (by assumption) | exact Mine.nr4 (by assumption) | exact Mine.ns4 (by assumption) | exact Mine.nt4 (by assumption) | exact Mine.nu4 (by assumption) | exact Mine.nr5 (by assumption) | exact Mine.ns5 (by assumption) | exact Mine.nt5 (by assumption) | exact Mine.nu5 (by assumption) | exact Mine.nr6 (by assumption) | exact Mine.ns6 (by assumption) | exact Mine.nt6 (by assumption) | exact Mine.nu6 (by assumption) | exact Mine.nr7 (by assumption) | exact Mine.ns7 (by assumption) | exact Mine.nt7 (by assumption) | exact Mine.nu7 (by assumption) | exact Mine.nr8 (by assumption) | exact Mine.ns8 (by assumption) | exact Mine.nt8 (by assumption) | exact Mine.nu8 (by assumption) | exact Mine.nr9 (by assumption) | exact Mine.ns9 (by assumption) | exact Mine.nr10 (by assumption) | exact Mine.ns10 (by assumption) | exact Mine.nr11 (by assumption) | exact Mine.ns11 (by assumption) | exact Mine.nr12 (by assumption) | exact Mine.ns12 (by assumption) | exact Mine.nw1 (by assumption) | exact Mine.nw2 (by assumption) | exact Mine.nw3 (by assumption) | exact Mine.nw4 (by assumption) | exact Mine.nw5 (by assumption) | exact Mine.nw6 (by assumption) | exact Mine.nk1 (by assumption) | exact Mine.nk2 (by assumption) | exact Mine.nk3 (by assumption) | exact Mine.nk4 (by assumption)) | fail "no")
  k_with "my om" => (first | ((with_reducible show @Eq Int _ _); with_reducible first | assumption | exact Eq.symm (by assumption) | exact Int.toNat_of_nonneg (by assumption)) | fail "no")
  k_with "my om" => (first | ((with_reducible show And (@LE.le Int _ _ _) _); with_reducible first | assumption | (refine Mine.i2 (by assumption) ?_; omega) | (refine Mine.i2' (by assumption) ?_; omega)) | fail "no")
  k_with "my om" => (first | ((with_reducible show @LT.lt Int _ _ _); first | (with_reducible first | assumption | exact Mine.i1' (by assumption) | exact Int.ofNat_lt.mpr (by assumption) | exact And.left (by assumption) | exact And.right (by assumption) | exact Int.lt_of_not_le (by assumption)) | decide +kernel) | fail "no")
  k_with "my om" => (first | ((with_reducible show @LE.le Int _ _ _); first | (with_reducible first | assumption | exact Int.natCast_nonneg _ | exact Int.le_refl _ | exact Mine.i1 _ | exact Int.ofNat_le.mpr (by assumption) | exact Mine.i6 (by assumption) (by assumption) | (refine Mine.i7 ?_; omega) | exact And.left (by assumption) | exact And.right (by assumption) | exact Int.le_of_not_lt (by assumption) | exact Int.le_of_lt (by assumption)) | decide +kernel) | fail "no")
  k_with "my om" => (first | ((with_reducible show @Eq Nat _ _); with_reducible first | assumption | exact Eq.symm (by assumption) | exact Mine.i5 (by assumption) | exact Mine.i4 _ | exact Mine.i3 _ | exact Eq.symm (Mine.i4 _) | exact Nat.add_sub_cancel_left .. | exact Nat.min_eq_left (by assumption) | exact Eq.trans (by assumption) (by assumption) | exact Eq.trans (Eq.symm (by assumption)) (by assumption) | exact Eq.trans (by assumption) (Eq.symm (by assumption))) | fail "no")
  k_with "my om" => (first | ((with_reducible show @LT.lt Nat _ _ _); with_reducible first | assumption | exact Mine.np (by assumption) | exact Mine.nq (by assumption) rfl | exact Mine.nv (by assumption) rfl | exact Mine.ia (by assumption) (by assumption) | exact Mine.ib (by assumption) (by assumption) | exact Nat.lt_of_lt_of_le (by assumption) (by assumption) | exact Nat.succ_lt_succ (by assumption) | exact And.left (by assumption) | exact And.right (by assumption) | exact Nat.lt_of_not_le (by assumption) | exact Mine.ia (Mine.ia (by assumption) (by assumption)) (by assumption) | exact Mine.ib (Mine.ia (by assumption) (by assumption)) (by assumption) | exact Mine.ia (Mine.ib (by assumption) (by assumption)) (by assumption) | exact Mine.ib (Mine.ib (by assumption) (by assumption)) (by assumption)) | fail "no")
  k_with "my om" => (first | ((with_reducible show @LE.le Nat _ _ _); first | (with_reducible first | assumption | exact Mine.nc (by assumption) rfl | exact Nat.le_refl _ | exact Mine.nl (by assumption) (by assumption) | exact Mine.nm (by assumption) (by assumption) | exact Mine.nn (by assumption) (by assumption) | exact Mine.nn (by assumption) (Mine.nc (by assumption) rfl) | exact Mine.nl (by assumption) (Mine.nc (by assumption) rfl) | exact Mine.nm (by assumption) (Mine.nc (by assumption) rfl) | exact Mine.nl (by assumption) (Mine.nl (by assumption) (Mine.nc (by assumption) rfl)) | exact Mine.nl (by assumption) (Mine.nn (by assumption) (Mine.nc (by assumption) rfl)) | exact Mine.nm (by assumption) (Mine.nn (by assumption) (Mine.nc (by assumption) rfl)) | exact Mine.nl (by assumption) (Mine.nm (by assumption) (Mine.nc (by assumption) rfl)) | exact Mine.nm (by assumption) (Mine.nl (by assumption) (Mine.nc (by assumption) rfl)) | exact Mine.nm (by assumption) (Mine.nm (by assumption) (Mine.nc (by assumption) rfl)) | exact Nat.le_add_right _ _ | exact Nat.succ_le_succ (by assumption) | exact Nat.le_of_eq (by assumption) | exact Nat.le_of_eq (Eq.symm (by assumption)) | exact Nat.le_succ_of_le (by assumption) | exact Nat.le_of_not_lt (by assumption) | exact Int.toNat_le_toNat (by assumption) | exact Mine.ig (by assumption) (by assumption) rfl | exact Mine.ih (by assumption) (by assumption) rfl | exact And.left (by assumption) | exact And.right (by assumption) | (refine Mine.ie ?_ (by assumption); omega) | (refine Mine.ie' ?_ (by assumption); omega) | (refine Mine.id1 ?_; omega) | (refine Mine.ij ?_; omega) | (refine Mine.ic (by assumption) rfl ?_; omega)) | exact Mine.nz rfl) | fail "no")
  k_with "my own" => (first | assumption | exact Mine.PAt.of (by assumption) (PySem.SameStack.mark _ _) | exact Mine.PAt.of (by assumption) (PySem.SameStack.unmark _ _) | fail "no")
  k_fill
  k_with "my inst" => (first | exact InstAt.up (by assumption) (Fr.keep (by k_asm)) | fail "no")
  exact ⟨rfl, rfl⟩
theorem flag_short {ks : List Sg} (h : ks.length ≤ 1) : flagF ks = false := by
  cases ks with
  | nil => rfl
  | cons x r => cases r with
    | nil => simp [flagF]
    | cons y q => exact absurd h (Nat.not_le.mpr (Nat.succ_lt_succ (Nat.succ_pos _)))
theorem flag_cc {w : World} {base : Heap} (G : Gr w base) (cl d : Addr) (cvs : List Value) (ks : List Sg) (D : DS) (ms : Str → Option MS) (sem : Str → Int → DV) (n : Nat) (hlen : cvs.length ≤ 9) (hok : ∀ x ∈ ks, SgOk sem x) :
   CC w base 169 [.ref cl, .ref d] 4 (fun h => h.IsList cl cvs.toArray ∧ IntsAre cvs (ks.map Sg.c) ∧ DatM w h d D ms sem n) (fun h v h' => Kp h h' ∧ v = .bool (flagF ks)) := by
  have G' := G
  obtain ⟨X, p, loose, mean, mg, mb, T⟩ := G
  intro dp un fr gd s Q E hdp hun hb hp hret
  obtain ⟨hl, hi, hD⟩ := hp
  w_on
  k_dflt (refine enterC (binds := [(Str.ofString "cluster", .ref cl), (Str.ofString "data", .ref d)]) [] X T hb (fun _ h => nomatch h) (by k_is) (by k_is) (by show dp < recursionLimit; omega) (BindsTo.of_eq rfl) rfl (by decide +kernel) (fun E9 Q9 g L h₁ g9s d9r tk0 o9s cells hQ9 hE9 hP9 hA9 hB hG X' T' F' N' Y hL => ?_))
  k_cells Y
  try simp only [List.cons_append, List.nil_append] at N'
  try dsimp only
  have hk : Kp s.heap g := fun b o e => hG _ _ e (fun h => nomatch h)
  have hl' : g.IsList cl cvs.toArray := hl.at fun o e => hk _ _ e
  have P := hD.keep hk
  have I' := P.inst
  k_unmd
  try k_fold
  by_cases hlt : 1 < cvs.length
  · obtain ⟨x, y, r, rfl⟩ : ∃ x y r, ks = x :: y :: r := by
      have h1 := hi.length
      rw [List.length_map] at h1
      match ks, h1 with
      | x :: y :: r, _ => exact ⟨x, y, r, rfl⟩
      | [x], h1 => simp at h1; omega
      | [], h1 => simp at h1; subst h1; simp at hlt
    obtain ⟨t1, t2, rv, rfl⟩ : ∃ t1 t2 rv, cvs = Value.int x.c t1 :: Value.int y.c t2 :: rv := by
      cases hi with
      | cons _ _ h =>
        cases h with
        | cons _ _ h => exact ⟨_, _, _, rfl⟩
    have okx := hok x (.head _)
    have oky := hok y (.tail _ (.head _))
    k_with "call builtin:len" => ((with_reducible show wpAny _ _ (call (Value.builtin "len") [Value.ref _]) _ _ _); (refine' len_any (vs := .int x.c t1 :: .int y.c t2 :: rv) ?l (by omega) ?_); (case l => is_list); intro t9 tk9; (try dsimp only))
    k_with "subscriptTail Name Slice ref ref" => (k_here; k_dflt (refine' sl_upto (vs := .int x.c t1 :: .int y.c t2 :: rv) ?F ?N ?l ?k ?_ ?s ?t ?z; (case F => k_asm); (case N => k_asm); (case l => is_list); (case k => omega); (case s => with_unfolding_all rfl); (case t => kmk_pure); (case z => omega)); intro D' h' F' N' l1; (try k_lt l1); (try dsimp only at N' ⊢); (try k_sweep))
    k_with "call ref" => ((with_reducible show wpAny _ _ (PySem.call (Value.ref 281) [_, Value.str (Str.ofString "gcb") _, Value.int (Sg.c x) _] _) _ _ _); (refine' use_pure (get_str G' d D ms sem n (S "gcb") _ x.c _ x.gcb (by decide +kernel) (by decide +kernel) okx.lo okx.is_.gcb) hB ?kF ?kN ?kp ?kd ?ku ?_); (case kF => k_asm); (case kN => k_asm); (case kp => exact P.keep (Fr.keep (by k_asm))); (case kd => k_dflt (exact lim1 hdp rfl)); (case ku => k_dflt (exact lim3 hun rfl)); intro v9 h9 tk9 hR9 hk9 F9 N9; (obtain ⟨t9, e9⟩ := hR9); subst e9; k_sweep)
    k_with "call ref" => ((with_reducible show wpAny _ _ (PySem.call (Value.ref 281) [_, Value.str (Str.ofString "gcb") _, Value.int (Sg.c y) _] _) _ _ _); (refine' use_pure (get_str G' d D ms sem n (S "gcb") _ y.c _ y.gcb (by decide +kernel) (by decide +kernel) oky.lo oky.is_.gcb) hB ?kF ?kN ?kp ?kd ?ku ?_); (case kF => k_asm); (case kN => k_asm); (case kp => exact P.keep (Fr.keep (by k_asm))); (case kd => k_dflt (exact lim1 hdp rfl)); (case ku => k_dflt (exact lim3 hun rfl)); intro v9 h9 tk9 hR9 hk9 F9 N9; (obtain ⟨t9, e9⟩ := hR9); subst e9; k_sweep)
    k_with "compareOp Eq ref ref" => (k_here; k_dflt (refine' eq_strs ?h1 ?h2 ?hl ?hb ?hu ?_; (case hl => kmk_list); (case hb => kmk_list); (case h1 => exact .cons ⟨_, rfl⟩ (.cons ⟨_, rfl⟩ .nil)); (case h2 => exact .cons ⟨_, rfl⟩ (.cons ⟨_, rfl⟩ .nil)); (case hu => (simp only [units_deeper]; dsimp only [Ar]; omega))))
    k_with "compareOp Eq ref ref" => (k_here; k_dflt (refine' eq_strs ?h1 ?h2 ?hl ?hb ?hu ?_; (case hl => kmk_list); (case hb => kmk_list); (case h1 => exact .cons ⟨_, rfl⟩ (.cons ⟨_, rfl⟩ .nil)); (case h2 => exact .cons ⟨_, rfl⟩ (.cons ⟨_, rfl⟩ .nil)); (case hu => (simp only [units_deeper]; omega))))
    k_steps
    all_goals (try ((with_reducible refine hQ9 _ _ _ ?_); (try dsimp only)))
    all_goals (try dsimp only)
    all_goals (refine pure_end (s := s) (R := fun v => v = .bool (flagF (x :: y :: r))) hret hG (by assumption) ?_)
    all_goals rfl
  · k_with "call builtin:len" => ((with_reducible show wpAny _ _ (call (Value.builtin "len") [Value.ref _]) _ _ _); (refine' len_any (vs := cvs) ?l (by omega) ?_); (case l => is_list); intro t9 tk9; (try dsimp only))
    k_steps
    all_goals (try ((with_reducible refine hQ9 _ _ _ ?_); (try dsimp only)))
    all_goals (try dsimp only)
    all_goals (refine pure_end (s := s) (R := fun v => v = .bool (flagF ks)) hret hG (by assumption) ?_)
    all_goals (refine congrArg Value.bool ?_; rw [flag_short (by have := hi.length; rw [List.length_map] at this; omega)]; exact decide_eq_false (by omega))
end Mine

end

section
open PySem PySem.W PyProof.Rows PySem.Calls PyProof.V PySem.Spec PyProof.Rows.LCg PyProof.Rows.LCt
namespace Mine
section
variable {prog : Program} {w : World} {A : Around} {s : Shared} {h₀ : Heap} {L : Addr} {m : Str → Option Value} {env : Env}
theorem compT_inv {ct elt : PySem.Expr} {x : Str} {scope : Scope} {cl : List (Str × Addr)} {S : List (Addr × Obj) → Prop} {P : Nat → Value → Prop} {Fin : List Value → List (Addr × Obj) → Prop} {n : Nat} {news : List (Addr × Obj)} (J : Nat → List Value → List (Addr × Obj) → Prop)
    (turn : ∀ i ys news v I oI C oC D m₂ h tk (E' : Value → Shared → Prop), i < n → P i v → J i ys news → NsObj oC m₂ → m₂ x = some v → Fr h₀ L h m → News h₀ L h ((I, oI) :: (C, oC) :: (D, lst ys) :: news) → Off3 I C D news → ((@Ne Nat I C) ∧ (@Ne Nat I D) ∧ (@Ne Nat C D)) →
      wpAny (model prog w) A (isTrue ct (compEnvC scope cl C env) (eval ct (compEnvC scope cl C env))) (fun ok s' => if ok = true then
        wpAny (model prog w) A (eval elt (compEnvC scope cl C env)) (CompEnd h₀ L m { s with heap := h, toks := tk } I oI C oC D (lst ys) S (fun y news' => J (i + 1) (ys ++ [y]) news')) E' s'
        else CompEnd h₀ L m { s with heap := h, toks := tk } I oI C oC D (lst ys) S (fun _ news' => J (i + 1) ys news') Value.none s') E' { s with heap := h, toks := tk })
    (fin : ∀ ys news, J n ys news → Fin ys news) (h0 : J 0 [] news) : CompRestT prog w A h₀ L m env ct elt x scope cl s S P Fin n 0 [] news := by
  suffices H : ∀ k i ys news, i + k = n → J i ys news → CompRestT prog w A h₀ L m env ct elt x scope cl s S P Fin k i ys news from H n 0 [] news (Nat.zero_add n) h0
  intro k
  induction k with
  | zero => intro i ys news hi hJ; have : i = n := by omega
            subst this; exact CompRestT.zero (fin _ _ hJ)
  | succ k ih =>
    intro i ys news hi hJ
    refine CompRestT.succ fun v I oI C oC D m₂ h tk E' hp hC hx F N off ne => ?_
    have up : ∀ (ys' : List Value) (y : Value) s', CompEnd h₀ L m { s with heap := h, toks := tk } I oI C oC D (lst ys) S (fun _ news' => J (i + 1) ys' news') y s' → CompEnd h₀ L m { s with heap := h, toks := tk } I oI C oC D (lst ys) S (fun _ news' => CompRestT prog w A h₀ L m env ct elt x scope cl s S P Fin k (i + 1) ys' news') y s' :=
      fun ys' y s' ⟨h', tk', n', e, F', N', o', hS, hJ'⟩ => ⟨h', tk', n', e, F', N', o', hS, ih (i + 1) ys' n' (by omega) hJ'⟩
    refine wpAny_mono (turn i ys news v I oI C oC D m₂ h tk E' (by omega) hp hJ hC hx F N off ne) (fun ok s' h' => ?_) fun _ _ e => e
    cases ok with
    | true => simp only [if_true] at h' ⊢; exact wpAny_mono h' (fun y s'' z => up _ y s'' z) fun _ _ e => e
    | false => simp only [Bool.false_eq_true, if_false] at h' ⊢; exact up _ _ _ h'
theorem comp_inv {elt : PySem.Expr} {x : Str} {scope : Scope} {cl : List (Str × Addr)} {S : List (Addr × Obj) → Prop} {P : Nat → Value → Prop} {Fin : List Value → List (Addr × Obj) → Prop} {n : Nat} {news : List (Addr × Obj)} (J : Nat → List Value → List (Addr × Obj) → Prop)
    (turn : ∀ i ys news v I oI C oC D m₂ h tk (E' : Value → Shared → Prop), i < n → P i v → J i ys news → NsObj oC m₂ → m₂ x = some v → Fr h₀ L h m → News h₀ L h ((I, oI) :: (C, oC) :: (D, lst ys) :: news) → Off3 I C D news → ((@Ne Nat I C) ∧ (@Ne Nat I D) ∧ (@Ne Nat C D)) →
      wpAny (model prog w) A (eval elt (compEnvC scope cl C env)) (CompEnd h₀ L m { s with heap := h, toks := tk } I oI C oC D (lst ys) S (fun y news' => J (i + 1) (ys ++ [y]) news')) E' { s with heap := h, toks := tk })
    (fin : ∀ ys news, J n ys news → Fin ys news) (h0 : J 0 [] news) : CompRest prog w A h₀ L m env elt x scope cl s S P Fin n 0 [] news := by
  suffices H : ∀ k i ys news, i + k = n → J i ys news → CompRest prog w A h₀ L m env elt x scope cl s S P Fin k i ys news from H n 0 [] news (Nat.zero_add n) h0
  intro k
  induction k with
  | zero => intro i ys news hi hJ; have : i = n := by omega
            subst this; exact CompRest.zero (fin _ _ hJ)
  | succ k ih =>
    intro i ys news hi hJ
    refine CompRest.succ fun v I oI C oC D m₂ h tk E' hp hC hx F N off ne => ?_
    exact wpAny_mono (turn i ys news v I oI C oC D m₂ h tk E' (by omega) hp hJ hC hx F N off ne) (fun y s' ⟨h', tk', n', e, F', N', o', hS, hJ'⟩ => ⟨h', tk', n', e, F', N', o', hS, ih (i + 1) _ n' (by omega) hJ'⟩) fun _ _ e => e
noncomputable def PEnd (h₀ : Heap) (L : Addr) (m : Str → Option Value) (s : Shared) (led : List (Addr × Obj)) (s' : Shared) : Prop := ∃ h' tk', s' = { s with heap := h', toks := tk' } ∧ Fr h₀ L h' m ∧ News h₀ L h' led
theorem compT_pure {ct elt : PySem.Expr} {x : Str} {scope : Scope} {cl : List (Str × Addr)} {S : List (Addr × Obj) → Prop} {P : Nat → Value → Prop} {Fin : List Value → List (Addr × Obj) → Prop} {n : Nat} {led : List (Addr × Obj)} (K : Nat → List Value → Prop) (hS : S led)
    (turn : ∀ i ys v I oI C oC D m₂ h tk (E' : Value → Shared → Prop), i < n → P i v → K i ys → NsObj oC m₂ → m₂ x = some v → Fr h₀ L h m → News h₀ L h ((I, oI) :: (C, oC) :: (D, lst ys) :: led) →
      wpAny (model prog w) A (isTrue ct (compEnvC scope cl C env) (eval ct (compEnvC scope cl C env))) (fun ok s' => if ok = true then
        wpAny (model prog w) A (eval elt (compEnvC scope cl C env)) (fun y s'' => PEnd h₀ L m { s with heap := h, toks := tk } ((I, oI) :: (C, oC) :: (D, lst ys) :: led) s'' ∧ K (i + 1) (ys ++ [y])) E' s'
        else PEnd h₀ L m { s with heap := h, toks := tk } ((I, oI) :: (C, oC) :: (D, lst ys) :: led) s' ∧ K (i + 1) ys) E' { s with heap := h, toks := tk })
    (fin : ∀ ys, K n ys → Fin ys led) (h0 : K 0 []) : CompRestT prog w A h₀ L m env ct elt x scope cl s S P Fin n 0 [] led := by
  refine compT_inv (fun i ys nw => nw = led ∧ K i ys) ?_ (fun ys nw ⟨e, k⟩ => by subst e; exact fin ys k) ⟨rfl, h0⟩
  rintro i ys _ v I oI C oC D m₂ h tk E' hi hp ⟨rfl, hK⟩ hC hx F N off ne
  refine wpAny_mono (turn i ys v I oI C oC D m₂ h tk E' hi hp hK hC hx F N) (fun ok s' h' => ?_) fun _ _ e => e
  cases ok with
  | true => simp only [if_true] at h' ⊢; exact wpAny_mono h' (fun y s'' ⟨⟨h2, t2, e, F', N'⟩, k⟩ => ⟨h2, t2, _, e, F', N', off, hS, rfl, k⟩) fun _ _ e => e
  | false => simp only [Bool.false_eq_true, if_false] at h' ⊢; obtain ⟨⟨h2, t2, e, F', N'⟩, k⟩ := h'; exact ⟨h2, t2, _, e, F', N', off, hS, rfl, k⟩
theorem comp_pure {elt : PySem.Expr} {x : Str} {scope : Scope} {cl : List (Str × Addr)} {S : List (Addr × Obj) → Prop} {P : Nat → Value → Prop} {Fin : List Value → List (Addr × Obj) → Prop} {n : Nat} {led : List (Addr × Obj)} (K : Nat → List Value → Prop) (hS : S led)
    (turn : ∀ i ys v I oI C oC D m₂ h tk (E' : Value → Shared → Prop), i < n → P i v → K i ys → NsObj oC m₂ → m₂ x = some v → Fr h₀ L h m → News h₀ L h ((I, oI) :: (C, oC) :: (D, lst ys) :: led) →
      wpAny (model prog w) A (eval elt (compEnvC scope cl C env)) (fun y s'' => PEnd h₀ L m { s with heap := h, toks := tk } ((I, oI) :: (C, oC) :: (D, lst ys) :: led) s'' ∧ K (i + 1) (ys ++ [y])) E' { s with heap := h, toks := tk })
    (fin : ∀ ys, K n ys → Fin ys led) (h0 : K 0 []) : CompRest prog w A h₀ L m env elt x scope cl s S P Fin n 0 [] led := by
  refine comp_inv (fun i ys nw => nw = led ∧ K i ys) ?_ (fun ys nw ⟨e, k⟩ => by subst e; exact fin ys k) ⟨rfl, h0⟩
  rintro i ys _ v I oI C oC D m₂ h tk E' hi hp ⟨rfl, hK⟩ hC hx F N off ne
  exact wpAny_mono (turn i ys v I oI C oC D m₂ h tk E' hi hp hK hC hx F N) (fun y s'' ⟨⟨h2, t2, e, F', N'⟩, k⟩ => ⟨h2, t2, _, e, F', N', off, hS, rfl, k⟩) fun _ _ e => e
end
section
variable {prog : Program} {w : World} {A : Around} {E : Value → Shared → Prop} {s : Shared} {h₀ : Heap} {L l b : Addr} {m : Str → Option Value} {news : List (Addr × Obj)} {value slice : PySem.Expr} {vs ws : List Value} {Q : Value → Shared → Prop} {x y : Int} {t u : Tok}
theorem pick_last2 (vs : List Value) : slicePick vs.toArray (some (-2)) none none = (vs.drop (vs.length - 2)).toArray := by
  rw [slicePick_plain]
  have hc : clipAt vs.toArray.size (-2) = vs.length - 2 := by
    have := clipAt_cast vs.toArray.size (-2)
    rw [if_pos (by omega), List.size_toArray] at this
    rw [List.size_toArray]; omega
  simp only [Option.elim, hc]
  congr 1
  rw [List.take_of_length_le (by rw [List.length_drop, List.size_toArray]; exact Nat.le_refl _)]
theorem pick_cut (vs : List Value) (a b : Nat) (h : a ≤ b) : slicePick vs.toArray (some (a : Int)) (some (b : Int)) none = ((vs.drop a).take (b - a)).toArray := by
  rw [slicePick_plain]
  simp only [Option.elim, clipAt_nat, List.size_toArray]
  congr 1
  rcases Nat.le_total vs.length a with h1 | h1
  · rw [List.drop_of_length_le (l := vs) h1, List.drop_of_length_le (by rw [Nat.min_eq_right h1]; exact Nat.le_refl _)]; simp
  · rw [Nat.min_eq_left h1]
    rcases Nat.le_total vs.length b with h2 | h2
    · rw [Nat.min_eq_right h2, List.take_of_length_le (by simp), List.take_of_length_le (by simp; omega)]
    · rw [Nat.min_eq_left h2]
theorem sl_last2 (F : Fr h₀ L s.heap m) (N : News h₀ L s.heap news) (hl : s.heap.IsList l vs.toArray)
    (h : ∀ D h', Fr h₀ L h' m → News h₀ L h' ((D, PySem.W.listOf (vs.drop (vs.length - 2)).toArray 0) :: news) → (∀ p ∈ news, p.1 < D) → Q (.ref D) { s with heap := h' })
    (hs : subscripted slice false (.ref l) (.ref s.heap.objs.size) = operate [.ref s.heap.objs.size, .ref l] (getItem (.ref l) (.ref s.heap.objs.size))) (ht : ∀ r, letTemporaryGo value (.ref l) r = pure ()) (hz : vs.length ≤ 1000) :
    wpAny (model prog w) A (subscriptTail value slice (.ref l) (.ref s.heap.objs.size)) Q E { s with heap := s.heap.push { cls := .type "slice", data := .fields #[.int (-2) t, .none, .none] } } :=
  kmk_slice F N hl (.int _ _) .none (fun D h' F' N' l1 => h D h' F' (by rw [pick_last2] at N'; exact N') l1) hs ht (by rw [List.size_toArray, sizeLine_eq]; omega)
theorem sl_cut (a b : Nat) (hab : a ≤ b) (F : Fr h₀ L s.heap m) (N : News h₀ L s.heap news) (hl : s.heap.IsList l vs.toArray)
    (h : ∀ D h', Fr h₀ L h' m → News h₀ L h' ((D, PySem.W.listOf ((vs.drop a).take (b - a)).toArray 0) :: news) → (∀ p ∈ news, p.1 < D) → Q (.ref D) { s with heap := h' })
    (hs : subscripted slice false (.ref l) (.ref s.heap.objs.size) = operate [.ref s.heap.objs.size, .ref l] (getItem (.ref l) (.ref s.heap.objs.size))) (ht : ∀ r, letTemporaryGo value (.ref l) r = pure ()) (hz : vs.length ≤ 1000) :
    wpAny (model prog w) A (subscriptTail value slice (.ref l) (.ref s.heap.objs.size)) Q E { s with heap := s.heap.push { cls := .type "slice", data := .fields #[.int (a : Int) t, .int (b : Int) u, .none] } } :=
  kmk_slice F N hl (.int _ _) (.int _ _) (fun D h' F' N' l1 => h D h' F' (by rw [pick_cut vs a b hab] at N'; exact N') l1) hs ht (by rw [List.size_toArray, sizeLine_eq]; omega)
end
end Mine

end

section
open PySem PySem.W PyProof.Rows PySem.Calls PyProof.Rows.LCg
namespace Mine
set_option maxRecDepth 100000
set_option maxHeartbeats 0
theorem fill23 : PySem.Challenge.rw_pb0596_01.foot = 6 ∧ K9 = K9 := by
  k_with_none
  k_with "my ne" => (first | (with_reducible first | assumption | exact Ne.symm (by assumption) | exact Mine.nr1 (by assumption) | exact Mine.ns1 (by assumption) | exact Mine.nt1 (by assumption) | exact Mine.nu1 (by assumption) | exact Mine.nr2 (by assumption) | exact Mine.ns2 (by assumption) | exact Mine.nt2 (by assumption) | exact Mine.nu2 (by assumption) | exact Mine.nr3 (by assumption) | exact Mine.ns3 (by assumption) | exact Mine.nt3 (by assumption) | exact Mine.nu3 (by assumption) | exact Mine.nr4 (by assumption) | exact Mine.ns4 (by assumption) | exact Mine.nt4 (by assumption) | exact Mine.nu4 (by assumption) | exact Mine.nr5 (by assumption) | exact Mine.ns5 (by assumption) | exact Mine.nt5 (by assumption) | exact Mine.nu5 (by assumption) | exact Mine.nr6 (by assumption) | exact Mine.ns6 (by assumption) | exact Mine.nt6 (by assumption) | exact Mine.nu6 (by assumption) | exact Mine.nr7 (by assumption) | exact Mine.ns7 (by assumption) | exact Mine.nt7 (by assumption) | exact Mine.nu7 (by assumption) | exact Mine.nr8 (by assumption) | exact Mine.ns8 (by assumption) | exact Mine.nt8 (by assumption) | exact Mine.nu8 (by assumption) | exact Mine.nr9 (by assumption) | exact Mine.ns9 (by assumption) | exact Mine.nr10 (by assumption) | exact Mine.ns10 (by assumption) | exact Mine.nr11 (by assumption) | exact Mine.ns11 (by assumption) | exact Mine.nr12 (by assumption) | exact Mine.ns12 (by assumption) | exact Mine.nw1 (by assumption) | exact Mine.nw2 (by assumption) | exact Mine.nw3 (by assumption) | exact Mine.nw4 (by assumption) | exact Mine.nw5 (by assumption) | exact Mine.nw6 (by assumption) | exact Mine.nk1 (by assumption) | exact Mine.nk2 (by assumption) | exact Mine.nk3 (by assumption) | exact Mine.nk4 (by assumption)) | fail "no")
  k_with "my om" => (first | ((with_reducible show @Eq Int _ _); with_reducible first | assumption | exact Eq.symm (by assumption) | exact Int.toNat_of_nonneg (by assumption)) | fail "no")
  k_with "my om" => (first | ((with_reducible show And (@LE.le Int _ _ _) _); with_reducible first | assumption | (refine Mine.i2 (by assumption) ?_; omega) | (refine Mine.i2' (by assumption) ?_; omega)) | fail "no")
  k_with "my om" => (first | ((with_reducible show @LT.lt Int _ _ _); first | (with_reducible first | assumption | exact Mine.i1' (by assumption) | exact Int.ofNat_lt.mpr (by assumption) | exact And.left (by assumption) | exact And.right (by assumption) | exact Int.lt_of_not_le (by assumption)) | decide +kernel) | fail "no")
  k_with "my om" => (first | ((with_reducible show @LE.le Int _ _ _); first | (with_reducible first | assumption | exact Int.natCast_nonneg _ | exact Int.le_refl _ | exact Mine.i1 _ | exact Int.ofNat_le.mpr (by assumption) | exact Mine.i6 (by assumption) (by assumption) | (refine Mine.i7 ?_; omega) | exact And.left (by assumption) | exact And.right (by assumption) | exact Int.le_of_not_lt (by assumption) | exact Int.le_of_lt (by assumption)) | decide +kernel) | fail "no")
  k_with "my om" => (first | ((with_reducible show @Eq Nat _ _); with_reducible first | assumption | exact Eq.symm (by assumption) | exact Mine.i5 (by assumption) | exact Mine.i4 _ | exact Mine.i3 _ | exact Eq.symm (Mine.i4 _) | exact Nat.add_sub_cancel_left .. | exact Nat.min_eq_left (by assumption) | exact Eq.trans (by assumption) (by assumption) | exact Eq.trans (Eq.symm (by assumption)) (by assumption) | exact Eq.trans (by assumption) (Eq.symm (by assumption))) | fail "no")
  k_with "my om" => (first | ((with_reducible show @LT.lt Nat _ _ _); with_reducible first | assumption | exact Mine.np (by assumption) | exact Mine.nq (by assumption) rfl | exact Mine.nv (by assumption) rfl | exact Mine.ia (by assumption) (by assumption) | exact Mine.ib (by assumption) (by assumption) | exact Nat.lt_of_lt_of_le (by assumption) (by assumption) | exact Nat.succ_lt_succ (by assumption) | exact And.left (by assumption) | exact And.right (by assumption) | exact Nat.lt_of_not_le (by assumption) | exact Mine.ia (Mine.ia (by assumption) (by assumption)) (by assumption) | exact Mine.ib (Mine.ia (by assumption) (by assumption)) (by assumption) | exact Mine.ia (Mine.ib (by assumption) (by assumption)) (by assumption) | exact Mine.ib (Mine.ib (by assumption) (by assumption)) (by assumption)) | fail "no")
  k_with "my om" => (first | ((with_reducible show @LE.le Nat _ _ _); first | (with_reducible first | assumption | exact Mine.nc (by assumption) rfl | exact Nat.le_refl _ | exact Mine.nl (by assumption) (by assumption) | exact Mine.nm (by assumption) (by assumption) | exact Mine.nn (by assumption) (by assumption) | exact Mine.nn (by assumption) (Mine.nc (by assumption) rfl) | exact Mine.nl (by assumption) (Mine.nc (by assumption) rfl) | exact Mine.nm (by assumption) (Mine.nc (by assumption) rfl) | exact Mine.nl (by assumption) (Mine.nl (by assumption) (Mine.nc (by assumption) rfl)) | exact Mine.nl (by assumption) (Mine.nn (by assumption) (Mine.nc (by assumption) rfl)) | exact Mine.nm (by assumption) (Mine.nn (by assumption) (Mine.nc (by assumption) rfl)) | exact Mine.nl (by assumption) (Mine.nm (by assumption) (Mine.nc (by assumption) rfl)) | exact Mine.nm (by assumption) (Mine.nl (by assumption) (Mine.nc (by assumption) rfl)) | exact Mine.nm (by assumption) (Mine.nm (by assumption) (Mine.nc (by assumption) rfl)) | exact Nat.le_add_right _ _ | exact Nat.succ_le_succ (by assumption) | exact Nat.le_of_eq (by assumption) | exact Nat.le_of_eq (Eq.symm (by assumption)) | exact Nat.le_succ_of_le (by assumption) | exact Nat.le_of_not_lt (by assumption) | exact Int.toNat_le_toNat (by assumption) | exact Mine.ig (by assumption) (by assumption) rfl | exact Mine.ih (by assumption) (by assumption) rfl | exact And.left (by assumption) | exact And.right (by assumption) | (refine Mine.ie ?_ (by assumption); omega) | (refine Mine.ie' ?_ (by assumption); omega) | (refine Mine.id1 ?_; omega) | (refine Mine.ij ?_; omega) | (refine Mine.ic (by assumption) rfl ?_; omega)) | exact Mine.nz rfl) | fail "no")
  k_with "my own" => (first | assumption | exact Mine.PAt.of (by assumption) (PySem.SameStack.mark _ _) | exact Mine.PAt.of (by assumption) (PySem.SameStack.unmark _ _) | fail "no")
  k_fill
  k_with "my inst" => (first | exact InstAt.up (by assumption) (Fr.keep (by k_asm)) | fail "no")
  exact ⟨rfl, rfl⟩
noncomputable def WishR (ks : List Sg) (v : Value) : Prop := (wishF ks = none ∧ v = .none) ∨ ∃ k u, wishF ks = some k ∧ v = .int k u
section
variable {ks : List Sg} {n : Nat}
theorem wish_1 (h : flagF ks = true) : wishF ks = some 2 := by simp [wishF, h]
theorem wish_2 (hn : n = ks.length) (h : (ks.map Sg.c).drop (n - 2) = [65039, 8419]) : wishF ks = some 2 := by
  subst hn
  simp [wishF, lastTwo, h]
theorem wish_no (hn : n = ks.length) (h1 : flagF ks = false) (h2 : ¬ (ks.map Sg.c).drop (n - 2) = [65039, 8419]) : wishF ks = if (ks.headD sgD).ep = false then none else if (65039 : Int) ∈ ks.map Sg.c then some 2 else if ((ks.map Sg.c).drop 1).take 1 = [65038] ∧ (ks.drop 1).filter Sg.ep = [] then some 1 else none := by
  subst hn
  unfold wishF lastTwo
  rw [h1, decide_eq_false h2]
  simp only [Bool.or_self, Bool.false_eq_true, if_false]
theorem any_mem {l : List Int} {k : Int} : (l.any fun x => x == k) = decide (k ∈ l) := by
  rw [Bool.eq_iff_iff, List.any_eq_true, decide_eq_true_iff]
  constructor
  · rintro ⟨a, ha, e⟩; rw [← beq_iff_eq.mp e]; exact ha
  · intro h; exact ⟨k, h, by simp⟩
end
theorem wish_fin {s : Shared} {Q : Value → Shared → Prop} {g h' : Heap} {L : Addr} {m : Str → Option Value} {ks : List Sg} {v : Value} {tk : Nat} (hret : ∀ (v : Value) (h' : Heap) (tk' : Nat), Kp s.heap h' ∧ WishR ks v → Q v { s with heap := h', toks := tk' }) (hk : Kp s.heap g) (F : Fr g L h' m) (hv : WishR ks v) :
    Q v { s with heap := h', toks := tk } := hret _ _ _ ⟨hk.trans F.keep, hv⟩
theorem wish_cc {w : World} {base : Heap} (G : Gr w base) (cl d : Addr) (cvs : List Value) (ks : List Sg) (D : DS) (ms : Str → Option MS) (sem : Str → Int → DV) (n : Nat) (hlen : cvs.length ≤ 9) (hok : ∀ x ∈ ks, SgOk sem x) (hne : ks ≠ []) :
   CC w base 174 [.ref cl, .ref d] 5 (fun h => h.IsList cl cvs.toArray ∧ IntsAre cvs (ks.map Sg.c) ∧ DatM w h d D ms sem n) (fun h v h' => Kp h h' ∧ WishR ks v) := by
  have G' := G
  obtain ⟨X, p, loose, mean, mg, mb, T⟩ := G
  intro dp un fr gd s Q E hdp hun hb hp hret
  obtain ⟨hl, hi, hD⟩ := hp
  w_on
  k_dflt (refine enterC (binds := [(Str.ofString "cluster", .ref cl), (Str.ofString "data", .ref d)]) [] X T hb (fun _ h => nomatch h) (by k_is) (by k_is) (by show dp < recursionLimit; omega) (BindsTo.of_eq rfl) rfl (by decide +kernel) (fun E9 Q9 g L h₁ g9s d9r tk0 o9s cells hQ9 hE9 hP9 hA9 hB hG X' T' F' N' Y hL => ?_))
  k_cells Y
  try simp only [List.cons_append, List.nil_append] at N'
  try dsimp only
  have hk : Kp s.heap g := fun b o e => hG _ _ e (fun h => nomatch h)
  have hl' : g.IsList cl cvs.toArray := hl.at fun o e => hk _ _ e
  have P := hD.keep hk
  have I' := P.inst
  obtain ⟨x, r, rfl⟩ := List.exists_cons_of_ne_nil hne
  have okx := hok x (.head _)
  have hcl : 0 < cvs.length := by have := hi.length; simp at this; omega
  k_unmd
  try k_fold
  k_with "call ref" => ((with_reducible show wpAny _ _ (PySem.call (Value.ref 169) _ _) _ _ _); (refine' use_pure (flag_cc G' cl d cvs (x :: r) D ms sem n hlen hok) hB ?kF ?kN ?kp ?kd ?ku ?_); (case kF => k_asm); (case kN => k_asm); (case kp => exact ⟨hl'.at fun o e => Fr.keep (by k_asm) _ _ e, hi, P.keep (Fr.keep (by k_asm))⟩); (case kd => k_dflt (exact lim1 hdp rfl)); (case ku => k_dflt (exact lim3 hun rfl)); intro v9 h9 tk9 e9 hk9 F9 N9; subst e9; k_sweep)
  k_with "call ref" => ((with_reducible show wpAny _ _ (PySem.call (Value.ref 281) [_, Value.str (Str.ofString "ep") _, Value.int _ _] _) _ _ _); (refine' use_pure (get_bool G' d D ms sem n (S "ep") _ x.c _ x.ep (by decide +kernel) (by decide +kernel) okx.lo okx.is_.ep) hB ?kF ?kN ?kp ?kd ?ku ?_); (case kF => k_asm); (case kN => k_asm); (case kp => exact P.keep (Fr.keep (by k_asm))); (case kd => k_dflt (exact lim1 hdp rfl)); (case ku => k_dflt (exact lim3 hun rfl)); intro v9 h9 tk9 e9 hk9 F9 N9; subst e9; k_sweep)
  k_with "subscriptTail Name Slice ref ref" => (k_here; k_dflt (first
    | (refine' sl_last2 (vs := cvs) ?F ?N ?l ?_ ?s ?t ?z; (case F => k_asm); (case N => k_asm); (case l => is_list); (case s => with_unfolding_all rfl); (case t => kmk_pure); (case z => omega))
    | (refine' sl_from (vs := cvs) ?F ?N ?l ?k ?_ ?s ?t ?z; (case F => k_asm); (case N => k_asm); (case l => is_list); (case k => omega); (case s => with_unfolding_all rfl); (case t => kmk_pure); (case z => omega))
    | (refine' sl_cut (vs := cvs) 1 2 (by decide) ?F ?N ?l ?_ ?s ?t ?z; (case F => k_asm); (case N => k_asm); (case l => is_list); (case s => with_unfolding_all rfl); (case t => kmk_pure); (case z => omega))); intro D' h' F' N' l1; (try k_lt l1); (try dsimp only at N' ⊢); (try k_sweep))
  k_with "compareOp Eq ref ref" => (k_here; k_dflt (refine' eq_nums ?h1 ?h2 ?hl ?hb ?hu ?_; (case hl => kmk_list); (case hb => kmk_list); (case h1 => first | exact paired_ints (hi.drop _) | exact paired_ints ((hi.drop _).take _) | exact paired_ints (by assumption)); (case h2 => first | exact .nil | exact .cons ⟨_, rfl⟩ .nil | exact .cons ⟨_, rfl⟩ (.cons ⟨_, rfl⟩ .nil)); (case hu => (simp only [units_deeper]; omega))))
  k_with "compareOp In int ref" => ((with_reducible show wpAny _ _ (compareOp _ (Value.int _ _) (Value.ref _)) _ _ _); (with_unfolding_all refine' in_list_ints ?k1 hi ?_); (case k1 => is_list); k_whole)
  k_with "CompSrcT" => (k_here; refine Hold.out ?_)
  have hln : cvs.length = (x :: r).length := by have := hi.length; rw [List.length_map] at this; exact this
  k_steps
  all_goals (try ((with_reducible refine hQ9 _ _ _ ?_); (try dsimp only)))
  all_goals (try dsimp only)
  · exact wish_fin hret hk (by assumption) (.inr ⟨_, _, wish_1 (by assumption), rfl⟩)
  · exact wish_fin hret hk (by assumption) (.inr ⟨_, _, wish_2 hln (by assumption), rfl⟩)
  · refine wish_fin hret hk (by assumption) (.inr ⟨2, _, ?_, rfl⟩)
    rw [wish_no hln (by assumption) (by assumption)]
    have q : ((List.map Sg.c (x :: r)).any fun x => x == 65039) = true := by assumption
    rw [any_mem, decide_eq_true_iff] at q
    rw [if_neg (by rw [List.headD_cons, ‹x.ep = true›]; simp), if_pos q]
  · rename Fr _ _ _ _ => F2
    rename News _ _ _ _ => N2
    refine LCt.CompSrcT.ledger (by rfl) F2 N2 (.head _) (by rw [List.size_toArray, List.length_drop, sizeLine_eq]; omega) (fun gh => compT_pure (fun i ys => IntsAre ys (((r.take i).filter Sg.ep).map Sg.c)) (.inr ⟨_, .head _, rfl, _, rfl⟩) (fun i ys v I oI C oC D' m₂ h tk E' hil hv hK hC hx F N => ?_) (fun ys hK => ?_) .nil)
    · obtain ⟨y, hy, t, rfl⟩ : ∃ y, r[i]? = some y ∧ ∃ t, v = .int y.c t := by
        have hv' : (cvs.drop 1)[i]? = some v := by simpa using hv
        have hr : i < r.length := by
          have h1 := (List.getElem?_eq_some_iff.mp hv').1
          rw [List.length_drop] at h1
          rw [List.length_cons] at hln
          omega
        refine ⟨r[i], List.getElem?_eq_getElem hr, ?_⟩
        obtain ⟨t, ht⟩ := (hi.drop 1).get i (r[i]).c (by simp [List.getElem?_map, List.getElem?_eq_getElem hr])
        rw [ht] at hv'
        exact ⟨t, (Option.some.inj hv').symm⟩
      have oky := hok y (.tail _ (List.mem_of_getElem? hy))
      k_with "call ref" => ((with_reducible show wpAny _ _ (PySem.call (Value.ref 281) [_, Value.str (Str.ofString "ep") _, Value.int (Sg.c y) _] _) _ _ _); (refine' use_pure (get_bool G' d D ms sem n (S "ep") _ y.c _ y.ep (by decide +kernel) (by decide +kernel) oky.lo oky.is_.ep) hB ?kF ?kN ?kp ?kd ?ku ?_); (case kF => k_asm); (case kN => k_asm); (case kp => exact P.keep (Fr.keep (by k_asm))); (case kd => k_dflt (exact lim1 hdp rfl)); (case ku => k_dflt (exact lim3 hun rfl)); intro v9 h9 tk9 e9 hk9 F9 N9; subst e9; k_sweep)
      clear F2 N2
      k_steps
      all_goals (try ((with_reducible refine hQ9 _ _ _ ?_); (try dsimp only)))
      · exact ⟨_, _, rfl, F9, N9⟩
      · rw [List.take_add_one, hy, Option.toList_some, List.filter_append, List.map_append, List.filter_cons, ‹y.ep = true›]
        exact hK.append (.cons _ _ .nil)
      · exact ⟨_, _, rfl, F9, N9⟩
      · rw [List.take_add_one, hy, Option.toList_some, List.filter_append, List.map_append, List.filter_cons, ‹y.ep = false›]
        simpa using hK
    · intro Df h tk F N off
      try dsimp only
      clear F2 N2
      have hsz : (List.drop (Int.toNat 1) cvs).toArray.size = r.length := by
        rw [List.size_toArray, List.length_drop, hln, List.length_cons]; rfl
      rw [hsz, List.take_length] at hK
      have q0 : ¬ (65039 : Int) ∈ (x :: r).map Sg.c := by
        have q : ((List.map Sg.c (x :: r)).any fun x => x == 65039) = false := by assumption
        rw [any_mem, decide_eq_false_iff_not] at q
        exact q
      have q1 := wish_no hln (by assumption) (by assumption)
      rw [if_neg (by rw [List.headD_cons, ‹x.ep = true›]; simp), if_neg q0] at q1
      k_steps
      all_goals (try ((with_reducible refine hQ9 _ _ _ ?_); (try dsimp only)))
      all_goals (try dsimp only)
      · refine wish_fin hret hk (by assumption) (.inr ⟨1, _, q1.trans (if_pos ⟨by assumption, ?_⟩), rfl⟩)
        have q : decide (List.map Sg.c (List.filter Sg.ep r) = []) = true := by assumption
        simpa using q
      · refine wish_fin hret hk (by assumption) (.inl ⟨q1.trans (if_neg fun z => ?_), rfl⟩)
        have q : decide (List.map Sg.c (List.filter Sg.ep r) = []) = false := by assumption
        have z2 := z.2
        rw [List.drop_one, List.tail_cons] at z2
        rw [z2] at q; cases q
      · refine wish_fin hret hk (by assumption) (.inl ⟨q1.trans (if_neg fun z => ?_), rfl⟩)
        have q : ¬ List.take (2 - 1) (List.drop 1 (List.map Sg.c (x :: r))) = [65038] := by assumption
        exact q z.1
  · refine wish_fin hret hk (by assumption) (.inl ⟨?_, rfl⟩)
    rw [wish_no hln (by assumption) (by assumption), if_pos (by rw [List.headD_cons]; assumption)]
end Mine

end

section
open PySem PySem.W PyProof.Rows PySem.Calls PyProof.Rows.LCg
namespace Mine
set_option maxRecDepth 100000
set_option maxHeartbeats 0
theorem fill24 : PySem.Challenge.rw_pb0596_01.foot = 6 ∧ K9 = K9 := by
  k_with_none
  k_with "my ne" => (first | (with_reducible first | assumption | exact Ne.symm (by assumption) | exact Mine.nr1 (by assumption) | exact Mine.ns1 (by assumption) | exact Mine.nt1 (by assumption) | exact Mine.nu1 (by assumption) | exact Mine.nr2 (by assumption) | exact Mine.ns2 (by assumption) | exact Mine.nt2 (by assumption) | exact Mine.nu2 (by assumption) | exact Mine.nr3 (by assumption) | exact Mine.ns3 (by assumption) | exact Mine.nt3 (by assumption) | exact Mine.nu3 (by assumption) | exact Mine.nr4 (by assumption) | exact Mine.ns4 (by assumption) | exact Mine.nt4 (by assumption) | exact Mine.nu4 (by assumption) | exact Mine.nr5 (by assumption) | exact Mine.ns5 (by assumption) | exact Mine.nt5 (by assumption) | exact Mine.nu5 (by assumption) | exact Mine.nr6 (by assumption) | exact Mine.ns6 (by assumption) | exact Mine.nt6 (by assumption) | exact Mine.nu6 (by assumption) | exact Mine.nr7 (by assumption) | exact Mine.ns7 (by assumption) | exact Mine.nt7 (by assumption) | exact Mine.nu7 (by assumption) | exact Mine.nr8 (by assumption) | exact Mine.ns8 (by assumption) | exact Mine.nt8 (by assumption) | exact Mine.nu8 (by assumption) | exact Mine.nr9 (by assumption) | exact Mine.ns9 (by assumption) | exact Mine.nr10 (by assumption) | exact Mine.ns10 (by assumption) | exact Mine.nr11 (by assumption) | exact Mine.ns11 (by assumption) | exact Mine.nr12 (by assumption) | exact Mine.ns12 (by assumption) | exact Mine.nw1 (by assumption) | exact Mine.nw2 (by assumption) | exact Mine.nw3 (by assumption) | exact Mine.nw4 (by assumption) | exact Mine.nw5 (by assumption) | exact Mine.nw6 (by assumption) | exact Mine.nk1 (by assumption) | exact Mine.nk2 (by assumption) | exact Mine.nk3 (by assumption) | exact Mine.nk4 (by assumption)) | fail "no")
  k_with "my om" => (first | ((with_reducible show @Eq Int _ _); with_reducible first | assumption | exact Eq.symm (by assumption) | exact Int.toNat_of_nonneg (by assumption)) | fail "no")
  k_with "my om" => (first | ((with_reducible show And (@LE.le Int _ _ _) _); with_reducible first | assumption | (refine Mine.i2 (by assumption) ?_; omega) | (refine Mine.i2' (by assumption) ?_; omega)) | fail "no")
  k_with "my om" => (first | ((with_reducible show @LT.lt Int _ _ _); first | (with_reducible first | assumption | exact Mine.i1' (by assumption) | exact Int.ofNat_lt.mpr (by assumption) | exact And.left (by assumption) | exact And.right (by assumption) | exact Int.lt_of_not_le (by assumption)) | decide +kernel) | fail "no")
  k_with "my om" => (first | ((with_reducible show @LE.le Int _ _ _); first | (with_reducible first | assumption | exact Int.natCast_nonneg _ | exact Int.le_refl _ | exact Mine.i1 _ | exact Int.ofNat_le.mpr (by assumption) | exact Mine.i6 (by assumption) (by assumption) | (refine Mine.i7 ?_; omega) | exact And.left (by assumption) | exact And.right (by assumption) | exact Int.le_of_not_lt (by assumption) | exact Int.le_of_lt (by assumption)) | decide +kernel) | fail "no")
  k_with "my om" => (first | ((with_reducible show @Eq Nat _ _); with_reducible first | assumption | exact Eq.symm (by assumption) | exact Mine.i5 (by assumption) | exact Mine.i4 _ | exact Mine.i3 _ | exact Eq.symm (Mine.i4 _) | exact Nat.add_sub_cancel_left .. | exact Nat.min_eq_left (by assumption) | exact Eq.trans (by assumption) (by assumption) | exact Eq.trans (Eq.symm (by assumption)) (by assumption) | exact Eq.trans (by assumption) (Eq.symm (by assumption))) | fail "no")
  k_with "my om" => (first | ((with_reducible show @LT.lt Nat _ _ _); with_reducible first | assumption | exact Mine.np (by assumption) | exact Mine.nq (by assumption) rfl | exact Mine.nv (by assumption) rfl | exact Mine.ia (by assumption) (by assumption) | exact Mine.ib (by assumption) (by assumption) | exact Nat.lt_of_lt_of_le (by assumption) (by assumption) | exact Nat.succ_lt_succ (by assumption) | exact And.left (by assumption) | exact And.right (by assumption) | exact Nat.lt_of_not_le (by assumption) | exact Mine.ia (Mine.ia (by assumption) (by assumption)) (by assumption) | exact Mine.ib (Mine.ia (by assumption) (by assumption)) (by assumption) | exact Mine.ia (Mine.ib (by assumption) (by assumption)) (by assumption) | exact Mine.ib (Mine.ib (by assumption) (by assumption)) (by assumption)) | fail "no")
  k_with "my om" => (first | ((with_reducible show @LE.le Nat _ _ _); first | (with_reducible first | assumption | exact Mine.nc (by assumption) rfl | exact Nat.le_refl _ | exact Mine.nl (by assumption) (by assumption) | exact Mine.nm (by assumption) (by assumption) | exact Mine.nn (by assumption) (by assumption) | exact Mine.nn (by assumption) (Mine.nc (by assumption) rfl) | exact Mine.nl (by assumption) (Mine.nc (by assumption) rfl) | exact Mine.nm (by assumption) (Mine.nc (by assumption) rfl) | exact Mine.nl (by assumption) (Mine.nl (by assumption) (Mine.nc (by assumption) rfl)) | exact Mine.nl (by assumption) (Mine.nn (by assumption) (Mine.nc (by assumption) rfl)) | exact Mine.nm (by assumption) (Mine.nn (by assumption) (Mine.nc (by assumption) rfl)) | exact Mine.nl (by assumption) (Mine.nm (by assumption) (Mine.nc (by assumption) rfl)) | exact Mine.nm (by assumption) (Mine.nl (by assumption) (Mine.nc (by assumption) rfl)) | exact Mine.nm (by assumption) (Mine.nm (by assumption) (Mine.nc (by assumption) rfl)) | exact Nat.le_add_right _ _ | exact Nat.succ_le_succ (by assumption) | exact Nat.le_of_eq (by assumption) | exact Nat.le_of_eq (Eq.symm (by assumption)) | exact Nat.le_succ_of_le (by assumption) | exact Nat.le_of_not_lt (by assumption) | exact Int.toNat_le_toNat (by assumption) | exact Mine.ig (by assumption) (by assumption) rfl | exact Mine.ih (by assumption) (by assumption) rfl | exact And.left (by assumption) | exact And.right (by assumption) | (refine Mine.ie ?_ (by assumption); omega) | (refine Mine.ie' ?_ (by assumption); omega) | (refine Mine.id1 ?_; omega) | (refine Mine.ij ?_; omega) | (refine Mine.ic (by assumption) rfl ?_; omega)) | exact Mine.nz rfl) | fail "no")
  k_with "my own" => (first | assumption | exact Mine.PAt.of (by assumption) (PySem.SameStack.mark _ _) | exact Mine.PAt.of (by assumption) (PySem.SameStack.unmark _ _) | fail "no")
  k_fill
  exact ⟨rfl, rfl⟩
noncomputable def pinM (l : List (Str × Value)) (m : Str → Option Value) : Str → Option Value := fun z => match List.lookup z l with
  | some v => some v
  | none => m z
theorem lookup_mem {l : List (Str × Value)} {z : Str} {v : Value} (e : List.lookup z l = some v) : (z, v) ∈ l := by
  induction l with
  | nil => cases e
  | cons p r ih =>
    rw [List.lookup_cons] at e
    by_cases q : (z == p.1) = true
    · rw [q] at e
      cases e
      rw [beq_iff_eq.mp q]; exact .head _
    · rw [Bool.not_eq_true] at q
      rw [q] at e
      exact .tail _ (ih e)
theorem Fr.pin {g h : Heap} {L : Addr} {m : Str → Option Value} (l : List (Str × Value)) (F : Fr g L h m) (e : ∀ p ∈ l, m p.1 = some p.2) : Fr g L h (pinM l m) := Mine.Fr.as F fun z => by
  unfold pinM
  cases q : List.lookup z l with
  | none => rfl
  | some v => exact (e _ (lookup_mem q)).symm
theorem all4 {α β : Type} {m : α → Option β} {a b c d : α × β} (h1 : m a.1 = some a.2) (h2 : m b.1 = some b.2) (h3 : m c.1 = some c.2) (h4 : m d.1 = some d.2) : ∀ p ∈ [a, b, c, d], m p.1 = some p.2 := fun p hp => by
  simp only [List.mem_cons, List.not_mem_nil, or_false] at hp
  rcases hp with rfl | rfl | rfl | rfl <;> assumption
theorem wishR_none {ks : List Sg} {v : Value} (h : wishF ks = none) (R : WishR ks v) : v = .none := by
  rcases R with ⟨_, e⟩ | ⟨k, u, e, _⟩
  · exact e
  · rw [h] at e; cases e
theorem wishR_some {ks : List Sg} {v : Value} {z : Int} (h : wishF ks = some z) (R : WishR ks v) : ∃ u, v = .int z u := by
  rcases R with ⟨e, _⟩ | ⟨k, u, e, e'⟩
  · rw [h] at e; cases e
  · rw [h] at e; cases e; exact ⟨u, e'⟩
noncomputable def CcInv (cl d : Addr) (wide : Bool) (lo : Obj) (W : Nat → Int) (i : Nat) (m : Str → Option Value) (news : List (Addr × Obj)) : Prop :=
  (cl, lo) ∈ news ∧ ∃ k t, k = W i ∧ m (Str.ofString "widest") = some (.int k t) ∧ m (Str.ofString "data") = some (.ref d) ∧ m (Str.ofString "is_wide_ambiguous") = some (.bool wide) ∧ m (Str.ofString "cluster") = some (.ref cl)
theorem ccols_cc {w : World} {base : Heap} (G : Gr w base) (cl d : Addr) (cvs : List Value) (ks : List Sg) (D : DS) (ms : Str → Option MS) (sem : Str → Int → DV) (n : Nat) (wide : Bool) (hlen : cvs.length ≤ 9) (hok : ∀ x ∈ ks, SgOk sem x) (hne : ks ≠ []) (hnr : ks.any refused = false) (hnb : base.get? cl = none) (hoff : ∀ b, Sup D ms d b → b ≠ cl) :
   CC w base 182 [.ref cl, .ref d, .bool wide] 6 (fun h => h.get? cl = some (PySem.W.listOf cvs.toArray 0) ∧ IntsAre cvs (ks.map Sg.c) ∧ DatM w h d D ms sem n) (fun h v h' => Kp h h' ∧ ∃ u, v = .int (widthF wide ks) u) := by
  have G' := G
  obtain ⟨X, p, loose, mean, mg, mb, T⟩ := G
  intro dp un fr gd s Q E hdp hun hb hp hret
  obtain ⟨hl, hi, hD⟩ := hp
  w_on
  k_dflt (refine enter (binds := [(Str.ofString "cluster", .ref cl), (Str.ofString "data", .ref d), (Str.ofString "is_wide_ambiguous", .bool wide)]) [(cl, PySem.W.listOf cvs.toArray 0)] X T hb (fun q hq => by rw [List.mem_singleton.mp hq]; exact ⟨hl, hnb⟩) (by k_is) (by k_is) (by show dp < recursionLimit; omega) (binds_K (X.keeps hb) rfl (by k_is) rfl rfl rfl) (locs rfl) (fun E9 Q9 g L h₁ g9s d9r t9k o9s hQ9 hE9 hP9 hA9 hB hG X' T' F' N' hL => ?_))
  try dsimp only
  have P : DatM w g d D ms sem n := hD.agree fun b o hb e => hG b o e (by simpa using hoff b hb)
  have hlx : cvs.length = ks.length := by have := hi.length; rw [List.length_map] at this; exact this
  have hk0 : 0 < ks.length := List.length_pos_iff.mpr hne
  k_unmd
  try k_fold
  k_with "exec For Name Name cons nil" => ((rename Fr _ _ _ _ => lF'); (with_reducible refine For_turns lF' ?_ ?hs ?hE); (case hs => (intro x; k_dflt rfl)); (case hE => k_dflt passes_own))
  k_with "pyIter ref" => ((rename Fr _ _ _ _ => lF'); (rename News _ _ _ _ => lN'); k_dflt (refine' iter_listTurns (lo := PySem.W.listOf cvs.toArray 0) (vs := cvs) rfl lF' lN' (List.Mem.head _) rfl rfl ?_); (clear lF'); intro i' l1)
  k_with "ItemsRest" => (refine Hold.out ?_)
  k_steps
  all_goals (try ((with_reducible refine hQ9 _ _ _ ?_); (try dsimp only)))
  refine items_inv (CcInv cl d wide (PySem.W.listOf cvs.toArray 0) fun i => widestF wide (ks.take i)) ?_ ?_ ?_
  · rintro i v m nw h tk oI hv ⟨hcl, k, t, hkw, m1, m2, m3, m4⟩ hc F N
    obtain ⟨x, hx, tx, rfl⟩ : ∃ x, ks[i]? = some x ∧ ∃ t, v = .int x.c t := by
      have h1 := (List.getElem?_eq_some_iff.mp hv).1
      refine ⟨ks[i]'(by omega), List.getElem?_eq_getElem (by omega), ?_⟩
      obtain ⟨t, ht⟩ := hi.get i (ks[i]'(by omega)).c (by simp [List.getElem?_map, List.getElem?_eq_getElem (show i < ks.length by omega)])
      rw [ht] at hv
      exact ⟨t, (Option.some.inj hv).symm⟩
    have okx := hok x (List.mem_of_getElem? hx)
    have hrx : refused x = false := by
      have := List.any_eq_false.mp hnr x (List.mem_of_getElem? hx)
      simpa using this
    replace F := Fr.pin [(Str.ofString "widest", Value.int k t), (Str.ofString "data", .ref d), (Str.ofString "is_wide_ambiguous", .bool wide), (Str.ofString "cluster", .ref cl)] F (all4 (m := m) m1 m2 m3 m4)
    replace N := news_two (sn := []) N hcl (fun _ h => nomatch h)
    k_with "call ref" => ((with_reducible show wpAny _ _ (PySem.call (Value.ref 164) _ _) _ _ _); (refine' use_pure (ccol_cc G' d D ms sem n x _ wide okx hrx) hB ?kF ?kN ?kp ?kd ?ku ?_); (case kF => k_asm); (case kN => k_asm); (case kp => exact P.keep (Fr.keep (by k_asm))); (case kd => k_dflt (exact lim1 hdp rfl)); (case ku => k_dflt (exact lim3 hun rfl)); intro v9 h9 tk9 hR9 hk9 F9 N9; (obtain ⟨t9, e9⟩ := hR9); subst e9; k_sweep)
    try dsimp only
    k_steps
    all_goals (try ((with_reducible refine hQ9 _ _ _ ?_); (try dsimp only)))
    refine ⟨.head _, _, _, ?_, rfl, rfl, rfl, rfl⟩
    subst hkw
    dsimp only
    rw [List.take_add_one, hx, Option.toList_some]
    unfold widestF
    rw [List.foldl_append, List.foldl_cons, List.foldl_nil]
    split <;> omega
  · rintro m nw h tk ⟨hcl, k, t, hkw, m1, m2, m3, m4⟩ F N
    replace F := Fr.pin [(Str.ofString "widest", Value.int k t), (Str.ofString "data", .ref d), (Str.ofString "is_wide_ambiguous", .bool wide), (Str.ofString "cluster", .ref cl)] F (all4 (m := m) m1 m2 m3 m4)
    replace N : News g L h [(cl, PySem.W.listOf cvs.toArray 0)] := news_perm N (fun q hq => by rw [List.mem_singleton.mp hq]; exact hcl)
    replace F : Fr g L h _ := F
    have hkw' : k = widestF wide ks := by rw [hkw]; dsimp only; rw [hlx, List.take_length]
    try dsimp only
    k_with "call builtin:len" => ((with_reducible show wpAny _ _ (call (Value.builtin "len") [Value.ref _]) _ _ _); (refine' len_any (vs := cvs) ?l (by omega) ?_); (case l => is_list); intro t9 tk9; (try dsimp only))
    cases hw : wishF ks with
    | none =>
      k_with "call ref" => ((with_reducible show wpAny _ _ (PySem.call (Value.ref 174) _ _) _ _ _); (refine' use_pure (wish_cc G' cl d cvs ks D ms sem n hlen hok hne) hB ?kF ?kN ?kp ?kd ?ku ?_); (case kF => k_asm); (case kN => k_asm); (case kp => exact ⟨⟨PySem.W.listOf cvs.toArray 0, News.get (by k_asm) (by k_mem), rfl, _, rfl⟩, hi, P.keep (Fr.keep (by k_asm))⟩); (case kd => k_dflt (exact lim1 hdp rfl)); (case ku => k_dflt (exact lim3 hun rfl)); intro v9 h9 tk9 hR9 hk9 F9 N9; (have e9 := wishR_none hw hR9); subst e9; k_sweep)
      k_steps
      all_goals (try ((with_reducible refine hQ9 _ _ _ ?_); (try dsimp only)))
      all_goals (try dsimp only)
      all_goals (exact hret _ _ _ ⟨led_keep hG (by assumption) (by assumption) (fun q hq => by rw [List.mem_singleton.mp hq]; exact ⟨.head _, hl⟩), _, congrArg (Value.int · _) (by rw [widthF, hnr, hw, hkw']; rfl)⟩)
    | some z =>
      k_with "call ref" => ((with_reducible show wpAny _ _ (PySem.call (Value.ref 174) _ _) _ _ _); (refine' use_pure (wish_cc G' cl d cvs ks D ms sem n hlen hok hne) hB ?kF ?kN ?kp ?kd ?ku ?_); (case kF => k_asm); (case kN => k_asm); (case kp => exact ⟨⟨PySem.W.listOf cvs.toArray 0, News.get (by k_asm) (by k_mem), rfl, _, rfl⟩, hi, P.keep (Fr.keep (by k_asm))⟩); (case kd => k_dflt (exact lim1 hdp rfl)); (case ku => k_dflt (exact lim3 hun rfl)); intro v9 h9 tk9 hR9 hk9 F9 N9; (obtain ⟨u9, e9⟩ := wishR_some hw hR9); subst e9; k_sweep)
      k_steps
      all_goals (try ((with_reducible refine hQ9 _ _ _ ?_); (try dsimp only)))
      all_goals (try dsimp only)
      all_goals (exact hret _ _ _ ⟨led_keep hG (by assumption) (by assumption) (fun q hq => by rw [List.mem_singleton.mp hq]; exact ⟨.head _, hl⟩), _, congrArg (Value.int · _) (by rw [widthF, hnr, hw]; rfl)⟩)
  · exact ⟨.head _, _, _, rfl, rfl, rfl, rfl, rfl⟩
end Mine

end

section
open PySem PySem.W PyProof.Rows PySem.Calls PyProof.Rows.LCg
namespace Mine
set_option maxRecDepth 100000
set_option maxHeartbeats 0
theorem fillX5 : PySem.Challenge.rw_pb0596_01.foot = 6 ∧ K9 = K9 := by
  k_with_none
  k_with "my ne" => (first | (with_reducible first | assumption | exact Ne.symm (by assumption) | exact Mine.nr1 (by assumption) | exact Mine.ns1 (by assumption) | exact Mine.nt1 (by assumption) | exact Mine.nu1 (by assumption) | exact Mine.nr2 (by assumption) | exact Mine.ns2 (by assumption) | exact Mine.nt2 (by assumption) | exact Mine.nu2 (by assumption) | exact Mine.nr3 (by assumption) | exact Mine.ns3 (by assumption) | exact Mine.nt3 (by assumption) | exact Mine.nu3 (by assumption) | exact Mine.nr4 (by assumption) | exact Mine.ns4 (by assumption) | exact Mine.nt4 (by assumption) | exact Mine.nu4 (by assumption) | exact Mine.nr5 (by assumption) | exact Mine.ns5 (by assumption) | exact Mine.nt5 (by assumption) | exact Mine.nu5 (by assumption) | exact Mine.nr6 (by assumption) | exact Mine.ns6 (by assumption) | exact Mine.nt6 (by assumption) | exact Mine.nu6 (by assumption) | exact Mine.nr7 (by assumption) | exact Mine.ns7 (by assumption) | exact Mine.nt7 (by assumption) | exact Mine.nu7 (by assumption) | exact Mine.nr8 (by assumption) | exact Mine.ns8 (by assumption) | exact Mine.nt8 (by assumption) | exact Mine.nu8 (by assumption) | exact Mine.nr9 (by assumption) | exact Mine.ns9 (by assumption) | exact Mine.nr10 (by assumption) | exact Mine.ns10 (by assumption) | exact Mine.nr11 (by assumption) | exact Mine.ns11 (by assumption) | exact Mine.nr12 (by assumption) | exact Mine.ns12 (by assumption) | exact Mine.nw1 (by assumption) | exact Mine.nw2 (by assumption) | exact Mine.nw3 (by assumption) | exact Mine.nw4 (by assumption) | exact Mine.nw5 (by assumption) | exact Mine.nw6 (by assumption) | exact Mine.nk1 (by assumption) | exact Mine.nk2 (by assumption) | exact Mine.nk3 (by assumption) | exact Mine.nk4 (by assumption)) | fail "no")
  k_with "my om" => (first | ((with_reducible show @Eq Int _ _); with_reducible first | assumption | exact Eq.symm (by assumption) | exact Int.toNat_of_nonneg (by assumption)) | fail "no")
  k_with "my om" => (first | ((with_reducible show And (@LE.le Int _ _ _) _); with_reducible first | assumption | (refine Mine.i2 (by assumption) ?_; omega) | (refine Mine.i2' (by assumption) ?_; omega)) | fail "no")
  k_with "my om" => (first | ((with_reducible show @LT.lt Int _ _ _); first | (with_reducible first | assumption | exact Mine.i1' (by assumption) | exact Int.ofNat_lt.mpr (by assumption) | exact And.left (by assumption) | exact And.right (by assumption) | exact Int.lt_of_not_le (by assumption)) | decide +kernel) | fail "no")
  k_with "my om" => (first | ((with_reducible show @LE.le Int _ _ _); first | (with_reducible first | assumption | exact Int.natCast_nonneg _ | exact Int.le_refl _ | exact Mine.i1 _ | exact Int.ofNat_le.mpr (by assumption) | exact Mine.i6 (by assumption) (by assumption) | (refine Mine.i7 ?_; omega) | exact And.left (by assumption) | exact And.right (by assumption) | exact Int.le_of_not_lt (by assumption) | exact Int.le_of_lt (by assumption)) | decide +kernel) | fail "no")
  k_with "my om" => (first | ((with_reducible show @Eq Nat _ _); with_reducible first | assumption | exact Eq.symm (by assumption) | exact Mine.i5 (by assumption) | exact Mine.i4 _ | exact Mine.i3 _ | exact Eq.symm (Mine.i4 _) | exact Nat.add_sub_cancel_left .. | exact Nat.min_eq_left (by assumption) | exact Eq.trans (by assumption) (by assumption) | exact Eq.trans (Eq.symm (by assumption)) (by assumption) | exact Eq.trans (by assumption) (Eq.symm (by assumption))) | fail "no")
  k_with "my om" => (first | ((with_reducible show @LT.lt Nat _ _ _); with_reducible first | assumption | exact Mine.np (by assumption) | exact Mine.nq (by assumption) rfl | exact Mine.nv (by assumption) rfl | exact Mine.ia (by assumption) (by assumption) | exact Mine.ib (by assumption) (by assumption) | exact Nat.lt_of_lt_of_le (by assumption) (by assumption) | exact Nat.succ_lt_succ (by assumption) | exact And.left (by assumption) | exact And.right (by assumption) | exact Nat.lt_of_not_le (by assumption) | exact Mine.ia (Mine.ia (by assumption) (by assumption)) (by assumption) | exact Mine.ib (Mine.ia (by assumption) (by assumption)) (by assumption) | exact Mine.ia (Mine.ib (by assumption) (by assumption)) (by assumption) | exact Mine.ib (Mine.ib (by assumption) (by assumption)) (by assumption)) | fail "no")
  k_with "my om" => (first | ((with_reducible show @LE.le Nat _ _ _); first | (with_reducible first | assumption | exact Mine.nc (by assumption) rfl | exact Nat.le_refl _ | exact Mine.nl (by assumption) (by assumption) | exact Mine.nm (by assumption) (by assumption) | exact Mine.nn (by assumption) (by assumption) | exact Mine.nn (by assumption) (Mine.nc (by assumption) rfl) | exact Mine.nl (by assumption) (Mine.nc (by assumption) rfl) | exact Mine.nm (by assumption) (Mine.nc (by assumption) rfl) | exact Mine.nl (by assumption) (Mine.nl (by assumption) (Mine.nc (by assumption) rfl)) | exact Mine.nl (by assumption) (Mine.nn (by assumption) (Mine.nc (by assumption) rfl)) | exact Mine.nm (by assumption) (Mine.nn (by assumption) (Mine.nc (by assumption) rfl)) | exact Mine.nl (by assumption) (Mine.nm (by assumption) (Mine.nc (by assumption) rfl)) | exact Mine.nm (by assumption) (Mine.nl (by assumption) (Mine.nc (by assumption) rfl)) | exact Mine.nm (by assumption) (Mine.nm (by assumption) (Mine.nc (by assumption) rfl)) | exact Nat.le_add_right _ _ | exact Nat.succ_le_succ (by assumption) | exact Nat.le_of_eq (by assumption) | exact Nat.le_of_eq (Eq.symm (by assumption)) | exact Nat.le_succ_of_le (by assumption) | exact Nat.le_of_not_lt (by assumption) | exact Int.toNat_le_toNat (by assumption) | exact Mine.ig (by assumption) (by assumption) rfl | exact Mine.ih (by assumption) (by assumption) rfl | exact And.left (by assumption) | exact And.right (by assumption) | (refine Mine.ie ?_ (by assumption); omega) | (refine Mine.ie' ?_ (by assumption); omega) | (refine Mine.id1 ?_; omega) | (refine Mine.ij ?_; omega) | (refine Mine.ic (by assumption) rfl ?_; omega)) | exact Mine.nz rfl) | fail "no")
  k_with "my own" => (first | assumption | exact Mine.PAt.of (by assumption) (PySem.SameStack.mark _ _) | exact Mine.PAt.of (by assumption) (PySem.SameStack.unmark _ _) | fail "no")
  k_fill
  exact ⟨rfl, rfl⟩
noncomputable def CxInv (cl d : Addr) (wide : Bool) (lo : Obj) (ks : List Sg) (i : Nat) (m : Str → Option Value) (news : List (Addr × Obj)) : Prop :=
  (cl, lo) ∈ news ∧ ∃ k t, (ks.take i).any refused = false ∧ m (Str.ofString "widest") = some (.int k t) ∧ m (Str.ofString "data") = some (.ref d) ∧ m (Str.ofString "is_wide_ambiguous") = some (.bool wide) ∧ m (Str.ofString "cluster") = some (.ref cl)
theorem ccolsx_cc {w : World} {base : Heap} (G : Gr w base) (cl d : Addr) (cvs : List Value) (ks : List Sg) (D : DS) (ms : Str → Option MS) (sem : Str → Int → DV) (n : Nat) (wide : Bool) (hlen : cvs.length ≤ 9) (hok : ∀ x ∈ ks, SgOk sem x) (hnr : ks.any refused = true) (hnb : base.get? cl = none) (hoff : ∀ b, Sup D ms d b → b ≠ cl) :
   CX w base 182 [.ref cl, .ref d, .bool wide] 6 (fun h => h.get? cl = some (PySem.W.listOf cvs.toArray 0) ∧ IntsAre cvs (ks.map Sg.c) ∧ DatM w h d D ms sem n) := by
  have G' := G
  obtain ⟨X, p, loose, mean, mg, mb, T⟩ := G
  intro dp un outer gd s Q E hdp hun hb hp hff hret
  obtain ⟨hl, hi, hD⟩ := hp
  w_on
  k_dflt (refine enter (binds := [(Str.ofString "cluster", .ref cl), (Str.ofString "data", .ref d), (Str.ofString "is_wide_ambiguous", .bool wide)]) [(cl, PySem.W.listOf cvs.toArray 0)] X T hb (fun q hq => by rw [List.mem_singleton.mp hq]; exact ⟨hl, hnb⟩) (by k_is) (by k_is) (by show dp < recursionLimit; omega) (binds_K (X.keeps hb) rfl (by k_is) rfl rfl rfl) (locs rfl) (fun E9 Q9 g L h₁ g9s d9r t9k o9s hQ9 hE9 hP9 hA9 hB hG X' T' F' N' hL => ?_))
  try dsimp only
  have P : DatM w g d D ms sem n := hD.agree fun b o hb e => hG b o e (by simpa using hoff b hb)
  have hlx : cvs.length = ks.length := by have := hi.length; rw [List.length_map] at this; exact this
  k_unmd
  try k_fold
  k_with "exec For Name Name cons nil" => ((rename Fr _ _ _ _ => lF'); (with_reducible refine For_turns lF' ?_ ?hs ?hE); (case hs => (intro x; k_dflt rfl)); (case hE => k_dflt passes_own))
  k_with "pyIter ref" => ((rename Fr _ _ _ _ => lF'); (rename News _ _ _ _ => lN'); k_dflt (refine' iter_listTurns (lo := PySem.W.listOf cvs.toArray 0) (vs := cvs) rfl lF' lN' (List.Mem.head _) rfl rfl ?_); (clear lF'); intro i' l1)
  k_with "ItemsRest" => (refine Hold.out ?_)
  k_steps
  all_goals (try ((with_reducible refine hQ9 _ _ _ ?_); (try dsimp only)))
  refine items_inv (CxInv cl d wide (PySem.W.listOf cvs.toArray 0) ks) ?_ ?_ ?_
  · rintro i v m nw h tk oI hv ⟨hcl, k, t, hkw, m1, m2, m3, m4⟩ hc F N
    obtain ⟨x, hx, tx, rfl⟩ : ∃ x, ks[i]? = some x ∧ ∃ t, v = .int x.c t := by
      have h1 := (List.getElem?_eq_some_iff.mp hv).1
      refine ⟨ks[i]'(by omega), List.getElem?_eq_getElem (by omega), ?_⟩
      obtain ⟨t, ht⟩ := hi.get i (ks[i]'(by omega)).c (by simp [List.getElem?_map, List.getElem?_eq_getElem (show i < ks.length by omega)])
      rw [ht] at hv
      exact ⟨t, (Option.some.inj hv).symm⟩
    have okx := hok x (List.mem_of_getElem? hx)
    replace F := Fr.pin [(Str.ofString "widest", Value.int k t), (Str.ofString "data", .ref d), (Str.ofString "is_wide_ambiguous", .bool wide), (Str.ofString "cluster", .ref cl)] F (all4 (m := m) m1 m2 m3 m4)
    replace N := news_two (sn := []) N hcl (fun _ h => nomatch h)
    cases hrx : refused x with
    | false =>
      k_with "call ref" => ((with_reducible show wpAny _ _ (PySem.call (Value.ref 164) _ _) _ _ _); (refine' use_pure (ccol_cc G' d D ms sem n x _ wide okx hrx) hB ?kF ?kN ?kp ?kd ?ku ?_); (case kF => k_asm); (case kN => k_asm); (case kp => exact P.keep (Fr.keep (by k_asm))); (case kd => k_dflt (exact lim1 hdp rfl)); (case ku => k_dflt (exact lim3 hun rfl)); intro v9 h9 tk9 hR9 hk9 F9 N9; (obtain ⟨t9, e9⟩ := hR9); subst e9; k_sweep)
      try dsimp only
      k_steps
      all_goals (try ((with_reducible refine hQ9 _ _ _ ?_); (try dsimp only)))
      refine ⟨.head _, _, _, ?_, rfl, rfl, rfl, rfl⟩
      rw [List.take_add_one, hx, Option.toList_some, List.any_append, hkw]
      simp [hrx]
    | true =>
      k_with "call ref" => ((with_reducible show wpAny _ _ (PySem.call (Value.ref 164) _ _) _ _ _); refine Hold.out ?_)
      try dsimp only
      k_steps
      all_goals (try ((with_reducible refine hQ9 _ _ _ ?_); (try dsimp only)))
      rename Fr _ _ _ _ => F8
      rename News _ _ _ _ => N8
      have hkk : Kp s.heap _ := led_keep hG F8 N8 (fun q hq => by rw [List.mem_singleton.mp hq]; exact ⟨by k_mem, hl⟩)
      refine ccolx_cc G' d D ms sem n x _ wide okx hrx (dp + 1) (un + 3) (_ :: outer) gd _ _ _ ?hd1 ?hd2 ?hkB ?hP ?hfr ?hend
      case hd1 => omega
      case hd2 => omega
      case hkB => exact hB.trans F8.keep
      case hP => exact P.keep F8.keep
      case hfr => exact frames_at hff hkk F8 (none_of_sub hb hL) rfl
      case hend =>
        intro e9 h9 tk9 hT
        with_reducible refine hE9 _ _ _ ?_
        try dsimp only
        exact threw_on rfl hkk F8 hL hT fun h' hT' => hret _ _ _ hT'
  · rintro m nw h tk ⟨hcl, k, t, hkw, _⟩ F N
    rw [hlx, List.take_length, hnr] at hkw
    cases hkw
  · exact ⟨.head _, _, _, rfl, rfl, rfl, rfl, rfl⟩
end Mine

end

section
open PySem PySem.W PyProof.Rows PySem.Calls PyProof.V PySem.Spec PySem.SeqAt
namespace Mine
theorem sg_get {g : Heap} {svs : List Value} {xs : List Sg} (hS : Paired (SgAt g) svs xs) {j : Nat} {v : Value} (hv : svs[j]? = some v) : ∃ x, xs[j]? = some x ∧ SgAt g v x := by
  have hl := paired_len hS
  have h1 := (List.getElem?_eq_some_iff.mp hv).1
  exact ⟨xs[j]'(by omega), List.getElem?_eq_getElem _, paired_get hS hv (List.getElem?_eq_getElem _)⟩
theorem paired_mono {α β : Type} {f f' : α → β → Prop} (k : ∀ a b, f a b → f' a b) : ∀ {l : List α} {m : List β}, Paired f l m → Paired f' l m
  | _, _, .nil => .nil
  | _, _, .cons h t => .cons (k _ _ h) (paired_mono k t)
theorem paired_take {α β : Type} {f : α → β → Prop} : ∀ {l : List α} {m : List β} (n : Nat), Paired f l m → Paired f (l.take n) (m.take n)
  | _, _, 0, _ => by simp; exact .nil
  | _, _, _ + 1, .nil => .nil
  | _, _, n + 1, .cons h t => .cons h (paired_take n t)
theorem paired_drop {α β : Type} {f : α → β → Prop} : ∀ {l : List α} {m : List β} (n : Nat), Paired f l m → Paired f (l.drop n) (m.drop n)
  | _, _, 0, h => h
  | _, _, _ + 1, .nil => .nil
  | _, _, n + 1, .cons _ t => paired_drop n t
theorem paired_app {α β : Type} {f : α → β → Prop} : ∀ {l l' : List α} {m m' : List β}, Paired f l m → Paired f l' m' → Paired f (l ++ l') (m ++ m')
  | _, _, _, _, .nil, h => h
  | _, _, _, _, .cons h t, h' => .cons h (paired_app t h')
section
variable {prog : Program} {w : World} {A : Around} {E : Value → Shared → Prop} {s : Shared} {value slice : PySem.Expr} {Q : Value → Shared → Prop}
theorem item_last {l : Addr} {vs : List Value} {u : Tok} (hl : s.heap.IsList l vs.toArray) (hne : vs ≠ []) (h : ∀ v, vs[vs.length - 1]? = some v → Q v s)
    (hs : subscripted slice false (.ref l) (.int (-1) u) = operate [.ref l, .int (-1) u] (getItem (.ref l) (.int (-1) u)) := by with_unfolding_all rfl) :
    wpAny (model prog w) A (subscriptTail value slice (.ref l) (.int (-1) u)) Q E s := by
  have h0 : 0 < vs.length := List.length_pos_iff.mpr hne
  have hx : vs[vs.length - 1]? = some (vs[vs.length - 1]'(Nat.sub_lt h0 Nat.one_pos)) := List.getElem?_eq_getElem _
  exact kde_neg (j := vs.length - 1) hl (by decide) (by decide) (by unfold seqIndex?; simp; rw [Int.add_comm, ← Int.sub_eq_add_neg]; exact ⟨i2 h0 (Nat.le_refl _), i4 _⟩) hx (h _ hx) hs
noncomputable def PairAt (s : Shared) (x : Addr) (v : Value) (p : Str × Str) : Prop := ∃ r t u, v = .ref r ∧ r ≠ x ∧ s.heap.IsTuple r #[.str p.1 t, .str p.2 u]
theorem eqAt_pair {r x : Addr} {a b c d : Str} {t u t' u' : Tok} (hne : r ≠ x) (h1 : s.heap.IsTuple r #[.str a t, .str b u]) (h2 : s.heap.IsTuple x #[.str c t', .str d u']) (hu : A.units < cLine) : EqAt A s (.ref r) (.ref x) (a == c && b == d) := by
  have := RcAt.tuples (A := A) (s := s) (e := fun j => if j = 0 then a == c else b == d) h1 h2 hu (fun j j1 j2 => by
    have : j = 0 ∨ j = 1 := by simp at j1; omega
    rcases this with rfl | rfl
    · exact EqAt.str_str a t c t'
    · exact EqAt.str_str b u d u')
  refine EqAt.of_refs hne ?_
  have e : ((List.range (min #[Value.str a t, .str b u].size #[Value.str c t', .str d u'].size)).all (fun j => if j = 0 then a == c else b == d) && #[Value.str a t, .str b u].size == #[Value.str c t', .str d u'].size) = (a == c && b == d) := by
    show ((List.range 2).all (fun j => if j = 0 then a == c else b == d) && (2 == 2)) = _
    simp [List.range_succ]
  rw [e] at this
  exact this
open Classical in
theorem in_pairs {l x : Addr} {items : List Value} {ps : List (Str × Str)} {a b : Str} {t u : Tok} (hl : s.heap.IsList l items.toArray) (hx : s.heap.IsTuple x #[.str a t, .str b u]) (hp : Paired (PairAt s x) items ps) (hu : A.units + 1 < cLine) (h : Q (.bool (ps.any fun p => p.1 == a && p.2 == b)) s) :
    wpAny (model prog w) A (compareOp .In (.ref x) (.ref l)) Q E s := by
  have uniq : ∀ v p p', PairAt s x v p → PairAt s x v p' → p = p' := by
    rintro _ ⟨p1, p2⟩ ⟨q1, q2⟩ ⟨r, t, u, rfl, _, o, ho, _, n, hd⟩ ⟨r', t', u', e, _, o', ho', _, n', hd'⟩
    cases e
    rw [ho] at ho'; cases ho'
    rw [hd] at hd'
    cases hd'
    rfl
  let e : Value → Bool := fun v => if h : ∃ p, PairAt s x v p then (h.choose.1 == a && h.choose.2 == b) else false
  have he : ∀ v p, PairAt s x v p → e v = (p.1 == a && p.2 == b) := fun v p hv => by
    have hex : ∃ p, PairAt s x v p := ⟨p, hv⟩
    show (if h : ∃ p, PairAt s x v p then (h.choose.1 == a && h.choose.2 == b) else false) = _
    rw [dif_pos hex, uniq v _ p hex.choose_spec hv]
  refine in_listAt e hl (fun v hv => ?_) ?_
  · have hv' : v ∈ items := by simpa using hv
    obtain ⟨i, hi, rfl⟩ := List.getElem_of_mem hv'
    have hl := paired_len hp
    have hpi := paired_get hp (List.getElem?_eq_getElem hi) (List.getElem?_eq_getElem (show i < ps.length by omega))
    rw [he _ _ hpi]
    obtain ⟨r, t', u', er, hne, ht⟩ := hpi
    rw [er]
    exact eqAt_pair hne ht hx (by show A.units + 1 < cLine; exact hu)
  · have : items.toArray.any e = ps.any fun p => p.1 == a && p.2 == b := by
      rw [← Array.any_toList]
      show items.any e = _
      clear hl h
      induction hp with
      | nil => rfl
      | cons h1 t ih => rw [List.any_cons, List.any_cons, he _ _ h1, ih]
    rw [this]; exact h
end
section
variable {prog : Program} {w : World} {A : Around} {E : Value → Shared → Prop} {s : Shared} {value slice : PySem.Expr} {Q : Value → Shared → Prop} {g : Heap} {L t : Addr} {m : Str → Option Value} {a0 a1 a2 a3 a4 a5 : Value} {u : Tok}
theorem six0 (T : IsTup g t #[a0, a1, a2, a3, a4, a5]) (F : Fr g L s.heap m) (h : Q a0 s)
    (hs : subscripted slice false (.ref t) (.int 0 u) = operate [.ref t, .int 0 u] (getItem (.ref t) (.int 0 u)) := by with_unfolding_all rfl) (hg : ∀ r, letTemporaryGo value (.ref t) r = pure () := by intro _; with_unfolding_all rfl) :
    wpAny (model prog w) A (subscriptTail value slice (.ref t) (.int 0 u)) Q E s := item_tuple (tupUp T F) (by decide) (by decide) (j := 0) rfl rfl h hs hg
theorem six1 (T : IsTup g t #[a0, a1, a2, a3, a4, a5]) (F : Fr g L s.heap m) (h : Q a1 s)
    (hs : subscripted slice false (.ref t) (.int 1 u) = operate [.ref t, .int 1 u] (getItem (.ref t) (.int 1 u)) := by with_unfolding_all rfl) (hg : ∀ r, letTemporaryGo value (.ref t) r = pure () := by intro _; with_unfolding_all rfl) :
    wpAny (model prog w) A (subscriptTail value slice (.ref t) (.int 1 u)) Q E s := item_tuple (tupUp T F) (by decide) (by decide) (j := 1) rfl rfl h hs hg
theorem six2 (T : IsTup g t #[a0, a1, a2, a3, a4, a5]) (F : Fr g L s.heap m) (h : Q a2 s)
    (hs : subscripted slice false (.ref t) (.int 2 u) = operate [.ref t, .int 2 u] (getItem (.ref t) (.int 2 u)) := by with_unfolding_all rfl) (hg : ∀ r, letTemporaryGo value (.ref t) r = pure () := by intro _; with_unfolding_all rfl) :
    wpAny (model prog w) A (subscriptTail value slice (.ref t) (.int 2 u)) Q E s := item_tuple (tupUp T F) (by decide) (by decide) (j := 2) rfl rfl h hs hg
theorem six3 (T : IsTup g t #[a0, a1, a2, a3, a4, a5]) (F : Fr g L s.heap m) (h : Q a3 s)
    (hs : subscripted slice false (.ref t) (.int 3 u) = operate [.ref t, .int 3 u] (getItem (.ref t) (.int 3 u)) := by with_unfolding_all rfl) (hg : ∀ r, letTemporaryGo value (.ref t) r = pure () := by intro _; with_unfolding_all rfl) :
    wpAny (model prog w) A (subscriptTail value slice (.ref t) (.int 3 u)) Q E s := item_tuple (tupUp T F) (by decide) (by decide) (j := 3) rfl rfl h hs hg
theorem six4 (T : IsTup g t #[a0, a1, a2, a3, a4, a5]) (F : Fr g L s.heap m) (h : Q a4 s)
    (hs : subscripted slice false (.ref t) (.int 4 u) = operate [.ref t, .int 4 u] (getItem (.ref t) (.int 4 u)) := by with_unfolding_all rfl) (hg : ∀ r, letTemporaryGo value (.ref t) r = pure () := by intro _; with_unfolding_all rfl) :
    wpAny (model prog w) A (subscriptTail value slice (.ref t) (.int 4 u)) Q E s := item_tuple (tupUp T F) (by decide) (by decide) (j := 4) rfl rfl h hs hg
theorem six5 (T : IsTup g t #[a0, a1, a2, a3, a4, a5]) (F : Fr g L s.heap m) (h : Q a5 s)
    (hs : subscripted slice false (.ref t) (.int 5 u) = operate [.ref t, .int 5 u] (getItem (.ref t) (.int 5 u)) := by with_unfolding_all rfl) (hg : ∀ r, letTemporaryGo value (.ref t) r = pure () := by intro _; with_unfolding_all rfl) :
    wpAny (model prog w) A (subscriptTail value slice (.ref t) (.int 5 u)) Q E s := item_tuple (tupUp T F) (by decide) (by decide) (j := 5) rfl rfl h hs hg
end
end Mine

end

section
open PySem PySem.W PyProof.Rows PySem.Calls
namespace Mine
noncomputable def oneK (l x : Sg) : Option Bool :=
  if l.gcb == S "CR" && x.gcb == S "LF" then some true else if isin [S "CR", S "LF", S "Control"] l.gcb || isin [S "CR", S "LF", S "Control"] x.gcb then some false
    else if isin [S "Extend", S "ZWJ", S "SpacingMark"] x.gcb || l.gcb == S "Prepend" then some true
    else if ((l.gcb == S "L" && x.gcb == S "L") || (l.gcb == S "L" && x.gcb == S "V") || (l.gcb == S "V" && x.gcb == S "V") || (l.gcb == S "V" && x.gcb == S "T") || (l.gcb == S "T" && x.gcb == S "T")) then some true else none
theorem isOne_eq {cl : List Sg} {l x : Sg} (h : cl.getLast? = some l) : isOne cl x = (oneK l x).getD (if x.ep && l.gcb == S "ZWJ" then picL cl else x.gcb == S "Regional_Indicator" && flagsL cl % 2 == 1) := by
  unfold isOne oneK
  rw [h]
  dsimp only
  split
  · rfl
  · split
    · rfl
    · split
      · rfl
      · split
        · rfl
        · rfl
theorem pairs_tab : ∀ l ∈ tab, ∀ x ∈ tab, oneK l x = (pairF l.gcb x.gcb).map not := by decide +kernel
noncomputable def ext (x : Sg) : Bool := x.gcb == S "Extend"
noncomputable def ri (x : Sg) : Bool := x.gcb == S "Regional_Indicator"
noncomputable def zw (x : Sg) : Bool := x.gcb == S "ZWJ"
theorem facts_tab : ∀ x ∈ tab, (x.ep = true → ext x = false ∧ ri x = false ∧ zw x = false) ∧ (zw x = true → ext x = false ∧ ri x = false) ∧ (ext x = true → ri x = false) := by decide +kernel
-- a mark that does not join stands behind a hard one
theorem hard_tab : ∀ l ∈ tab, ∀ x ∈ tab, (ext x || zw x) = true → (oneK l x = some true ∨ (ext l = false ∧ l.ep = false ∧ zw l = false ∧ oneK l x = some false)) := by decide +kernel
theorem ri_tab : ∀ l ∈ tab, ∀ x ∈ tab, ri x = true → ri l = true → oneK l x = none := by decide +kernel
theorem snoc_of {cl : List Sg} {l : Sg} (h : cl.getLast? = some l) : ∃ r, cl.reverse = l :: r := by
  cases e : cl.reverse with
  | nil => simp at e; subst e; cases h
  | cons a r =>
    have := List.head?_reverse (l := cl)
    rw [e, h] at this
    simp at this
    exact ⟨r, by rw [this]⟩
theorem flags_snoc (cl : List Sg) (x : Sg) : flagsL (cl ++ [x]) = if ri x = true then flagsL cl + 1 else 0 := by
  unfold flagsL ri
  rw [List.reverse_append, List.reverse_singleton, List.singleton_append, List.takeWhile_cons]
  split <;> simp_all
noncomputable def picC (cl : List Sg) : Bool := hdEp (cl.reverse.dropWhile fun x => x.gcb == S "Extend")
theorem picC_snoc (cl : List Sg) (x : Sg) : picC (cl ++ [x]) = if ext x = true then picC cl else x.ep := by
  unfold picC ext
  rw [List.reverse_append, List.reverse_singleton, List.singleton_append, List.dropWhile_cons]
  split <;> rfl
theorem picL_snoc (cl : List Sg) (x : Sg) : picL (cl ++ [x]) = picC cl := by
  unfold picL picC
  rw [List.reverse_append, List.reverse_singleton, List.singleton_append]; rfl
theorem picSt_eq {cl : List Sg} {l : Sg} (h : cl.getLast? = some l) : picSt cl = if picC cl = true then 1 else if zw l && picL cl then 2 else 0 := by
  unfold picSt picC zw; rw [h]
theorem last_snoc (cl : List Sg) (x : Sg) : (cl ++ [x]).getLast? = some x := by simp
section
variable {st : St} {cl : List Sg} {l x : Sg}
theorem told_eq (R : RelL st cl) (hl : cl.getLast? = some l) (hlt : l ∈ tab) (hx : x ∈ tab) : isOne cl x = !toldF st x := by
  have hk := R.kind
  rw [hl] at hk
  rw [isOne_eq hl, pairs_tab l hlt x hx]
  unfold toldF
  rw [hk]
  simp only [Option.map_some]
  cases hp : pairF l.gcb x.gcb with
  | some b => rfl
  | none =>
    simp only [Option.map_none, Option.getD_none, Bool.not_not]
    unfold heldF
    have fx := facts_tab x hx
    have fl := facts_tab l hlt
    rw [R.odd, R.pic, picSt_eq hl]
    have ez : (l.gcb == S "ZWJ") = zw l := rfl
    have er : (x.gcb == S "Regional_Indicator") = ri x := rfl
    rw [ez, er]
    cases hep : x.ep with
    | false => simp
    | true =>
      have := fx.1 hep
      rw [this.2.1]
      cases hz : zw l with
      | true =>
        have hc : picC cl = false := by
          obtain ⟨r, hr⟩ := snoc_of hl
          unfold picC
          rw [hr, List.dropWhile_cons, show (l.gcb == S "Extend") = false from (fl.2.1 hz).1]
          cases hle : l.ep with
          | false => exact hle
          | true => have := (fl.1 hle).2.2; rw [hz] at this; cases this
        rw [hc]
        cases picL cl <;> simp
      | false =>
        cases picC cl <;> simp
theorem rel_join (R : RelL st cl) (hl : cl.getLast? = some l) (hlt : l ∈ tab) (hx : x ∈ tab) : RelL (takeF st x) (cl ++ [x]) := by
  have fx := facts_tab x hx
  refine ⟨by simp [takeF], by simp, ?_, ?_⟩
  · rw [flags_snoc]
    show (ri x && !st.odd) = _
    rw [R.odd]
    cases ri x with
    | false => simp
    | true =>
      simp only [Bool.true_and, if_true]
      rcases Nat.mod_two_eq_zero_or_one (flagsL cl) with h | h
      · rw [h, Nat.add_mod, h]; rfl
      · rw [h, Nat.add_mod, h]; rfl
  · rw [picSt_eq (last_snoc cl x), picC_snoc, picL_snoc]
    have hp := R.pic
    rw [picSt_eq hl] at hp
    show (if x.ep = true then (1 : Int) else if (zw x && st.pic == 1) = true then 2 else if (!ext x || st.pic != 1) = true then 0 else st.pic) = _
    have h1 : (st.pic == 1) = picC cl := by
      rw [hp]; cases picC cl
      · cases zw l && picL cl <;> rfl
      · rfl
    cases hep : x.ep with
    | true =>
      have := fx.1 hep
      simp [this.1]
    | false =>
      cases hz : zw x with
      | true =>
        have := (fx.2.1 hz).1
        rw [this, h1]
        cases picC cl <;> simp
      | false =>
        cases he : ext x with
        | false => simp
        | true =>
          have h2 : (st.pic != 1) = !picC cl := by rw [← h1]; rfl
          rw [h2]
          cases hc : picC cl with
          | false => simp
          | true => rw [hc] at hp; simp [hp]
theorem rel_new (R : RelL st cl) (hl : cl.getLast? = some l) (hlt : l ∈ tab) (hx : x ∈ tab) (ho : isOne cl x = false) : RelL (takeF st x) [x] := by
  have fx := facts_tab x hx
  have fl := facts_tab l hlt
  have ho' := ho
  rw [isOne_eq hl] at ho'
  have hp := R.pic
  rw [picSt_eq hl] at hp
  refine ⟨by simp [takeF], by simp, ?_, ?_⟩
  · show (ri x && !st.odd) = _
    have e := flags_snoc [] x
    rw [List.nil_append] at e
    rw [e]
    cases hr : ri x with
    | false => simp
    | true =>
      simp only [Bool.true_and, if_true]
      have hodd : st.odd = false := by
        cases ho2 : st.odd with
        | false => rfl
        | true =>
          have h3 := R.odd
          rw [ho2] at h3
          have hlr : ri l = true := by
            cases q : ri l with
            | true => rfl
            | false =>
              obtain ⟨r, hr'⟩ := snoc_of hl
              have : flagsL cl = 0 := by unfold flagsL; rw [hr', List.takeWhile_cons, show (l.gcb == S "Regional_Indicator") = false from q]; rfl
              rw [this] at h3; cases h3
          rw [ri_tab l hlt x hx hr hlr] at ho'
          have hxe : x.ep = false := by cases q : x.ep with
            | false => rfl
            | true => have := (fx.1 q).2.1; rw [hr] at this; cases this
          have er : (x.gcb == S "Regional_Indicator") = true := hr
          simp only [Option.getD_none, hxe, er, Bool.false_and, Bool.false_eq_true, if_false, Bool.true_and] at ho'
          rw [ho'] at h3; cases h3
      rw [hodd]
      show true = ((flagsL [] + 1) % 2 == 1)
      rfl
  · rw [picSt_eq (l := x) (by simp)]
    have e1 := picC_snoc [] x
    have e2 := picL_snoc [] x
    rw [List.nil_append] at e1 e2
    rw [e1, e2, show picC [] = false from rfl]
    show (if x.ep = true then (1 : Int) else if (zw x && st.pic == 1) = true then 2 else if (!ext x || st.pic != 1) = true then 0 else st.pic) = _
    have key : (ext x || zw x) = true → st.pic = 0 := fun q => by
      rcases hard_tab l hlt x hx q with h | ⟨h1, h2, h3, h4⟩
      · rw [h] at ho'; cases ho'
      · obtain ⟨r, hr⟩ := snoc_of hl
        have hc : picC cl = false := by
          unfold picC
          rw [hr, List.dropWhile_cons, show (l.gcb == S "Extend") = false from h1]
          exact h2
        rw [hp, hc, h3]; rfl
    cases hep : x.ep with
    | true =>
      have := fx.1 hep
      simp [this.1]
    | false =>
      cases hz : zw x with
      | true =>
        have := (fx.2.1 hz).1
        rw [key (by rw [hz]; simp), this]; simp
      | false =>
        cases he : ext x with
        | false => simp
        | true => rw [key (by rw [he]; simp)]; simp
theorem fold_cut : ∀ (xs : List Sg) (st : St) (done : List (List Sg)) (cl : List Sg), RelL st cl → (∀ y ∈ cl, y ∈ tab) → (∀ y ∈ xs, y ∈ tab) →
    xs.foldl stepL (done ++ [cl]) = done ++ [cl ++ (cutG (xs.zip (breaks st xs))).1] ++ (cutG (xs.zip (breaks st xs))).2
  | [], st, done, cl, _, _, _ => by simp [cutG, breaks]
  | x :: r, st, done, cl, R, hc, hx => by
    have hxt := hx x (.head _)
    obtain ⟨l, hl⟩ : ∃ l, cl.getLast? = some l := by
      cases e : cl.getLast? with
      | none => exact absurd (List.getLast?_eq_none_iff.mp e) R.ne
      | some l => exact ⟨l, rfl⟩
    have hlt : l ∈ tab := hc l (List.mem_of_getLast? hl)
    have e := told_eq R hl hlt hxt
    rw [List.foldl_cons, breaks, List.zip_cons_cons, cutG]
    have es : stepL (done ++ [cl]) x = if isOne cl x then done ++ [cl ++ [x]] else done ++ [cl] ++ [[x]] := by
      unfold stepL
      rw [List.getLast?_append]
      simp
    rw [es]
    cases ho : isOne cl x with
    | true =>
      rw [ho] at e
      have e' : toldF st x = false := by cases q : toldF st x <;> simp_all
      rw [if_pos rfl, e', fold_cut r (takeF st x) done (cl ++ [x]) (rel_join R hl hlt hxt) (fun y hy => by
        rcases List.mem_append.mp hy with h | h
        · exact hc y h
        · rw [List.mem_singleton.mp h]; exact hxt) (fun y hy => hx y (.tail _ hy))]
      simp
    | false =>
      rw [ho] at e
      have e' : toldF st x = true := by cases q : toldF st x <;> simp_all
      rw [if_neg (by simp), e', fold_cut r (takeF st x) (done ++ [cl]) [x] (rel_new R hl hlt hxt ho) (fun y hy => by rw [List.mem_singleton.mp hy]; exact hxt) (fun y hy => hx y (.tail _ hy))]
      simp
theorem clusters_eq (xs : List Sg) (h : ∀ y ∈ xs, y ∈ tab) : clustersF xs = clustersL xs := by
  rw [clustersF_cut]
  cases xs with
  | nil => rfl
  | cons x r =>
    have hx := h x (.head _)
    have hR : RelL (takeF st0 x) [x] := by
      have fx := facts_tab x hx
      refine ⟨by simp [takeF], by simp, ?_, ?_⟩
      · have e := flags_snoc [] x
        rw [List.nil_append] at e
        rw [e]
        show (ri x && true) = _
        cases ri x <;> rfl
      · rw [picSt_eq (l := x) (by simp)]
        have e1 := picC_snoc [] x
        have e2 := picL_snoc [] x
        rw [List.nil_append] at e1 e2
        rw [e1, e2, show picC [] = false from rfl]
        show (if x.ep = true then (1 : Int) else if (zw x && (0 : Int) == 1) = true then 2 else if (!ext x || (0 : Int) != 1) = true then 0 else 0) = _
        cases hep : x.ep with
        | true => simp [(fx.1 hep).1]
        | false => cases ext x <;> simp
    have := fold_cut r (takeF st0 x) [] [x] hR (fun y hy => by rw [List.mem_singleton.mp hy]; exact hx) (fun y hy => h y (.tail _ hy))
    show (cutG ((x :: r).zip (breaks st0 (x :: r)))).2 = (x :: r).foldl stepL []
    rw [List.foldl_cons, breaks, List.zip_cons_cons, cutG]
    have e : stepL [] x = [] ++ [[x]] := rfl
    rw [e, this]
    have : toldF st0 x = true := rfl
    rw [this]
    simp
end
theorem plain_law (wide : Bool) (xs : List Sg) (h : ∀ y ∈ xs, y ∈ tab) : (clustersF xs).flatMap (rowF (widthF wide)) = (clustersL xs).flatMap (rowF (columnsL wide)) := by
  rw [clusters_eq xs h, show widthF wide = columnsL wide from funext (cols_eq wide)]
end Mine

end

section
open PySem PySem.W PyProof.Rows PySem.Calls
namespace Mine
structure W1 (xs : List Sg) (k : Int) : Prop where
  lo : -1 ≤ k
  hi : k ≤ (xs.length : Int) - 2
  ex : ∀ j : Nat, k < (j : Int) → (j : Int) ≤ (xs.length : Int) - 2 → ∃ y, xs[j]? = some y ∧ y.gcb = S "Extend"
theorem w1_start {xs : List Sg} (h : 1 ≤ xs.length) : W1 xs ((xs.length : Int) - 2) := ⟨by omega, by omega, fun j h1 h2 => by omega⟩
theorem w1_down {xs : List Sg} {k : Int} {y : Sg} (I : W1 xs k) (h0 : 0 ≤ k) (hy : xs[k.toNat]? = some y) (he : y.gcb = S "Extend") : W1 xs (k - 1) := by
  have := I.lo; have := I.hi
  refine ⟨by omega, by omega, fun j h1 h2 => ?_⟩
  by_cases hj : (j : Int) = k
  · have : j = k.toNat := by omega
    subst this
    exact ⟨y, hy, he⟩
  · exact I.ex j (by omega) h2
theorem drop_ext {xs : List Sg} : ∀ (d n : Nat), n + d ≤ xs.length → (∀ j, n ≤ j → j < n + d → ∃ y, xs[j]? = some y ∧ y.gcb = S "Extend") →
    ((xs.take (n + d)).reverse.dropWhile fun x => x.gcb == S "Extend") = (xs.take n).reverse.dropWhile fun x => x.gcb == S "Extend"
  | 0, n, _, _ => rfl
  | d + 1, n, hl, h => by
    obtain ⟨y, hy, he⟩ := h (n + d) (by omega) (by omega)
    have e : xs.take (n + (d + 1)) = xs.take (n + d) ++ [y] := by rw [← Nat.add_assoc, List.take_add_one, hy, Option.toList_some]
    rw [e, List.reverse_append, List.reverse_singleton, List.singleton_append, List.dropWhile_cons, he]
    simp only [beq_self_eq_true, if_true]
    exact drop_ext d n (by omega) fun j h1 h2 => h j h1 (by omega)
theorem picL_take {xs : List Sg} {k : Int} (I : W1 xs k) : picL xs = hdEp ((xs.take (k + 1).toNat).reverse.dropWhile fun x => x.gcb == S "Extend") := by
  obtain ⟨n, hn⟩ := Int.eq_ofNat_of_zero_le (a := k + 1) (by have := I.lo; omega)
  have e1 : n ≤ xs.length - 1 := by have := I.hi; omega
  rw [hn, Int.toNat_natCast]
  unfold picL
  have e : xs.reverse.tail = (xs.take (xs.length - 1)).reverse := by rw [← List.dropLast_eq_take, List.tail_reverse]
  rw [e]
  have := drop_ext (xs := xs) (xs.length - 1 - n) n (by rw [Nat.add_sub_cancel' e1]; exact Nat.sub_le _ _) fun j h1 h2 => I.ex j (by omega) (by rw [Nat.add_sub_cancel' e1] at h2; omega)
  rw [Nat.add_sub_cancel' e1] at this
  rw [this]
theorem picL_none {xs : List Sg} {k : Int} (I : W1 xs k) (h : ¬ 0 ≤ k) : picL xs = false := by
  have := I.lo
  rw [picL_take I, Int.toNat_eq_zero.mpr (show k + 1 ≤ 0 by omega)]; rfl
theorem picL_at {xs : List Sg} {k : Int} {y : Sg} (I : W1 xs k) (h : 0 ≤ k) (hy : xs[k.toNat]? = some y) (he : ¬ y.gcb = S "Extend") : picL xs = y.ep := by
  rw [picL_take I, show (k + 1).toNat = k.toNat + 1 from Int.toNat_add h (by decide), List.take_add_one, hy, Option.toList_some, List.reverse_append, List.reverse_singleton, List.singleton_append, List.dropWhile_cons]
  rw [show (y.gcb == S "Extend") = false from by simpa using he]
  rfl
structure W2 (xs : List Sg) (f : Int) : Prop where
  lo : 0 ≤ f
  hi : f ≤ (xs.length : Int)
  all : ∀ j : Nat, (j : Int) < f → ∃ y, xs.reverse[j]? = some y ∧ y.gcb = S "Regional_Indicator"
theorem w2_start {xs : List Sg} : W2 xs 0 := ⟨by omega, by omega, fun j h => by omega⟩
theorem rev_at {xs : List Sg} {f : Int} {y : Sg} (h0 : 0 ≤ f) (h1 : f < (xs.length : Int)) (hy : xs[((xs.length : Int) - 1 - f).toNat]? = some y) : xs.reverse[f.toNat]? = some y := by
  rw [List.getElem?_reverse (by omega)]
  rw [← hy]; congr 1
  obtain ⟨n, rfl⟩ := Int.eq_ofNat_of_zero_le h0
  rw [Int.toNat_natCast, Int.sub_sub, Nat.sub_sub]; exact (Int.toNat_sub _ (1 + n)).symm
theorem w2_up {xs : List Sg} {f : Int} {y : Sg} (I : W2 xs f) (h1 : f < (xs.length : Int)) (hy : xs[((xs.length : Int) - 1 - f).toNat]? = some y) (he : y.gcb = S "Regional_Indicator") : W2 xs (f + 1) := by
  have := I.lo
  refine ⟨by omega, by omega, fun j h => ?_⟩
  by_cases hj : (j : Int) = f
  · have : j = f.toNat := by omega
    subst this
    exact ⟨y, rev_at I.lo h1 hy, he⟩
  · exact I.all j (by omega)
theorem take_ri : ∀ {R : List Sg} {n : Nat}, n ≤ R.length → (∀ j, j < n → ∃ y, R[j]? = some y ∧ y.gcb = S "Regional_Indicator") → (n = R.length ∨ ∃ y, R[n]? = some y ∧ ¬ y.gcb = S "Regional_Indicator") →
    (R.takeWhile fun x => x.gcb == S "Regional_Indicator").length = n
  | [], n, h, _, _ => by simp at h; subst h; rfl
  | x :: r, 0, _, _, h => by
    rcases h with h | ⟨y, hy, hn⟩
    · simp at h
    · simp at hy; subst hy
      rw [List.takeWhile_cons, show (x.gcb == S "Regional_Indicator") = false from by simpa using hn]; rfl
  | x :: r, n + 1, hl, ha, h => by
    obtain ⟨y, hy, he⟩ := ha 0 (by omega)
    simp at hy; subst hy
    rw [List.takeWhile_cons, he]
    simp only [beq_self_eq_true, if_true, List.length_cons]
    rw [take_ri (R := r) (n := n) (by simpa using hl) (fun j hj => by simpa using ha (j + 1) (by omega)) (by simpa using h)]
theorem flags_end {xs : List Sg} {f : Int} (I : W2 xs f) (h : ¬ f < (xs.length : Int)) : (flagsL xs : Int) = f := by
  have := I.lo; have := I.hi
  have := take_ri (R := xs.reverse) (n := f.toNat) (by rw [List.length_reverse]; omega) (fun j hj => I.all j (by omega)) (.inl (by rw [List.length_reverse]; omega))
  unfold flagsL; omega
theorem flags_at {xs : List Sg} {f : Int} {y : Sg} (I : W2 xs f) (h1 : f < (xs.length : Int)) (hy : xs[((xs.length : Int) - 1 - f).toNat]? = some y) (he : ¬ y.gcb = S "Regional_Indicator") : (flagsL xs : Int) = f := by
  have := I.lo; have := I.hi
  have := take_ri (R := xs.reverse) (n := f.toNat) (by rw [List.length_reverse]; omega) (fun j hj => I.all j (by omega)) (.inr ⟨y, rev_at I.lo h1 hy, he⟩)
  unfold flagsL; omega
end Mine

end

section
open PySem PySem.W PyProof.Rows PySem.Calls
namespace Mine
set_option maxRecDepth 100000
set_option maxHeartbeats 0
theorem wp_toks {α : Type} {M : Model} {A : Around} {t : Sem α} {Q : α → Shared → Prop} {E : Value → Shared → Prop} {h : Heap} {g : Array GenState} {d : Drawn} {T : Nat} {os : OsState} (k : ∀ T', wpAny M A t Q E ⟨h, g, d, T', os⟩) : wpAny M A t Q E ⟨h, g, d, T + 1, os⟩ := k _
theorem fill25 : PySem.Challenge.rw_pb0596_01.foot = 6 ∧ K9 = K9 := by
  k_with_none
  k_with "my ne" => (first | (with_reducible first | assumption | exact Ne.symm (by assumption) | exact Mine.nr1 (by assumption) | exact Mine.ns1 (by assumption) | exact Mine.nt1 (by assumption) | exact Mine.nu1 (by assumption) | exact Mine.nr2 (by assumption) | exact Mine.ns2 (by assumption) | exact Mine.nt2 (by assumption) | exact Mine.nu2 (by assumption) | exact Mine.nr3 (by assumption) | exact Mine.ns3 (by assumption) | exact Mine.nt3 (by assumption) | exact Mine.nu3 (by assumption) | exact Mine.nr4 (by assumption) | exact Mine.ns4 (by assumption) | exact Mine.nt4 (by assumption) | exact Mine.nu4 (by assumption) | exact Mine.nr5 (by assumption) | exact Mine.ns5 (by assumption) | exact Mine.nt5 (by assumption) | exact Mine.nu5 (by assumption) | exact Mine.nr6 (by assumption) | exact Mine.ns6 (by assumption) | exact Mine.nt6 (by assumption) | exact Mine.nu6 (by assumption) | exact Mine.nr7 (by assumption) | exact Mine.ns7 (by assumption) | exact Mine.nt7 (by assumption) | exact Mine.nu7 (by assumption) | exact Mine.nr8 (by assumption) | exact Mine.ns8 (by assumption) | exact Mine.nt8 (by assumption) | exact Mine.nu8 (by assumption) | exact Mine.nr9 (by assumption) | exact Mine.ns9 (by assumption) | exact Mine.nr10 (by assumption) | exact Mine.ns10 (by assumption) | exact Mine.nr11 (by assumption) | exact Mine.ns11 (by assumption) | exact Mine.nr12 (by assumption) | exact Mine.ns12 (by assumption) | exact Mine.nw1 (by assumption) | exact Mine.nw2 (by assumption) | exact Mine.nw3 (by assumption) | exact Mine.nw4 (by assumption) | exact Mine.nw5 (by assumption) | exact Mine.nw6 (by assumption) | exact Mine.nk1 (by assumption) | exact Mine.nk2 (by assumption) | exact Mine.nk3 (by assumption) | exact Mine.nk4 (by assumption)) | fail "no")
  k_with "my om" => (first | ((with_reducible show @Eq Int _ _); with_reducible first | assumption | exact Eq.symm (by assumption) | exact Int.toNat_of_nonneg (by assumption)) | fail "no")
  k_with "my om" => (first | ((with_reducible show And (@LE.le Int _ _ _) _); with_reducible first | assumption | (refine Mine.i2 (by assumption) ?_; omega) | (refine Mine.i2' (by assumption) ?_; omega)) | fail "no")
  k_with "my om" => (first | ((with_reducible show @LT.lt Int _ _ _); first | (with_reducible first | assumption | exact Mine.i1' (by assumption) | exact Int.ofNat_lt.mpr (by assumption) | exact And.left (by assumption) | exact And.right (by assumption) | exact Int.lt_of_not_le (by assumption)) | decide +kernel) | fail "no")
  k_with "my om" => (first | ((with_reducible show @LE.le Int _ _ _); first | (with_reducible first | assumption | exact Int.natCast_nonneg _ | exact Int.le_refl _ | exact Mine.i1 _ | exact Int.ofNat_le.mpr (by assumption) | exact Mine.i6 (by assumption) (by assumption) | (refine Mine.i7 ?_; omega) | exact And.left (by assumption) | exact And.right (by assumption) | exact Int.le_of_not_lt (by assumption) | exact Int.le_of_lt (by assumption)) | decide +kernel) | fail "no")
  k_with "my om" => (first | ((with_reducible show @Eq Nat _ _); with_reducible first | assumption | exact Eq.symm (by assumption) | exact Mine.i5 (by assumption) | exact Mine.i4 _ | exact Mine.i3 _ | exact Eq.symm (Mine.i4 _) | exact Nat.add_sub_cancel_left .. | exact Nat.min_eq_left (by assumption) | exact Eq.trans (by assumption) (by assumption) | exact Eq.trans (Eq.symm (by assumption)) (by assumption) | exact Eq.trans (by assumption) (Eq.symm (by assumption))) | fail "no")
  k_with "my om" => (first | ((with_reducible show @LT.lt Nat _ _ _); with_reducible first | assumption | exact Mine.np (by assumption) | exact Mine.nq (by assumption) rfl | exact Mine.nv (by assumption) rfl | exact Mine.ia (by assumption) (by assumption) | exact Mine.ib (by assumption) (by assumption) | exact Nat.lt_of_lt_of_le (by assumption) (by assumption) | exact Nat.succ_lt_succ (by assumption) | exact And.left (by assumption) | exact And.right (by assumption) | exact Nat.lt_of_not_le (by assumption) | exact Mine.ia (Mine.ia (by assumption) (by assumption)) (by assumption) | exact Mine.ib (Mine.ia (by assumption) (by assumption)) (by assumption) | exact Mine.ia (Mine.ib (by assumption) (by assumption)) (by assumption) | exact Mine.ib (Mine.ib (by assumption) (by assumption)) (by assumption)) | fail "no")
  k_with "my om" => (first | ((with_reducible show @LE.le Nat _ _ _); first | (with_reducible first | assumption | exact Mine.nc (by assumption) rfl | exact Nat.le_refl _ | exact Mine.nl (by assumption) (by assumption) | exact Mine.nm (by assumption) (by assumption) | exact Mine.nn (by assumption) (by assumption) | exact Mine.nn (by assumption) (Mine.nc (by assumption) rfl) | exact Mine.nl (by assumption) (Mine.nc (by assumption) rfl) | exact Mine.nm (by assumption) (Mine.nc (by assumption) rfl) | exact Mine.nl (by assumption) (Mine.nl (by assumption) (Mine.nc (by assumption) rfl)) | exact Mine.nl (by assumption) (Mine.nn (by assumption) (Mine.nc (by assumption) rfl)) | exact Mine.nm (by assumption) (Mine.nn (by assumption) (Mine.nc (by assumption) rfl)) | exact Mine.nl (by assumption) (Mine.nm (by assumption) (Mine.nc (by assumption) rfl)) | exact Mine.nm (by assumption) (Mine.nl (by assumption) (Mine.nc (by assumption) rfl)) | exact Mine.nm (by assumption) (Mine.nm (by assumption) (Mine.nc (by assumption) rfl)) | exact Nat.le_add_right _ _ | exact Nat.succ_le_succ (by assumption) | exact Nat.le_of_eq (by assumption) | exact Nat.le_of_eq (Eq.symm (by assumption)) | exact Nat.le_succ_of_le (by assumption) | exact Nat.le_of_not_lt (by assumption) | exact Int.toNat_le_toNat (by assumption) | exact Mine.ig (by assumption) (by assumption) rfl | exact Mine.ih (by assumption) (by assumption) rfl | exact And.left (by assumption) | exact And.right (by assumption) | (refine Mine.ie ?_ (by assumption); omega) | (refine Mine.ie' ?_ (by assumption); omega) | (refine Mine.id1 ?_; omega) | (refine Mine.ij ?_; omega) | (refine Mine.ic (by assumption) rfl ?_; omega)) | exact Mine.nz rfl) | fail "no")
  k_with "my own" => (first | assumption | exact Mine.PAt.of (by assumption) (PySem.SameStack.mark _ _) | exact Mine.PAt.of (by assumption) (PySem.SameStack.unmark _ _) | fail "no")
  k_fill
  exact ⟨rfl, rfl⟩
theorem pairAt_of {s : Shared} {r x : Addr} {a b : Str} {t u : Tok} (h : IsTup s.heap r #[.str a t, .str b u]) (hne : r ≠ x) : PairAt s x (.ref r) (a, b) := ⟨r, t, u, rfl, hne, h⟩
section
variable {prog : Program} {w : World} {A : Around} {E : Value → Shared → Prop} {s : Shared} {Q : Value → Shared → Prop} {g : Heap} {L x l r1 r2 r3 r4 r5 : Addr} {a b p1 q1 p2 q2 p3 q3 p4 q4 p5 q5 : Str} {t u t1 u1 t2 u2 t3 u3 t4 u4 t5 u5 : Tok} {rest : List (Addr × Obj)} {P : Prop}
theorem in_pairs5 (N : News g L s.heap ((x, { cls := .type "tuple", data := .seq #[.str a t, .str b u] }) :: (l, PySem.W.listOf #[.ref r1, .ref r2, .ref r3, .ref r4, .ref r5] 0) :: (r5, { cls := .type "tuple", data := .seq #[.str p5 t5, .str q5 u5] }) ::
      (r4, { cls := .type "tuple", data := .seq #[.str p4 t4, .str q4 u4] }) :: (r3, { cls := .type "tuple", data := .seq #[.str p3 t3, .str q3 u3] }) :: (r2, { cls := .type "tuple", data := .seq #[.str p2 t2, .str q2 u2] }) :: (r1, { cls := .type "tuple", data := .seq #[.str p1 t1, .str q1 u1] }) :: rest))
    (lt : (@LT.lt Nat _ l x) ∧ (@LT.lt Nat _ r5 x) ∧ (@LT.lt Nat _ r4 x) ∧ (@LT.lt Nat _ r3 x) ∧ (@LT.lt Nat _ r2 x) ∧ (@LT.lt Nat _ r1 x) ∧ P) (hu : A.units + 1 < cLine)
    (h : Q (.bool ([(p1, q1), (p2, q2), (p3, q3), (p4, q4), (p5, q5)].any fun p => p.1 == a && p.2 == b)) s) : wpAny (model prog w) A (compareOp .In (.ref x) (.ref l)) Q E s :=
  in_pairs (items := [.ref r1, .ref r2, .ref r3, .ref r4, .ref r5]) ⟨_, (N _ (.tail _ (.head _))).1, rfl, _, rfl⟩ ⟨_, (N _ (.head _)).1, rfl, _, rfl⟩
    (.cons ⟨r1, t1, u1, rfl, Nat.ne_of_lt lt.2.2.2.2.2.1, _, (N _ (.tail _ (.tail _ (.tail _ (.tail _ (.tail _ (.tail _ (.head _)))))))).1, rfl, _, rfl⟩
    (.cons ⟨r2, t2, u2, rfl, Nat.ne_of_lt lt.2.2.2.2.1, _, (N _ (.tail _ (.tail _ (.tail _ (.tail _ (.tail _ (.head _))))))).1, rfl, _, rfl⟩
    (.cons ⟨r3, t3, u3, rfl, Nat.ne_of_lt lt.2.2.2.1, _, (N _ (.tail _ (.tail _ (.tail _ (.tail _ (.head _)))))).1, rfl, _, rfl⟩
    (.cons ⟨r4, t4, u4, rfl, Nat.ne_of_lt lt.2.2.1, _, (N _ (.tail _ (.tail _ (.tail _ (.head _))))).1, rfl, _, rfl⟩
    (.cons ⟨r5, t5, u5, rfl, Nat.ne_of_lt lt.2.1, _, (N _ (.tail _ (.tail _ (.head _)))).1, rfl, _, rfl⟩ .nil))))) hu h
end
theorem any_cr {x : Str} (h : (x == Str.ofString "CR") = true) : ([Str.ofString "CR", Str.ofString "LF", Str.ofString "Control"].any fun y => y == x) = true := by
  rw [beq_iff_eq.mp h]; simp
section
variable {svs : List Value} {xs : List Sg} {k f : Int} {y : Sg}
theorem w1_start' (hl : svs.length = xs.length) (h : 1 ≤ xs.length) : W1 xs ((svs.length : Int) - 2) := by rw [hl]; exact w1_start h
theorem w1_down' (I : W1 xs k) (h0 : 0 ≤ k) (hx : xs[k.toNat]? = some y) (he : (y.gcb == Str.ofString "Extend") = true) : W1 xs (k - 1) := w1_down I h0 hx (beq_iff_eq.mp he)
theorem w2_up' (hl : svs.length = xs.length) (I : W2 xs f) (h1 : f < (svs.length : Int)) (hx : xs[((svs.length : Int) - 1 - f).toNat]? = some y) (he : (y.gcb == Str.ofString "Regional_Indicator") = true) : W2 xs (f + 1) := by
  rw [hl] at h1 hx
  exact w2_up I h1 hx (beq_iff_eq.mp he)
theorem w1_bound (hl : svs.length = xs.length) (I : W1 xs k) (h : 0 ≤ k) : 0 ≤ k ∧ k < (svs.length : Int) := by have := I.hi; omega
theorem w2_bound (hl : svs.length = xs.length) (I : W2 xs f) (h : f < (svs.length : Int)) : 0 ≤ (svs.length : Int) - 1 - f ∧ (svs.length : Int) - 1 - f < (svs.length : Int) := by have := I.lo; omega
end
theorem pairs5 {l x : Str} : ([(Str.ofString "L", Str.ofString "L"), (Str.ofString "L", Str.ofString "V"), (Str.ofString "V", Str.ofString "V"), (Str.ofString "V", Str.ofString "T"), (Str.ofString "T", Str.ofString "T")].any fun p => p.fst == l && p.snd == x) =
    ((l == S "L" && x == S "L") || (l == S "L" && x == S "V") || (l == S "V" && x == S "V") || (l == S "V" && x == S "T") || (l == S "T" && x == S "T")) := by
  simp only [List.any_cons, List.any_nil, Bool.or_false, S, Bool.or_assoc]
  simp only [BEq.comm (a := l), BEq.comm (a := x)]
section
variable {cl : List Sg} {l x : Sg}
theorem one1 (h : cl.getLast? = some l) (a : (l.gcb == Str.ofString "CR") = true) (b : (x.gcb == Str.ofString "LF") = true) : Value.bool true = .bool (isOne cl x) := by
  rw [isOne_eq h]; simp [oneK, S, a, b]
theorem one2 (h : cl.getLast? = some l) (a : (l.gcb == Str.ofString "CR") = true) (b : (x.gcb == Str.ofString "LF") = false) : Value.bool false = .bool (isOne cl x) := by
  rw [isOne_eq h]; simp only [oneK, S, isin, a, b, any_cr a]; simp
theorem one3 (h : cl.getLast? = some l) (a : (l.gcb == Str.ofString "CR") = false) (b : ([Str.ofString "CR", Str.ofString "LF", Str.ofString "Control"].any fun y => y == l.gcb) = true) : Value.bool false = .bool (isOne cl x) := by
  rw [isOne_eq h]; simp only [oneK, S, isin, a, b]; simp
theorem one4 (h : cl.getLast? = some l) (a : (l.gcb == Str.ofString "CR") = false) (c : ([Str.ofString "CR", Str.ofString "LF", Str.ofString "Control"].any fun y => y == x.gcb) = true) : Value.bool false = .bool (isOne cl x) := by
  rw [isOne_eq h]; simp only [oneK, S, isin, a, c]; simp
theorem one5 (h : cl.getLast? = some l) (a : (l.gcb == Str.ofString "CR") = false) (b : ([Str.ofString "CR", Str.ofString "LF", Str.ofString "Control"].any fun y => y == l.gcb) = false) (c : ([Str.ofString "CR", Str.ofString "LF", Str.ofString "Control"].any fun y => y == x.gcb) = false)
    (d : ([Str.ofString "Extend", Str.ofString "ZWJ", Str.ofString "SpacingMark"].any fun y => y == x.gcb) = true) : Value.bool true = .bool (isOne cl x) := by
  rw [isOne_eq h]; simp only [oneK, S, isin, a, b, c, d]; simp
theorem one6 (h : cl.getLast? = some l) (a : (l.gcb == Str.ofString "CR") = false) (b : ([Str.ofString "CR", Str.ofString "LF", Str.ofString "Control"].any fun y => y == l.gcb) = false) (c : ([Str.ofString "CR", Str.ofString "LF", Str.ofString "Control"].any fun y => y == x.gcb) = false)
    (d : (l.gcb == Str.ofString "Prepend") = true) : Value.bool true = .bool (isOne cl x) := by
  rw [isOne_eq h]; simp only [oneK, S, isin, a, b, c, d]; simp
theorem one7 (h : cl.getLast? = some l) (a : (l.gcb == Str.ofString "CR") = false) (b : ([Str.ofString "CR", Str.ofString "LF", Str.ofString "Control"].any fun y => y == l.gcb) = false) (c : ([Str.ofString "CR", Str.ofString "LF", Str.ofString "Control"].any fun y => y == x.gcb) = false)
    (d : ([Str.ofString "Extend", Str.ofString "ZWJ", Str.ofString "SpacingMark"].any fun y => y == x.gcb) = false) (e : (l.gcb == Str.ofString "Prepend") = false)
    (f : ([(Str.ofString "L", Str.ofString "L"), (Str.ofString "L", Str.ofString "V"), (Str.ofString "V", Str.ofString "V"), (Str.ofString "V", Str.ofString "T"), (Str.ofString "T", Str.ofString "T")].any fun p => p.fst == l.gcb && p.snd == x.gcb) = true) : Value.bool true = .bool (isOne cl x) := by
  rw [pairs5] at f
  rw [isOne_eq h]; unfold oneK; simp only [S, isin] at f ⊢; simp only [a, b, c, d, e, f]; simp
theorem one8 (h : cl.getLast? = some l) (a : (l.gcb == Str.ofString "CR") = false) (b : ([Str.ofString "CR", Str.ofString "LF", Str.ofString "Control"].any fun y => y == l.gcb) = false) (c : ([Str.ofString "CR", Str.ofString "LF", Str.ofString "Control"].any fun y => y == x.gcb) = false)
    (d : ([Str.ofString "Extend", Str.ofString "ZWJ", Str.ofString "SpacingMark"].any fun y => y == x.gcb) = false) (e : (l.gcb == Str.ofString "Prepend") = false)
    (f : ([(Str.ofString "L", Str.ofString "L"), (Str.ofString "L", Str.ofString "V"), (Str.ofString "V", Str.ofString "V"), (Str.ofString "V", Str.ofString "T"), (Str.ofString "T", Str.ofString "T")].any fun p => p.fst == l.gcb && p.snd == x.gcb) = false) :
    isOne cl x = (if x.ep && l.gcb == S "ZWJ" then picL cl else x.gcb == S "Regional_Indicator" && flagsL cl % 2 == 1) := by
  rw [pairs5] at f
  rw [isOne_eq h]
  have : oneK l x = none := by unfold oneK; simp only [S, isin] at f ⊢; simp only [a, b, c, d, e, f]; simp
  rw [this]; rfl
theorem odd_fmod {n : Nat} {f : Int} (h : (n : Int) = f) : (f.fmod 2 == 1) = (n % 2 == 1) := by
  subst h
  rw [Int.fmod_eq_emod_of_nonneg _ (by omega), Bool.eq_iff_iff, beq_iff_eq, beq_iff_eq]; omega
end
section
variable {svs : List Value} {xs : List Sg} {l y x9 x8 : Sg} {k : Int}
theorem fin1 (I : W1 xs k) (a : y.ep = true) (b : (l.gcb == Str.ofString "ZWJ") = true) (h : 0 ≤ k) (c : (x8.gcb == Str.ofString "Extend") = false) (h1 : xs[k.toNat]? = some x8) (h2 : xs[k.toNat]? = some x9) :
    (if (y.ep && l.gcb == S "ZWJ") = true then picL xs else y.gcb == S "Regional_Indicator" && flagsL xs % 2 == 1) = x9.ep := by
  simp only [S, a, b, Bool.and_self, if_true]
  have e : x8 = x9 := Option.some.inj (h1.symm.trans h2)
  subst e
  exact picL_at I h h1 (by simpa [S] using c)
theorem fin2 (I : W1 xs k) (a : y.ep = true) (b : (l.gcb == Str.ofString "ZWJ") = true) (h : ¬ 0 ≤ k) :
    (if (y.ep && l.gcb == S "ZWJ") = true then picL xs else y.gcb == S "Regional_Indicator" && flagsL xs % 2 == 1) = decide (0 ≤ k) := by
  simp only [S, a, b, Bool.and_self, if_true]
  rw [picL_none I h]; simp [h]
theorem noZ1 (a : y.ep = true) (b : (l.gcb == Str.ofString "ZWJ") = false) : (y.ep && l.gcb == S "ZWJ") = false := by simp only [S, a, b]; rfl
theorem noZ2 (a : y.ep = false) : (y.ep && l.gcb == S "ZWJ") = false := by rw [a]; rfl
theorem fl_a (hl : svs.length = xs.length) (I : W2 xs k) (h : k < (svs.length : Int)) (hx : xs[((svs.length : Int) - 1 - k).toNat]? = some x9) (c : (x9.gcb == Str.ofString "Regional_Indicator") = false) : (flagsL xs : Int) = k := by
  rw [hl] at h hx
  exact flags_at I h hx (by simpa [S] using c)
theorem fl_b (hl : svs.length = xs.length) (I : W2 xs k) (h : ¬ k < (svs.length : Int)) : (flagsL xs : Int) = k := by
  rw [hl] at h
  exact flags_end I h
theorem fin3 (z : (y.ep && l.gcb == S "ZWJ") = false) (f : (flagsL xs : Int) = k) (c : (y.gcb == Str.ofString "Regional_Indicator") = true) :
    (if (y.ep && l.gcb == S "ZWJ") = true then picL xs else y.gcb == S "Regional_Indicator" && flagsL xs % 2 == 1) = (k.fmod 2 == 1) := by
  rw [z, odd_fmod f]; simp only [S, c]; simp
theorem fin4 (z : (y.ep && l.gcb == S "ZWJ") = false) (c : (y.gcb == Str.ofString "Regional_Indicator") = false) :
    (if (y.ep && l.gcb == S "ZWJ") = true then picL xs else y.gcb == S "Regional_Indicator" && flagsL xs % 2 == 1) = (y.gcb == Str.ofString "Regional_Indicator") := by
  rw [z]; simp only [S, c]; simp
end
theorem last_of {svs : List Value} {xs : List Sg} {l x : Sg} (hl : svs.length = xs.length) (h : xs.getLast? = some l) (hx : xs[svs.length - 1]? = some x) : x = l := by
  rw [List.getLast?_eq_getElem?, ← hl, hx] at h
  exact Option.some.inj h
noncomputable def IoI (s : Shared) (g : Heap) (L sl ty : Addr) (P : Prop) (st : Shared) : Prop := P ∧ ∃ h tk m, st = { s with heap := h, toks := tk } ∧ Fr g L h m ∧ m (Str.ofString "some") = some (.ref sl) ∧ m (Str.ofString "sign") = some (.ref ty)
theorem io_mk {s : Shared} {g h : Heap} {L sl ty : Addr} {m : Str → Option Value} {P : Prop} {tk : Nat} (p : P) (F : Fr g L h m) (m1 : m (Str.ofString "some") = some (.ref sl)) (m2 : m (Str.ofString "sign") = some (.ref ty)) : IoI s g L sl ty P { s with heap := h, toks := tk } := ⟨p, h, tk, m, rfl, F, m1, m2⟩
theorem cut7 {M : Model} {A : Around} {a b c d e f h : Stmt} {tl : List Stmt} {env : Env} {Q : Flow → Shared → Prop} {E : Value → Shared → Prop} {s : Shared} (Inv : Shared → Prop) (key : ∀ st, Inv st → wpAny M A (execs tl env) Q E st)
    (rest : (∀ st, Inv st → wpAny M A (execs tl env) Q E st) → wpAny M A (execs (a :: b :: c :: d :: e :: f :: h :: tl) env) Q E s) : wpAny M A (execs (a :: b :: c :: d :: e :: f :: h :: tl) env) Q E s := rest key
theorem isone_cc {w : World} {base : Heap} (G : Gr w base) (sl : Addr) (svs : List Value) (xs : List Sg) (yv : Value) (y : Sg) (hlen : svs.length ≤ 9) (hne : xs ≠ []) :
   CC w base 316 [.ref sl, yv] 2 (fun h => h.IsList sl svs.toArray ∧ Paired (SgAt h) svs xs ∧ SgAt h yv y) (fun h v h' => Kp h h' ∧ v = .bool (isOne xs y)) := by
  have G' := G
  obtain ⟨X, p, loose, mean, mg, mb, T⟩ := G
  intro dp un fr gd s Q E hdp hun hb hp hret
  obtain ⟨hl, hS, hy⟩ := hp
  w_on
  k_dflt (refine enter (binds := [(Str.ofString "some", .ref sl), (Str.ofString "sign", yv)]) [] X T hb (fun _ h => nomatch h) (by k_is) (by k_is) (by show dp < recursionLimit; omega) (BindsTo.of_eq rfl) (locs rfl) (fun E9 Q9 g L h₁ g9s d9r t9k o9s hQ9 hE9 hP9 hA9 hB hG X' T' F' N' hL => ?_))
  try dsimp only
  have hk : Kp s.heap g := fun b o e => hG _ _ e (fun h => nomatch h)
  have hl' : g.IsList sl svs.toArray := hl.at fun o e => hk _ _ e
  have hS' : Paired (SgAt g) svs xs := paired_mono (fun _ _ z => z.at fun a o e _ => hk _ _ e) hS
  obtain ⟨ty, yc, y1, y2, y3, rfl, hTy⟩ := hy.at fun a o e _ => hk _ _ e
  have hlx : svs.length = xs.length := paired_len hS
  have hne' : svs ≠ [] := fun e => hne (List.eq_nil_of_length_eq_zero (by rw [← hlx, e]; rfl))
  obtain ⟨l, hll⟩ : ∃ l, xs.getLast? = some l := by
    cases e : xs.getLast? with
    | none => exact absurd (List.getLast?_eq_none_iff.mp e) hne
    | some l => exact ⟨l, rfl⟩
  k_unmd
  try k_fold
  k_with "exec Assign" => ((try dsimp only); (with_reducible refine wp_toks ?_); intro tk8)
  k_with "exec If" => ((try dsimp only); (with_reducible refine wp_toks ?_); intro tk8)
  k_with "exec Return some" => ((try dsimp only); (with_reducible refine wp_toks ?_); intro tk8)
  k_with "exec Expr" => ((try dsimp only); (with_reducible refine wp_toks ?_); intro tk8)
  k_with "subscriptTail" => ((try dsimp only); (with_reducible refine wp_toks ?_); intro tk8)
  k_with "newList" => ((try dsimp only); (with_reducible refine wp_toks ?_); intro tk8)
  k_with "newTuple" => ((try dsimp only); (with_reducible refine wp_toks ?_); intro tk8)
  k_with "isTrue Compare" => ((try dsimp only); (with_reducible refine wp_toks ?_); intro tk8)
  k_with "eval Compare" => ((try dsimp only); (with_reducible refine wp_toks ?_); intro tk8)
  k_with "eval BinOp" => ((try dsimp only); (with_reducible refine wp_toks ?_); intro tk8)
  k_with "eval Call" => ((try dsimp only); (with_reducible refine wp_toks ?_); intro tk8)
  k_with "spliced" => ((try dsimp only); (with_reducible refine wp_toks ?_); intro tk8)
  k_with "eval Constant str" => (dsimp only)
  k_with "newTuple" => (dsimp only)
  k_with "newList" => ((rename News _ _ _ _ => N8); (dsimp only at N8); (try dsimp only))
  k_with "exec If" => ((rename News _ _ _ _ => N8); (dsimp only at N8); (try dsimp only))
  k_with "exec Assign" => ((rename News _ _ _ _ => N8); (dsimp only at N8); (try dsimp only))
  k_with "compareOp In str ref" => ((rename News _ _ _ _ => N8); (dsimp only at N8); (try dsimp only))
  k_with "isTrue BoolOp" => ((rename News _ _ _ _ => N8); (dsimp only at N8); (try dsimp only))
  k_with "execs cons" => ((rename News _ _ _ _ => N8); (dsimp only at N8); (try dsimp only))
  k_with "subscriptTail" => ((with_reducible show wpAny _ _ (subscriptTail _ _ (Value.ref _) (Value.int _ _)) _ _ _); (try dsimp only); (refine kba_turn (value' := PySem.Expr.Name (PySem.Str.ofString "_") ⟨0, 0, 0, 0⟩) (fun _ => rfl) ?_); first | (refine six3 (by with_reducible assumption) (by with_reducible assumption) ?_) | (refine six4 (by with_reducible assumption) (by with_reducible assumption) ?_) | (refine six0 (by with_reducible assumption) (by with_reducible assumption) ?_) | (refine six1 (by with_reducible assumption) (by with_reducible assumption) ?_) | (refine six2 (by with_reducible assumption) (by with_reducible assumption) ?_) | (refine six5 (by with_reducible assumption) (by with_reducible assumption) ?_))
  k_with "subscriptTail" => ((with_reducible show wpAny _ _ (subscriptTail _ _ (Value.ref sl) (Value.int _ _)) _ _ _); (with_unfolding_all refine' item_list (xs := svs) ?k1 (by omega) ?k2 ?_); (case k1 => is_list); (case k2 => first | exact w1_bound hlx (by assumption) (by assumption) | exact w2_bound hlx (by assumption) (by assumption)); intro v9 hv9; (obtain ⟨x9, hx9, t9, c9, a9, b9, d9, e9, hT9⟩ := sg_get hS' hv9); subst e9; clear hv9)
  k_with "subscriptTail" => ((with_reducible show wpAny _ _ (subscriptTail _ _ (Value.ref _) (Value.int (-1) _)) _ _ _); (with_unfolding_all refine' item_last (vs := svs) ?k1 hne' ?_); (case k1 => is_list); intro v9 hv9; (obtain ⟨x9, hx9, t9, c9, a9, b9, d9, e9, hT9⟩ := sg_get hS' hv9); (have e8 := last_of hlx hll hx9); subst e8; subst e9; clear hv9)
  k_with "ite" => first | with_reducible refine ite_ff ?_ | with_reducible refine ite_tt ?_
  k_with "execs nil" => (refine wpAny_execs_nil ?_)
  have hdum : IntsAre [] [] := .nil
  have hx1 : 1 ≤ xs.length := List.length_pos_iff.mpr hne
  k_with "exec While BoolOp cons nil" => ((repeat (rename (@LT.lt Nat _ _ _ ∧ _) => c9; clear c9)); k_while (fun script f => W2 xs f) (fun script f => ((xs.length : Int) - f).toNat) "flags"; (try dsimp only))
  k_with "exec While BoolOp cons nil" => ((repeat (rename (@LT.lt Nat _ _ _ ∧ _) => c9; clear c9)); k_while (fun script k => W1 xs k) (fun script k => (k + 1).toNat) "k"; (try dsimp only))
  k_with "state" => first | exact w1_start' hlx hx1 | exact w2_start | exact w1_down' (by assumption) (by assumption) (by assumption) (by assumption) | exact w2_up' hlx (by assumption) (by assumption) (by assumption) (by assumption)
  k_with "measure" => first | (have hm9 := W1.lo (by assumption); omega) | (have hm9 := W2.lo (by assumption); omega)
  k_with "call builtin:len" => ((with_reducible show wpAny _ _ (call (Value.builtin "len") [Value.ref sl]) _ _ _); (refine' len_any (vs := svs) ?l (by omega) ?_); (case l => is_list); intro t9 tk9; (try dsimp only))
  k_with "compareOp In str ref" => ((with_reducible show wpAny _ _ (compareOp _ (Value.str _ _) (Value.ref _)) _ _ _); (with_unfolding_all refine' in_tup_is (b := true) ?k1 ?k2 (any_cr (by assumption)) ?_; (case k1 => exact News.isTup (by k_asm) (by news_mem)); (case k2 => kde_strs); k_whole))
  k_with "compareOp In ref ref" => (k_here; k_dflt (refine' in_pairs5 ?N ?lt ?hu ?_; (case N => assumption); (case lt => assumption); (case hu => (simp only [units_deeper]; omega))))
  refine cut7 (IoI ⟨h₁, g9s, d9r, t9k, o9s⟩ g L sl ty (isOne xs y = (if (y.ep && l.gcb == S "ZWJ") = true then picL xs else y.gcb == S "Regional_Indicator" && flagsL xs % 2 == 1) ∧ (y.ep && l.gcb == S "ZWJ") = false)) ?key ?rest
  case key =>
    clear F' N'
    rintro _ ⟨⟨q8, qz⟩, h, tk, m, rfl, F, m1, m2⟩
    dsimp only
    replace F := Fr.pin [(Str.ofString "some", Value.ref sl), (Str.ofString "sign", .ref ty)] F (fun p hp => by
      rcases List.mem_cons.mp hp with rfl | hp
      · exact m1
      · rw [List.mem_singleton.mp hp]; exact m2)
    replace F : Fr g L h _ := F
    have N : News g L h [] := News.nil
    k_steps
    all_goals (try ((with_reducible refine hQ9 _ _ _ ?_); (try dsimp only)))
    all_goals refine pure_end (s := s) (R := fun v => v = .bool (isOne xs y)) hret hG (by with_reducible assumption) ?_
    all_goals refine Eq.symm (congrArg Value.bool (q8.trans ?_))
    all_goals first
      | exact fin4 qz (by with_reducible assumption)
      | exact fin3 qz (fl_a hlx (by with_reducible assumption) (by with_reducible assumption) (by with_reducible assumption) (by with_reducible assumption)) (by with_reducible assumption)
      | exact fin3 qz (fl_b hlx (by with_reducible assumption) (by with_reducible assumption)) (by with_reducible assumption)
  case rest =>
    intro key
    k_with "execs cons" => ((try dsimp only); (with_reducible refine key _ ?_))
    k_steps
    all_goals (try ((with_reducible refine hQ9 _ _ _ ?_); (try dsimp only)))
    all_goals first
      | (refine io_mk ⟨one8 hll (by with_reducible assumption) (by with_reducible assumption) (by with_reducible assumption) (by with_reducible assumption) (by with_reducible assumption) (by with_reducible assumption), ?_⟩ (by with_reducible assumption) rfl rfl; first | exact noZ2 (by with_reducible assumption) | exact noZ1 (by with_reducible assumption) (by with_reducible assumption))
      | refine pure_end (s := s) (R := fun v => v = .bool (isOne xs y)) hret hG (by with_reducible assumption) ?_
    all_goals first
      | exact one1 hll (by with_reducible assumption) (by with_reducible assumption)
      | exact one2 hll (by with_reducible assumption) (by with_reducible assumption)
      | exact one3 hll (by with_reducible assumption) (by with_reducible assumption)
      | exact one4 hll (by with_reducible assumption) (by with_reducible assumption)
      | exact one5 hll (by with_reducible assumption) (by with_reducible assumption) (by with_reducible assumption) (by with_reducible assumption)
      | exact one6 hll (by with_reducible assumption) (by with_reducible assumption) (by with_reducible assumption) (by with_reducible assumption)
      | exact one7 hll (by with_reducible assumption) (by with_reducible assumption) (by with_reducible assumption) (by with_reducible assumption) (by with_reducible assumption) (by with_reducible assumption)
      | (refine Eq.symm (congrArg Value.bool ((one8 hll (by with_reducible assumption) (by with_reducible assumption) (by with_reducible assumption) (by with_reducible assumption) (by with_reducible assumption) (by with_reducible assumption)).trans ?_)))
    all_goals first
      | exact fin2 (by with_reducible assumption) (by with_reducible assumption) (by with_reducible assumption) (by with_reducible assumption)
      | exact fin1 (by with_reducible assumption) (by with_reducible assumption) (by with_reducible assumption) (by with_reducible assumption) (by with_reducible assumption) (by with_reducible assumption) (by with_reducible assumption)
end Mine

end

section
open PySem PySem.W PyProof.Rows PySem.Calls PyProof.V PySem.Spec PySem.SeqAt
namespace Mine
section
variable {prog : Program} {w : World} {A : Around} {E : Value → Shared → Prop} {s : Shared} {Q : Value → Shared → Prop} {a b : Addr} {vs : List Value}
theorem ne_nil (hl : s.heap.IsList a vs.toArray) (hb : s.heap.IsList b #[]) (hu : A.units < cLine) (h : Q (.bool (!vs.isEmpty)) s) : wpAny (model prog w) A (compareOp .NotEq (.ref a) (.ref b)) Q E s := by
  refine cmp_ofNotEq ?_
  cases vs with
  | nil => exact RcNeAt.lists (e := fun _ => true) hl hb rfl hu (fun j j1 _ => absurd j1 (by simp)) prog w E Q h
  | cons v r => exact RcNeAt.lists_lengths hl hb (by simp) hu prog w E Q h
theorem ne_nil' (hl : s.heap.IsList a vs.toArray) (hb : s.heap.IsList b #[]) (hu : A.units < cLine) (hne : vs ≠ []) (h : Q (.bool true) s) : wpAny (model prog w) A (compareOp .NotEq (.ref a) (.ref b)) Q E s :=
  ne_nil hl hb hu (by rw [show vs.isEmpty = false from by simpa using hne]; exact h)
theorem eq_nil (hl : s.heap.IsList a vs.toArray) (hb : s.heap.IsList b #[]) (hu : A.units < cLine) (h : Q (.bool vs.isEmpty) s) : wpAny (model prog w) A (compareOp .Eq (.ref a) (.ref b)) Q E s := by
  cases vs with
  | nil => exact eq_listAt (e := fun _ => true) hl hb rfl hu (fun j j1 _ => absurd j1 (by simp)) h
  | cons v r => exact eq_list_lengthsAt hl hb (by simp) hu h
end
theorem use_append {prog : Program} {w : World} {A : Around} {E : Value → Shared → Prop} {s : Shared} {Q : Value → Shared → Prop} {g : Heap} {L a : Addr} {m : Str → Option Value} {news : List (Addr × Obj)} {vs : List Value} {k : Nat} {v : Value}
    (F : Fr g L s.heap m) (N : News g L s.heap news) (hm : (a, PySem.W.listOf vs.toArray k) ∈ news) (hz : vs.length ≤ 1000)
    (h : ∀ h', Fr g L h' m → (∀ p, p ∈ news → p.1 ≠ a → h'.get? p.1 = some p.2 ∧ p.1 ≠ L ∧ g.get? p.1 = none) → (h'.get? a = some (PySem.W.listOf (vs ++ [v]).toArray (k + 1)) ∧ a ≠ L ∧ g.get? a = none) → Q .none { s with heap := h' }) :
    wpAny (model prog w) A (call (.builtin "list.append") [.ref a, v]) Q E s := by
  have z := N _ hm
  refine append_at (hsz := by rw [List.size_toArray, sizeLine_eq]; omega) z.1 fun h' hs hD => ?_
  refine h h' ⟨F.ns.sameBut hs (Ne.symm z.2.1), fun b o e => hs.extBut b o (fun q => by rw [q, z.2.2] at e; cases e) (F.keep b o e), F.above⟩ (fun p hp hne => ⟨hs.extBut _ _ hne (N p hp).1, (N p hp).2⟩) ⟨?_, z.2⟩
  rw [hD, List.push_toArray]
end Mine

end

section
open PySem PySem.W PyProof.Rows PySem.Calls PyProof.V PySem.Spec
namespace Mine
section
variable {prog : Program} {w : World} {A : Around} {E : Value → Shared → Prop} {hp : Heap} {g : Array GenState} {d : Drawn} {tk : Nat} {os : OsState} {h₀ : Heap} {L l : Addr} {m : Str → Option Value} {news : List (Addr × Obj)} {value slice : PySem.Expr} {vs : List Value} {Q : Value → Shared → Prop} {x y : Int} {t u : Tok}
theorem slx_upto (F : Fr h₀ L hp m) (N : News h₀ L hp news) (hl : hp.IsList l vs.toArray) (hy : 0 ≤ y)
    (h : ∀ D h', Fr h₀ L h' m → News h₀ L h' ((D, PySem.W.listOf (vs.take y.toNat).toArray 0) :: news) → (∀ p ∈ news, p.1 < D) → Q (.ref D) ⟨h', g, d, tk, os⟩)
    (hs : subscripted slice false (.ref l) (.ref hp.objs.size) = operate [.ref hp.objs.size, .ref l] (getItem (.ref l) (.ref hp.objs.size))) (ht : ∀ r, letTemporaryGo value (.ref l) r = pure ()) (hz : vs.length ≤ 1000) :
    wpAny (model prog w) A (subscriptTail value slice (.ref l) (.ref hp.objs.size)) Q E ⟨hp.push { cls := .type "slice", data := .fields #[.none, .int y t, .none] }, g, d, tk, os⟩ :=
  sl_upto (s := ⟨hp, g, d, tk, os⟩) F N hl hy h hs ht hz
theorem slx_from (F : Fr h₀ L hp m) (N : News h₀ L hp news) (hl : hp.IsList l vs.toArray) (hx : 0 ≤ x)
    (h : ∀ D h', Fr h₀ L h' m → News h₀ L h' ((D, PySem.W.listOf (vs.drop x.toNat).toArray 0) :: news) → (∀ p ∈ news, p.1 < D) → Q (.ref D) ⟨h', g, d, tk, os⟩)
    (hs : subscripted slice false (.ref l) (.ref hp.objs.size) = operate [.ref hp.objs.size, .ref l] (getItem (.ref l) (.ref hp.objs.size))) (ht : ∀ r, letTemporaryGo value (.ref l) r = pure ()) (hz : vs.length ≤ 1000) :
    wpAny (model prog w) A (subscriptTail value slice (.ref l) (.ref hp.objs.size)) Q E ⟨hp.push { cls := .type "slice", data := .fields #[.int x t, .none, .none] }, g, d, tk, os⟩ :=
  sl_from (s := ⟨hp, g, d, tk, os⟩) F N hl hx h hs ht hz
theorem slx_last2 (F : Fr h₀ L hp m) (N : News h₀ L hp news) (hl : hp.IsList l vs.toArray)
    (h : ∀ D h', Fr h₀ L h' m → News h₀ L h' ((D, PySem.W.listOf (vs.drop (vs.length - 2)).toArray 0) :: news) → (∀ p ∈ news, p.1 < D) → Q (.ref D) ⟨h', g, d, tk, os⟩)
    (hs : subscripted slice false (.ref l) (.ref hp.objs.size) = operate [.ref hp.objs.size, .ref l] (getItem (.ref l) (.ref hp.objs.size))) (ht : ∀ r, letTemporaryGo value (.ref l) r = pure ()) (hz : vs.length ≤ 1000) :
    wpAny (model prog w) A (subscriptTail value slice (.ref l) (.ref hp.objs.size)) Q E ⟨hp.push { cls := .type "slice", data := .fields #[.int (-2) t, .none, .none] }, g, d, tk, os⟩ :=
  sl_last2 (s := ⟨hp, g, d, tk, os⟩) F N hl h hs ht hz
theorem slx_cut (a b : Nat) (hab : a ≤ b) (F : Fr h₀ L hp m) (N : News h₀ L hp news) (hl : hp.IsList l vs.toArray)
    (h : ∀ D h', Fr h₀ L h' m → News h₀ L h' ((D, PySem.W.listOf ((vs.drop a).take (b - a)).toArray 0) :: news) → (∀ p ∈ news, p.1 < D) → Q (.ref D) ⟨h', g, d, tk, os⟩)
    (hs : subscripted slice false (.ref l) (.ref hp.objs.size) = operate [.ref hp.objs.size, .ref l] (getItem (.ref l) (.ref hp.objs.size))) (ht : ∀ r, letTemporaryGo value (.ref l) r = pure ()) (hz : vs.length ≤ 1000) :
    wpAny (model prog w) A (subscriptTail value slice (.ref l) (.ref hp.objs.size)) Q E ⟨hp.push { cls := .type "slice", data := .fields #[.int (a : Int) t, .int (b : Int) u, .none] }, g, d, tk, os⟩ :=
  sl_cut (s := ⟨hp, g, d, tk, os⟩) a b hab F N hl h hs ht hz
end
end Mine

end

section
open PySem PySem.W PyProof.Rows PySem.Calls PyProof.Rows.LCg
namespace Mine
set_option maxRecDepth 100000
set_option maxHeartbeats 0
theorem fill27 : PySem.Challenge.rw_pb0596_01.foot = 6 ∧ K9 = K9 := by
  k_with_none
  k_with "my ne" => (first | (with_reducible first | assumption | exact Ne.symm (by assumption) | exact Mine.nr1 (by assumption) | exact Mine.ns1 (by assumption) | exact Mine.nt1 (by assumption) | exact Mine.nu1 (by assumption) | exact Mine.nr2 (by assumption) | exact Mine.ns2 (by assumption) | exact Mine.nt2 (by assumption) | exact Mine.nu2 (by assumption) | exact Mine.nr3 (by assumption) | exact Mine.ns3 (by assumption) | exact Mine.nt3 (by assumption) | exact Mine.nu3 (by assumption) | exact Mine.nr4 (by assumption) | exact Mine.ns4 (by assumption) | exact Mine.nt4 (by assumption) | exact Mine.nu4 (by assumption) | exact Mine.nr5 (by assumption) | exact Mine.ns5 (by assumption) | exact Mine.nt5 (by assumption) | exact Mine.nu5 (by assumption) | exact Mine.nr6 (by assumption) | exact Mine.ns6 (by assumption) | exact Mine.nt6 (by assumption) | exact Mine.nu6 (by assumption) | exact Mine.nr7 (by assumption) | exact Mine.ns7 (by assumption) | exact Mine.nt7 (by assumption) | exact Mine.nu7 (by assumption) | exact Mine.nr8 (by assumption) | exact Mine.ns8 (by assumption) | exact Mine.nt8 (by assumption) | exact Mine.nu8 (by assumption) | exact Mine.nr9 (by assumption) | exact Mine.ns9 (by assumption) | exact Mine.nr10 (by assumption) | exact Mine.ns10 (by assumption) | exact Mine.nr11 (by assumption) | exact Mine.ns11 (by assumption) | exact Mine.nr12 (by assumption) | exact Mine.ns12 (by assumption) | exact Mine.nw1 (by assumption) | exact Mine.nw2 (by assumption) | exact Mine.nw3 (by assumption) | exact Mine.nw4 (by assumption) | exact Mine.nw5 (by assumption) | exact Mine.nw6 (by assumption) | exact Mine.nk1 (by assumption) | exact Mine.nk2 (by assumption) | exact Mine.nk3 (by assumption) | exact Mine.nk4 (by assumption)) | fail "no")
  k_with "my om" => (first | ((with_reducible show @Eq Int _ _); with_reducible first | assumption | exact Eq.symm (by assumption) | exact Int.toNat_of_nonneg (by assumption)) | fail "no")
  k_with "my om" => (first | ((with_reducible show And (@LE.le Int _ _ _) _); with_reducible first | assumption | (refine Mine.i2 (by assumption) ?_; omega) | (refine Mine.i2' (by assumption) ?_; omega)) | fail "no")
  k_with "my om" => (first | ((with_reducible show @LT.lt Int _ _ _); first | (with_reducible first | assumption | exact Mine.i1' (by assumption) | exact Int.ofNat_lt.mpr (by assumption) | exact And.left (by assumption) | exact And.right (by assumption) | exact Int.lt_of_not_le (by assumption)) | decide +kernel) | fail "no")
  k_with "my om" => (first | ((with_reducible show @LE.le Int _ _ _); first | (with_reducible first | assumption | exact Int.natCast_nonneg _ | exact Int.le_refl _ | exact Mine.i1 _ | exact Int.ofNat_le.mpr (by assumption) | exact Mine.i6 (by assumption) (by assumption) | (refine Mine.i7 ?_; omega) | exact And.left (by assumption) | exact And.right (by assumption) | exact Int.le_of_not_lt (by assumption) | exact Int.le_of_lt (by assumption)) | decide +kernel) | fail "no")
  k_with "my om" => (first | ((with_reducible show @Eq Nat _ _); with_reducible first | assumption | exact Eq.symm (by assumption) | exact Mine.i5 (by assumption) | exact Mine.i4 _ | exact Mine.i3 _ | exact Eq.symm (Mine.i4 _) | exact Nat.add_sub_cancel_left .. | exact Nat.min_eq_left (by assumption) | exact Eq.trans (by assumption) (by assumption) | exact Eq.trans (Eq.symm (by assumption)) (by assumption) | exact Eq.trans (by assumption) (Eq.symm (by assumption))) | fail "no")
  k_with "my om" => (first | ((with_reducible show @LT.lt Nat _ _ _); with_reducible first | assumption | exact Mine.np (by assumption) | exact Mine.nq (by assumption) rfl | exact Mine.nv (by assumption) rfl | exact Mine.ia (by assumption) (by assumption) | exact Mine.ib (by assumption) (by assumption) | exact Nat.lt_of_lt_of_le (by assumption) (by assumption) | exact Nat.succ_lt_succ (by assumption) | exact And.left (by assumption) | exact And.right (by assumption) | exact Nat.lt_of_not_le (by assumption) | exact Mine.ia (Mine.ia (by assumption) (by assumption)) (by assumption) | exact Mine.ib (Mine.ia (by assumption) (by assumption)) (by assumption) | exact Mine.ia (Mine.ib (by assumption) (by assumption)) (by assumption) | exact Mine.ib (Mine.ib (by assumption) (by assumption)) (by assumption)) | fail "no")
  k_with "my om" => (first | ((with_reducible show @LE.le Nat _ _ _); first | (with_reducible first | assumption | exact Mine.nc (by assumption) rfl | exact Nat.le_refl _ | exact Mine.nl (by assumption) (by assumption) | exact Mine.nm (by assumption) (by assumption) | exact Mine.nn (by assumption) (by assumption) | exact Mine.nn (by assumption) (Mine.nc (by assumption) rfl) | exact Mine.nl (by assumption) (Mine.nc (by assumption) rfl) | exact Mine.nm (by assumption) (Mine.nc (by assumption) rfl) | exact Mine.nl (by assumption) (Mine.nl (by assumption) (Mine.nc (by assumption) rfl)) | exact Mine.nl (by assumption) (Mine.nn (by assumption) (Mine.nc (by assumption) rfl)) | exact Mine.nm (by assumption) (Mine.nn (by assumption) (Mine.nc (by assumption) rfl)) | exact Mine.nl (by assumption) (Mine.nm (by assumption) (Mine.nc (by assumption) rfl)) | exact Mine.nm (by assumption) (Mine.nl (by assumption) (Mine.nc (by assumption) rfl)) | exact Mine.nm (by assumption) (Mine.nm (by assumption) (Mine.nc (by assumption) rfl)) | exact Nat.le_add_right _ _ | exact Nat.succ_le_succ (by assumption) | exact Nat.le_of_eq (by assumption) | exact Nat.le_of_eq (Eq.symm (by assumption)) | exact Nat.le_succ_of_le (by assumption) | exact Nat.le_of_not_lt (by assumption) | exact Int.toNat_le_toNat (by assumption) | exact Mine.ig (by assumption) (by assumption) rfl | exact Mine.ih (by assumption) (by assumption) rfl | exact And.left (by assumption) | exact And.right (by assumption) | (refine Mine.ie ?_ (by assumption); omega) | (refine Mine.ie' ?_ (by assumption); omega) | (refine Mine.id1 ?_; omega) | (refine Mine.ij ?_; omega) | (refine Mine.ic (by assumption) rfl ?_; omega)) | exact Mine.nz rfl) | fail "no")
  k_with "my own" => (first | assumption | exact Mine.PAt.of (by assumption) (PySem.SameStack.mark _ _) | exact Mine.PAt.of (by assumption) (PySem.SameStack.unmark _ _) | fail "no")
  k_fill
  exact ⟨rfl, rfl⟩
theorem execs_cut5 {M : Model} {A : Around} {a b c d e : Stmt} {tl : List Stmt} {env : Env} {Q : Flow → Shared → Prop} {E : Value → Shared → Prop} {s : Shared} (Inv : Shared → Prop) (key : ∀ st, Inv st → wpAny M A (execs tl env) Q E st)
    (rest : (∀ st, Inv st → wpAny M A (execs tl env) Q E st) → wpAny M A (execs (a :: b :: c :: d :: e :: tl) env) Q E s) : wpAny M A (execs (a :: b :: c :: d :: e :: tl) env) Q E s := rest key
theorem cols_1 {xs : List Sg} {wide : Bool} (h : xs.any refused = true) : columnsL wide xs = 0 := by simp [columnsL, h]
theorem cols_no {xs : List Sg} {wide : Bool} {n : Nat} (hn : n = xs.length) (h : xs.any refused = false) (h1 : flagF xs = false) (h2 : ¬ (xs.map Sg.c).drop (n - 2) = [65039, 8419]) : columnsL wide xs = if (xs.headD sgD).ep = true ∧ (65039 : Int) ∈ xs.map Sg.c then 2
  else if (xs.headD sgD).ep = true ∧ ((xs.map Sg.c).drop 1).take 1 = [65038] ∧ (xs.drop 1).filter Sg.ep = [] then 1 else widestF wide xs := by
  subst hn
  unfold columnsL lastTwo
  rw [h, h1, decide_eq_false h2]
  simp only [Bool.or_self, Bool.false_eq_true, if_false]
theorem cols_2 {xs : List Sg} {wide : Bool} {n : Nat} (hn : n = xs.length) (h : xs.any refused = false) (h1 : flagF xs = true ∨ (xs.map Sg.c).drop (n - 2) = [65039, 8419]) : columnsL wide xs = 2 := by
  subst hn
  unfold columnsL lastTwo
  rw [h]
  rcases h1 with h1 | h1 <;> simp [h1]
theorem any_mem27 {l : List Int} {k : Int} : (l.any fun x => x == k) = decide (k ∈ l) := by
  rw [Bool.eq_iff_iff, List.any_eq_true, decide_eq_true_iff]
  constructor
  · rintro ⟨a, ha, e⟩; rw [← beq_iff_eq.mp e]; exact ha
  · intro h; exact ⟨k, h, by simp⟩
noncomputable def CInv (s : Shared) (g : Heap) (L sl : Addr) (svs : List Value) (nlo : Nat) (xs : List Sg) (wide : Bool) (st : Shared) : Prop :=
  columnsL wide xs = widestF wide xs ∧ ∃ h tk m, st = { s with heap := h, toks := tk } ∧ Fr g L h m ∧ m (Str.ofString "some") = some (.ref sl) ∧ m (Str.ofString "is_wide") = some (.bool wide) ∧ News g L h [(sl, PySem.W.listOf svs.toArray nlo)]
structure FdInv (sl : Addr) (lo : Obj) (xs : List Sg) (wide : Bool) (i : Nat) (m : Str → Option Value) (news : List (Addr × Obj)) (fd : Addr) (n : Nat) (vs : List Value) (ns : List Int) : Prop where
  m1 : m (Str.ofString "found") = some (.ref fd)
  m2 : m (Str.ofString "is_wide") = some (.bool wide)
  s1 : (sl, lo) ∈ news
  s2 : (fd, PySem.W.listOf vs.toArray n) ∈ news
  hi : IntsAre vs ns
  len : vs.length ≤ i + 1
  ne : 0 < ns.length
  mx : widestF wide (xs.take i) ∈ ns ∧ ∀ a ∈ ns, a ≤ widestF wide (xs.take i)
  fs : fd ≠ sl
noncomputable def FdI (sl : Addr) (lo : Obj) (xs : List Sg) (wide : Bool) (i : Nat) (m : Str → Option Value) (news : List (Addr × Obj)) : Prop := ∃ fd n vs ns, FdInv sl lo xs wide i m news fd n vs ns
theorem widest_nonneg (wide : Bool) : ∀ (cl : List Sg) (m : Int), 0 ≤ m → 0 ≤ cl.foldl (fun m x => max m (colF wide x)) m
  | [], m, h => h
  | x :: r, m, h => by rw [List.foldl_cons]; exact widest_nonneg wide r _ (by omega)
theorem widest_snoc (wide : Bool) (cl : List Sg) (y : Sg) : widestF wide (cl ++ [y]) = max (widestF wide cl) (colF wide y) := by unfold widestF; rw [List.foldl_append]; rfl
section
variable {g h9 : Heap} {L I sl fd : Addr} {oI lo : Obj} {m m' : Str → Option Value} {xs : List Sg} {wide : Bool} {i n tk : Nat} {vs : List Value} {ns : List Int} {y : Sg} {s₁ : Shared} {news nw : List (Addr × Obj)}
theorem fd_skip (V : FdInv sl lo xs wide i m nw fd n vs ns) (et : xs.take (i + 1) = xs.take i ++ [y]) (hc : colF wide y = 0) (m1 : m' (Str.ofString "found") = some (.ref fd)) (m2 : m' (Str.ofString "is_wide") = some (.bool wide)) (s1 : (sl, lo) ∈ news) (s2 : (fd, PySem.W.listOf vs.toArray n) ∈ news) : FdI sl lo xs wide (i + 1) m' news := by
  have e : widestF wide (xs.take (i + 1)) = widestF wide (xs.take i) := by
    rw [et, widest_snoc, hc]
    have := widest_nonneg wide (xs.take i) 0 (by omega)
    exact Int.max_eq_left this
  exact ⟨fd, n, vs, ns, m1, m2, s1, s2, V.hi, by have := V.len; omega, V.ne, by rw [e]; exact V.mx, V.fs⟩
theorem fd_new {k : Int} {t : Tok} (V : FdInv sl lo xs wide i m nw fd n vs ns) (et : xs.take (i + 1) = xs.take i ++ [y]) (hk : colF wide y = k) (F : Fr g L h9 m') (nf : ∀ p, p ∈ news → p.1 ≠ fd → h9.get? p.1 = some p.2 ∧ p.1 ≠ L ∧ g.get? p.1 = none) (hf : h9.get? fd = some (PySem.W.listOf (vs ++ [Value.int k t]).toArray (n + 1)) ∧ fd ≠ L ∧ g.get? fd = none)
    (hI : (I, oI) ∈ news) (hIf : I ≠ fd) (hsl : (sl, lo) ∈ news) (hc : oI.cls = .type "list_iterator") (hlo : lo.cls = .type "list") (m1 : m' (Str.ofString "found") = some (.ref fd)) (m2 : m' (Str.ofString "is_wide") = some (.bool wide)) :
    UnrEndW g L s₁ [(I, oI)] (fun m' n' => SubL [(sl, lo)] n' ∧ FdI sl lo xs wide (i + 1) m' n') { s₁ with heap := h9, toks := tk } := by
  have N : News g L h9 ((sl, lo) :: (fd, PySem.W.listOf (vs ++ [Value.int k t]).toArray (n + 1)) :: []) := by
    rw [news_cons, news_cons]
    exact ⟨nf _ hsl V.fs.symm, hf, News.nil⟩
  refine ⟨h9, tk, m', _, rfl, F, news_cons.mpr ⟨nf _ hI hIf, N⟩, fun p hp q hq e => ?_, ⟨.head _, trivial⟩, fd, n + 1, vs ++ [Value.int k t], ns ++ [k], m1, m2, .head _, .tail _ (.head _), V.hi.append (.cons _ _ .nil), by have := V.len; rw [List.length_append, List.length_singleton]; omega, by simp, ?_, V.fs⟩
  · rw [List.mem_singleton.mp hq] at e
    have z := (N p hp).1
    rw [e] at z
    have z2 : some oI = some p.2 := (nf _ hI hIf).1.symm.trans z
    have z3 : p.2.cls = .type "list" := by
      rcases List.mem_cons.mp hp with rfl | hp
      · exact hlo
      · rw [List.mem_singleton.mp hp]
    rw [← Option.some.inj z2, hc] at z3
    simp at z3
  · rw [et, widest_snoc, hk]
    obtain ⟨h1, h2⟩ := V.mx
    refine ⟨?_, fun a ha => ?_⟩
    · rcases Int.le_total k (widestF wide (xs.take i)) with z | z
      · rw [Int.max_eq_left z]; exact List.mem_append_left _ h1
      · rw [Int.max_eq_right z]; simp
    · rcases List.mem_append.mp ha with ha | ha
      · have := h2 a ha; omega
      · rw [List.mem_singleton.mp ha]; omega
end
theorem max_is {ns : List Int} {M W : Int} (h : W ∈ ns ∧ ∀ a ∈ ns, a ≤ W) (h1 : M ∈ ns) (h2 : ∀ a, a ∈ ns → a ≤ M) : M = W := Int.le_antisymm (h.2 M h1) (h2 W h.1)
theorem news_two27 {g h : Heap} {L : Addr} {news : List (Addr × Obj)} {a b : Addr × Obj} (N : News g L h news) (h1 : a ∈ news) (h2 : b ∈ news) : News g L h [a, b] := fun p hp => by
  rcases List.mem_cons.mp hp with rfl | hp
  · exact N _ h1
  · rw [List.mem_singleton.mp hp]; exact N _ h2
theorem lcols_cc {w : World} {base : Heap} (G : Gr w base) (sl : Addr) (svs : List Value) (xs : List Sg) (wide : Bool) (nlo : Nat) (hlen : svs.length ≤ 9) (hne : xs ≠ []) (hnb : base.get? sl = none) :
   CC w base 328 [.ref sl, .bool wide] 2 (fun h => h.get? sl = some (PySem.W.listOf svs.toArray nlo) ∧ Paired (SgAt h) svs xs) (fun h v h' => Kp h h' ∧ ∃ t, v = .int (columnsL wide xs) t) := by
  have G' := G
  obtain ⟨X, p, loose, mean, mg, mb, T⟩ := G
  intro dp un fr gd s Q E hdp hun hb hp hret
  obtain ⟨hl, hS⟩ := hp
  w_on
  k_dflt (refine enter (binds := [(Str.ofString "some", .ref sl), (Str.ofString "is_wide", .bool wide)]) [(sl, PySem.W.listOf svs.toArray nlo)] X T hb (fun q hq => by rw [List.mem_singleton.mp hq]; exact ⟨hl, hnb⟩) (by k_is) (by k_is) (by show dp < recursionLimit; omega) (BindsTo.of_eq rfl) (locs rfl) (fun E9 Q9 g L h₁ g9s d9r t9k o9s hQ9 hE9 hP9 hA9 hB hG X' T' F' N' hL => ?_))
  try dsimp only
  have hlx : svs.length = xs.length := paired_len hS
  have hS' : Paired (SgAt g) svs xs := paired_mono (fun _ _ z => z.at fun a o e hc => hG a o e (by
    intro hm
    have e' : a = sl := by simpa using hm
    subst e'
    rw [hl] at e; cases e
    simp at hc)) hS
  k_unmd
  try k_fold
  have fin : ∀ h' tk' m' t, Fr g L h' m' → News g L h' [(sl, PySem.W.listOf svs.toArray nlo)] → Q (.int (columnsL wide xs) t) { s with heap := h', toks := tk' } := fun h' tk' m' t F N => hret _ _ _ ⟨led_keep hG F N (fun q hq => by rw [List.mem_singleton.mp hq]; exact ⟨.head _, hl⟩), t, rfl⟩
  have fin2 : ∀ h' tk' m' t k ld, Fr g L h' m' → News g L h' ld → (sl, PySem.W.listOf svs.toArray nlo) ∈ ld → k = columnsL wide xs → Q (.int k t) { s with heap := h', toks := tk' } := fun h' tk' m' t k ld F N hm e => by rw [e]; exact fin h' tk' m' t F (fun q hq => N q (by rw [List.mem_singleton.mp hq]; exact hm))
  k_with "subscriptTail" => ((with_reducible show wpAny _ _ (subscriptTail _ _ (Value.ref _) (Value.int _ _)) _ _ _); (try dsimp only); (refine kba_turn (value' := PySem.Expr.Name (PySem.Str.ofString "_") ⟨0, 0, 0, 0⟩) (fun _ => rfl) ?_); first | (refine six3 (by with_reducible assumption) (by with_reducible assumption) ?_) | (refine six4 (by with_reducible assumption) (by with_reducible assumption) ?_) | (refine six0 (by with_reducible assumption) (by with_reducible assumption) ?_) | (refine six1 (by with_reducible assumption) (by with_reducible assumption) ?_) | (refine six2 (by with_reducible assumption) (by with_reducible assumption) ?_) | (refine six5 (by with_reducible assumption) (by with_reducible assumption) ?_))
  k_with "ite" => first | with_reducible refine ite_ff ?_ | with_reducible refine ite_tt ?_
  k_with "eval Constant str" => (dsimp only)
  k_with "newTuple" => (dsimp only)
  refine execs_cut5 (CInv ⟨h₁, g9s, d9r, t9k, o9s⟩ g L sl svs nlo xs wide) ?key ?rest
  case key =>
    clear F' N'
    rintro _ ⟨hcw, h, tk, m, rfl, F, m1, m2, N⟩
    dsimp only
    replace F := Fr.pin [(Str.ofString "some", Value.ref sl), (Str.ofString "is_wide", .bool wide)] F (fun p hp => by
      rcases List.mem_cons.mp hp with rfl | hp
      · exact m1
      · rw [List.mem_singleton.mp hp]; exact m2)
    replace F : Fr g L h _ := F
    k_with "exec For Name Name cons nil" => ((rename Fr _ _ _ _ => lF'); (with_reducible refine For_turns lF' ?_ ?hs ?hE); (case hs => (intro x; k_dflt rfl)); (case hE => k_dflt passes_own))
    k_with "pyIter ref" => ((rename Fr _ _ _ _ => lF'); (rename News _ _ _ _ => lN'); k_dflt (refine' iter_listTurns (lo := PySem.W.listOf svs.toArray nlo) (vs := svs) rfl lF' lN' (by k_mem) rfl rfl ?_); (clear lF'); intro i' l1)
    k_with "ItemsRest" => (refine Hold.out ?_)
    k_steps
    all_goals (try ((with_reducible refine hQ9 _ _ _ ?_); (try dsimp only)))
    refine items_inv (FdI sl (PySem.W.listOf svs.toArray nlo) xs wide) ?_ ?_ ⟨_, 0, [.int 0 _], [0], rfl, rfl, .tail _ (.head _), .head _, .cons _ _ .nil, by simp, by simp, ?_, ?_⟩
    · rintro i v m nw h tk oI hv ⟨fd, n, vs, ns, I⟩ hc F N
      obtain ⟨y, hy, hSy⟩ := sg_get hS' hv
      have et : xs.take (i + 1) = xs.take i ++ [y] := by rw [List.take_add_one, hy, Option.toList_some]
      have hi9 : i < 9 := by have := (List.getElem?_eq_some_iff.mp hv).1; omega
      obtain ⟨ty, yc, y1, y2, y3, rfl, hTy⟩ := hSy
      replace F := Fr.pin [(Str.ofString "found", .ref fd), (Str.ofString "is_wide", .bool wide)] F (fun p hp => by
        rcases List.mem_cons.mp hp with rfl | hp
        · exact I.m1
        · rw [List.mem_singleton.mp hp]; exact I.m2)
      have N2 : News g L h ((_, oI) :: (sl, PySem.W.listOf svs.toArray nlo) :: (fd, PySem.W.listOf vs.toArray n) :: []) := fun q hq => by
        rcases List.mem_cons.mp hq with rfl | hq
        · exact N _ (.head _)
        rcases List.mem_cons.mp hq with rfl | hq
        · exact N _ (.tail _ I.s1)
        · rw [List.mem_singleton.mp hq]; exact N _ (.tail _ I.s2)
      have hif : i' ≠ fd := ne_news N2 (.head _) (.tail _ (.tail _ (.head _))) (ne_cls (o' := PySem.W.listOf vs.toArray n) (b := "list") hc rfl (by decide))
      have hvl := I.len
      clear N
      k_with "call builtin:list.append" => ((try dsimp only [List.cons_append, List.nil_append]); (refine' use_append (a := fd) (vs := vs) (k := n) ?z1 ?z2 ?z3 (by omega) ?_); (case z1 => k_asm); (case z2 => k_asm); (case z3 => k_mem); intro h9 F9 nf9 hf9; (try dsimp only))
      try dsimp only
      k_steps
      all_goals (try ((with_reducible refine hQ9 _ _ _ ?_); (try dsimp only)))
      all_goals (clear hret fin fin2)
      all_goals first
        | exact fd_skip I et (by clear I; simp_all [colF, isin, S, bne]) rfl rfl (by k_mem) (by k_mem)
        | exact fd_new I et (by clear I; simp_all [colF, isin, S, bne]) F9 nf9 hf9 (by k_mem) hif (by k_mem) hc rfl rfl rfl
    · rintro m nw h tk ⟨fd, n, vs, ns, I⟩ F N
      replace F := Fr.pin [(Str.ofString "found", .ref fd)] F (fun p hp => by rw [List.mem_singleton.mp hp]; exact I.m1)
      replace F : Fr g L h _ := F
      replace N : News g L h [(sl, PySem.W.listOf svs.toArray nlo), (fd, PySem.W.listOf vs.toArray n)] := news_perm N (fun q hq => by
        rcases List.mem_cons.mp hq with rfl | hq
        · exact I.s1
        · rw [List.mem_singleton.mp hq]; exact I.s2)
      have hii := I.hi
      have hnn := I.ne
      k_with "call builtin:max" => (k_here; (with_reducible show wpAny _ _ (call (Value.builtin _) [Value.ref _]) _ _ _); (with_unfolding_all refine' max_list_N (vs := vs) (ns := ns) ?k1 ?k2 ?k3 ?k4 hii hnn ?_; (case k1 => rfl); (case k2 => k_asm); (case k3 => k_asm); (case k4 => is_list)); intro h9 M9 t9 tk9 F9 N9 a9 b9; (try k_sweep))
      try dsimp only
      k_steps
      all_goals (try ((with_reducible refine hQ9 _ _ _ ?_); (try dsimp only)))
      all_goals (try dsimp only)
      all_goals (refine fin2 _ _ _ _ _ _ F9 N9 (.head _) ?_)
      all_goals (rw [hcw]; have mxs := I.mx; rw [hlx, List.take_length] at mxs; exact max_is mxs a9 b9)
    · exact ⟨List.mem_singleton.mpr rfl, fun a ha => by rw [List.mem_singleton.mp ha]; exact Int.le_refl _⟩
    · k_ne
  case rest =>
    intro key
    k_with "execs cons" => ((try dsimp only); (with_reducible refine key _ ?_))
    k_with "CompSrcT" => (k_here; refine Hold.out ?_)
    k_with "CompSrc" => (k_here; refine Hold.out ?_)
    k_steps
    all_goals (try ((with_reducible refine hQ9 _ _ _ ?_); (try dsimp only)))
    rename Fr _ _ _ _ => F2
    rename News _ _ _ _ => N2
    refine LCt.CompSrcT.ledger (by rfl) F2 N2 (.head _) (by rw [List.size_toArray, sizeLine_eq]; omega) (fun gh => compT_pure (fun i ys => ys.isEmpty = !((xs.take i).any refused)) (.inr ⟨_, .head _, rfl, _, rfl⟩) (fun i ys v I oI C oC D' m₂ h tk E' hil hv hK hC hx F N => ?_) (fun yrs hKr0 => ?_) rfl)
    · obtain ⟨y, hy, hSy⟩ := sg_get hS' (by simpa using hv)
      obtain ⟨ty, yc, y1, y2, y3, rfl, hTy⟩ := hSy
      clear F2 N2
      k_steps
      all_goals (try ((with_reducible refine hQ9 _ _ _ ?_); (try dsimp only)))
      · rename News _ _ _ _ => N9
        exact ⟨_, _, rfl, by assumption, (news_cons.mp N9).2⟩
      · have q : refused y = true := by assumption
        rw [List.take_add_one, hy, Option.toList_some, List.any_append, List.any_cons, q]; simp
      · rename News _ _ _ _ => N9
        exact ⟨_, _, rfl, by assumption, (news_cons.mp N9).2⟩
      · have q : refused y = false := by assumption
        rw [List.take_add_one, hy, Option.toList_some, List.any_append, List.any_cons, q, hK]; simp
    · intro Df h tk F N off
      try dsimp only
      clear F2 N2
      have hKr : (!yrs.isEmpty) = xs.any refused := by
        rw [hKr0, List.size_toArray, hlx, List.take_length]; simp
      k_with "compareOp NotEq ref ref" => (k_here; k_dflt (refine' ne_nil (vs := yrs) ?hl ?hb ?hu ?_; (case hl => kmk_list); (case hb => kmk_list); (case hu => (simp only [units_deeper]; omega))))
      have hx1 : 1 ≤ xs.length := List.length_pos_iff.mpr hne
      obtain ⟨x0, rest, hxs⟩ : ∃ x0 rest, xs = x0 :: rest := List.exists_cons_of_ne_nil hne
      k_with "subscriptTail" => ((with_reducible show wpAny _ _ (subscriptTail _ _ (Value.ref sl) (Value.int 0 _)) _ _ _); (with_unfolding_all refine' item_list (xs := svs) ?k1 (by omega) (by constructor <;> omega) ?_); (case k1 => is_list); intro v9 hv9; (obtain ⟨x9, hx9, t9, c9, a9, b9, d9, e9, hT9⟩ := sg_get hS' hv9); subst e9; (have e8 : x9 = x0 := by rw [hxs] at hx9; exact (Option.some.inj hx9).symm); subst e8; clear hv9 hx9)
      k_steps
      all_goals (try ((with_reducible refine hQ9 _ _ _ ?_); (try dsimp only)))
      · rename Fr _ _ _ _ => F2
        rename News _ _ _ _ => N2
        refine CompSrc.ledger (its := svs.toArray) (k := nlo) (by rfl) F2 N2 (by k_mem) (by rw [List.size_toArray, sizeLine_eq]; omega) (fun gh => comp_pure (fun i ys => IntsAre ys ((xs.take i).map Sg.c)) (.inr ⟨_, (by k_mem), rfl, _, rfl⟩) (fun i ys v I oI C oC D' m₂ h tk E' hil hv hK hC hx F N => ?_) (fun ycs hKc => ?_) .nil)
        · obtain ⟨y, hy, hSy⟩ := sg_get hS' (by simpa using hv)
          obtain ⟨ty, yc, y1, y2, y3, rfl, hTy⟩ := hSy
          clear F2 N2
          k_steps
          all_goals (try ((with_reducible refine hQ9 _ _ _ ?_); (try dsimp only)))
          · rename News _ _ _ _ => N9
            exact ⟨_, _, rfl, by assumption, by assumption⟩
          · rw [List.take_add_one, hy, Option.toList_some, List.map_append]
            exact hK.append (.cons _ _ .nil)
        · intro Df2 h2 tk2 F N off2
          try dsimp only
          clear F2 N2
          replace N : News g L h2 [(Df2, lst ycs), (sl, PySem.W.listOf svs.toArray nlo)] := news_two27 N (.head _) (by k_mem)
          have hxl : xs.length ≤ 9 := by omega
          rw [List.size_toArray, hlx, List.take_length] at hKc
          have hcl : ycs.length = xs.length := by have := hKc.length; rw [List.length_map] at this; exact this
          k_with "subscriptTail Name Slice ref ref" => ((try dsimp only); k_dflt (first
            | (refine' slx_upto (vs := svs) ?z1 ?z2 ?z3 ?z4 ?_ ?z5 ?z6 ?z7; (case z1 => k_asm); (case z2 => k_asm); (case z3 => is_list); (case z4 => omega); (case z5 => with_unfolding_all rfl); (case z6 => kmk_pure); (case z7 => omega))
            | (refine' slx_last2 (vs := ycs) ?z1 ?z2 ?z3 ?_ ?z5 ?z6 ?z7; (case z1 => k_asm); (case z2 => k_asm); (case z3 => is_list); (case z5 => with_unfolding_all rfl); (case z6 => kmk_pure); (case z7 => omega))
            | (refine' slx_from (vs := svs) ?z1 ?z2 ?z3 ?z4 ?_ ?z5 ?z6 ?z7; (case z1 => k_asm); (case z2 => k_asm); (case z3 => is_list); (case z4 => omega); (case z5 => with_unfolding_all rfl); (case z6 => kmk_pure); (case z7 => omega))
            | (refine' slx_cut (vs := ycs) 1 2 (by decide) ?z1 ?z2 ?z3 ?_ ?z5 ?z6 ?z7; (case z1 => k_asm); (case z2 => k_asm); (case z3 => is_list); (case z5 => with_unfolding_all rfl); (case z6 => kmk_pure); (case z7 => omega))); intro D' h' F' N' l1; (try k_lt l1); (try dsimp only at N' ⊢); (try k_sweep))
          k_with "compareOp Eq ref ref" => (k_here; k_dflt (refine' eq_nums ?h1 ?h2 ?hl ?hb ?hu ?_; (case hl => kmk_list); (case hb => kmk_list); (case h1 => first | exact paired_ints (hKc.drop _) | exact paired_ints ((hKc.drop _).take _)); (case h2 => first | exact .nil | exact .cons ⟨_, rfl⟩ .nil | exact .cons ⟨_, rfl⟩ (.cons ⟨_, rfl⟩ .nil)); (case hu => (simp only [units_deeper]; omega))))
          k_with "compareOp In int ref" => ((with_reducible show wpAny _ _ (compareOp _ (Value.int _ _) (Value.ref _)) _ _ _); (with_unfolding_all refine' in_list_ints ?k1 hKc ?_); (case k1 => is_list); k_whole)
          k_steps
          all_goals (try ((with_reducible refine hQ9 _ _ _ ?_); (try dsimp only)))
          rename Fr _ _ _ _ => F2
          rename News _ _ _ _ => N2
          refine CompSrc.ledger (its := (svs.take (Int.toNat 2)).toArray) (k := 0) (by rfl) F2 N2 (by k_mem) (by rw [List.size_toArray, List.length_take, sizeLine_eq]; omega) (fun gh => comp_pure (fun i ys => Paired strOf ys ((xs.take i).map Sg.gcb)) (.inr ⟨_, (by k_mem), rfl, _, rfl⟩) (fun i ys v I oI C oC D' m₂ h tk E' hil hv hK hC hx F N => ?_) (fun ygs hKg => ?_) .nil)
          · have hil2 : i < 2 := by rw [List.size_toArray, List.length_take] at hil; have : Int.toNat 2 = 2 := rfl; omega
            have hv2 : svs[i]? = some v := by
              have hv1 : (svs.take (Int.toNat 2))[i]? = some v := by simpa using hv
              rw [List.getElem?_take] at hv1
              rwa [if_pos (by show i < 2; exact hil2)] at hv1
            obtain ⟨y, hy, hSy⟩ := sg_get hS' hv2
            obtain ⟨ty, yc, y1, y2, y3, rfl, hTy⟩ := hSy
            clear F2 N2
            k_steps
            all_goals (try ((with_reducible refine hQ9 _ _ _ ?_); (try dsimp only)))
            · rename News _ _ _ _ => N9
              exact ⟨_, _, rfl, by assumption, by assumption⟩
            · rw [List.take_add_one, hy, Option.toList_some, List.map_append]
              exact paired_app hK (.cons ⟨_, rfl⟩ .nil)
          · intro Df3 h3 tk3 F N off3
            try dsimp only
            clear F2 N2
            replace N : News g L h3 [(Df3, lst ygs), (Df2, lst ycs), (sl, PySem.W.listOf svs.toArray nlo)] := news3 N (.head _) (by k_mem) (by k_mem)
            have hKg' : Paired strOf ygs ((xs.take 2).map Sg.gcb) := by
              rw [List.size_toArray, List.length_take, hlx, show Int.toNat 2 = 2 from rfl] at hKg
              rwa [show xs.take (min 2 xs.length) = xs.take 2 from (by rcases Nat.le_total 2 xs.length with z | z <;> simp [z, List.take_of_length_le])] at hKg
            clear hKg
            k_with "compareOp Eq ref ref" => (k_here; k_dflt (refine' eq_strs hKg' ?h2 ?hl ?hb ?hu ?_; (case hl => kmk_list); (case hb => kmk_list); (case h2 => exact .cons ⟨_, rfl⟩ (.cons ⟨_, rfl⟩ .nil)); (case hu => (simp only [units_deeper]; omega))))
            have hnr : xs.any refused = false := by rw [← hKr, ‹yrs.isEmpty = true›]; rfl
            have hep : (xs.headD sgD).ep = x9.ep := by rw [hxs]; rfl
            have cinv : ∀ h' tk' m' ld, columnsL wide xs = widestF wide xs → Fr g L h' m' → m' (Str.ofString "some") = some (.ref sl) → m' (Str.ofString "is_wide") = some (.bool wide) → News g L h' ld → (sl, PySem.W.listOf svs.toArray nlo) ∈ ld → CInv ⟨h₁, g9s, d9r, t9k, o9s⟩ g L sl svs nlo xs wide ⟨h', g9s, d9r, tk', o9s⟩ :=
              fun h' tk' m' ld e F m1 m2 N hm => ⟨e, h', tk', m', rfl, F, m1, m2, fun q hq => N q (by rw [List.mem_singleton.mp hq]; exact hm)⟩
            k_steps
            all_goals (try ((with_reducible refine hQ9 _ _ _ ?_); (try dsimp only)))
            · try dsimp only
              exact fin2 _ _ _ _ _ _ (by with_reducible assumption) (by with_reducible assumption) (by k_mem) (cols_2 hcl hnr (.inl (decide_eq_true (by assumption)))).symm
            · try dsimp only
              exact fin2 _ _ _ _ _ _ (by with_reducible assumption) (by with_reducible assumption) (by k_mem) (cols_2 hcl hnr (.inr (by assumption))).symm
            · try dsimp only
              refine fin2 _ _ _ _ _ _ (by with_reducible assumption) (by with_reducible assumption) (by k_mem) ?_
              have q : ((xs.map Sg.c).any fun x => x == 65039) = true := by assumption
              rw [any_mem27, decide_eq_true_iff] at q
              rw [cols_no hcl hnr (decide_eq_false (by assumption)) (by assumption), if_pos ⟨hep.trans (by assumption), q⟩]
            · rename Fr _ _ _ _ => F2
              rename News _ _ _ _ => N2
              have q1 := cols_no (wide := wide) hcl hnr (decide_eq_false (by assumption)) (by assumption)
              have q0 : ¬ (65039 : Int) ∈ xs.map Sg.c := by
                have q : ((xs.map Sg.c).any fun x => x == 65039) = false := by assumption
                rw [any_mem27, decide_eq_false_iff_not] at q
                exact q
              rw [if_neg (fun z => q0 z.2)] at q1
              refine LCt.CompSrcT.ledger (by rfl) F2 N2 (.head _) (by rw [List.size_toArray, List.length_drop, sizeLine_eq]; omega) (fun gh => compT_pure (fun i ys => ys.isEmpty = !(((xs.drop 1).take i).any Sg.ep)) (.inr ⟨_, .head _, rfl, _, rfl⟩) (fun i ys v I oI C oC D' m₂ h tk E' hil hv hK hC hx F N => ?_) (fun yes hKe => ?_) rfl)
              · obtain ⟨y, hy, hSy⟩ := sg_get (paired_drop (Int.toNat 1) hS') (by simpa using hv)
                obtain ⟨ty, yc, y1, y2, y3, rfl, hTy⟩ := hSy
                clear F2 N2
                k_steps
                all_goals (try ((with_reducible refine hQ9 _ _ _ ?_); (try dsimp only)))
                · rename News _ _ _ _ => N9
                  exact ⟨_, _, rfl, by assumption, by assumption⟩
                · have q : y.ep = true := by assumption
                  rw [List.take_add_one, show (xs.drop 1)[i]? = some y from hy, Option.toList_some, List.any_append, List.any_cons, q]; simp
                · rename News _ _ _ _ => N9
                  exact ⟨_, _, rfl, by assumption, by assumption⟩
                · have q : y.ep = false := by assumption
                  rw [List.take_add_one, show (xs.drop 1)[i]? = some y from hy, Option.toList_some, List.any_append, List.any_cons, q, hK]; simp
              · intro Df4 h4 tk4 F N off4
                try dsimp only
                clear F2 N2
                replace N : News g L h4 [(Df4, lst yes), (sl, PySem.W.listOf svs.toArray nlo)] := news_two27 N (.head _) (by k_mem)
                have hKe' : yes.isEmpty = !((xs.drop 1).any Sg.ep) := by
                  rw [hKe, List.size_toArray, List.length_drop, hlx, show Int.toNat 1 = 1 from rfl, ← List.length_drop, List.take_length]
                k_with "compareOp Eq ref ref" => (k_here; k_dflt (refine' eq_nil (vs := yes) ?hl ?hb ?hu ?_; (case hl => kmk_list); (case hb => kmk_list); (case hu => (simp only [units_deeper]; omega))))
                k_steps
                all_goals (try ((with_reducible refine hQ9 _ _ _ ?_); (try dsimp only)))
                · try dsimp only
                  refine fin2 _ _ _ _ _ _ (by with_reducible assumption) (by with_reducible assumption) (by k_mem) (q1.trans (if_pos ⟨hep.trans (by assumption), by assumption, ?_⟩)).symm
                  have q : yes.isEmpty = true := by assumption
                  rw [hKe'] at q
                  have q2 : (xs.drop 1).any Sg.ep = false := by simpa using q
                  rw [List.any_eq_false] at q2
                  exact List.filter_eq_nil_iff.mpr q2
                · refine cinv _ _ _ _ (q1.trans (if_neg fun z => ?_)) (by with_reducible assumption) rfl rfl (by with_reducible assumption) (by k_mem)
                  have q : yes.isEmpty = false := by assumption
                  rw [hKe'] at q
                  have q2 : (xs.drop 1).any Sg.ep = true := by simpa using q
                  obtain ⟨a, ha, hb⟩ := List.any_eq_true.mp q2
                  have := List.filter_eq_nil_iff.mp z.2.2 a ha
                  exact this hb
            · have q1 := cols_no (wide := wide) hcl hnr (decide_eq_false (by assumption)) (by assumption)
              have q0 : ¬ (65039 : Int) ∈ xs.map Sg.c := by
                have q : ((xs.map Sg.c).any fun x => x == 65039) = false := by assumption
                rw [any_mem27, decide_eq_false_iff_not] at q
                exact q
              rw [if_neg (fun z => q0 z.2)] at q1
              have q3 : ¬ List.take (2 - 1) (List.drop 1 (List.map Sg.c xs)) = [65038] := by assumption
              exact cinv _ _ _ _ (q1.trans (if_neg fun z => q3 z.2.1)) (by with_reducible assumption) rfl rfl (by with_reducible assumption) (by k_mem)
            · have q1 := cols_no (wide := wide) hcl hnr (decide_eq_false (by assumption)) (by assumption)
              have q3 : x9.ep = false := by assumption
              rw [if_neg (fun z => by have := z.1; rw [hep, q3] at this; cases this), if_neg (fun z => by have := z.1; rw [hep, q3] at this; cases this)] at q1
              exact cinv _ _ _ _ q1 (by with_reducible assumption) rfl rfl (by with_reducible assumption) (by k_mem)
      · try dsimp only
        refine fin2 _ _ _ _ _ _ (by with_reducible assumption) (by with_reducible assumption) (by k_mem) (cols_1 ?_).symm
        rw [← hKr, ‹yrs.isEmpty = false›]; rfl
end Mine

end

section
open PySem PySem.W PyProof.Rows PySem.Calls PyProof.Rows.LCg
namespace Mine
set_option maxRecDepth 100000
set_option maxHeartbeats 0
section
variable {prog : Program} {w : World} {A : Around} {E : Value → Shared → Prop} {s : Shared} {Q : Value → Shared → Prop} {g : Heap} {L a b : Addr} {m : Str → Option Value} {news keep : List (Addr × Obj)} {vs ws : List Value} {k n2 : Nat} {v : Value}
theorem keep_at {h h' : Heap} (N : News g L h news) (hs : Heap.SameBut a h h') (hk : ∀ p ∈ keep, p ∈ news ∧ p.1 ≠ a) : News g L h' keep := fun p hp => ⟨hs.extBut _ _ (hk p hp).2 (N p (hk p hp).1).1, (N p (hk p hp).1).2⟩
theorem use_appendK (F : Fr g L s.heap m) (N : News g L s.heap news) (hm : (a, PySem.W.listOf vs.toArray k) ∈ news) (hk : ∀ p ∈ keep, p ∈ news ∧ p.1 ≠ a) (hz : vs.length ≤ 1000)
    (h : ∀ h', Fr g L h' m → News g L h' ((a, PySem.W.listOf (vs ++ [v]).toArray (k + 1)) :: keep) → Q .none { s with heap := h' }) :
    wpAny (model prog w) A (call (.builtin "list.append") [.ref a, v]) Q E s := by
  have z := N _ hm
  refine append_at (hsz := by rw [List.size_toArray, sizeLine_eq]; omega) z.1 fun h' hs hD => ?_
  refine h h' (F.change hs z.2.1 z.2.2) (news_cons.mpr ⟨⟨?_, z.2⟩, keep_at N hs hk⟩)
  rw [hD, List.push_toArray]
theorem use_extendK (F : Fr g L s.heap m) (N : News g L s.heap news) (hm : (a, PySem.W.listOf vs.toArray k) ∈ news) (hb : (b, PySem.W.listOf ws.toArray n2) ∈ news) (hk : ∀ p ∈ keep, p ∈ news ∧ p.1 ≠ a) (hz : vs.length + ws.length ≤ 1000)
    (h : ∀ h' k', Fr g L h' m → News g L h' ((a, PySem.W.listOf (vs ++ ws).toArray k') :: keep) → Q .none { s with heap := h' }) :
    wpAny (model prog w) A (call (.builtin "list.extend") [.ref a, .ref b]) Q E s := by
  have z := N _ hm
  refine call_meets PySem.F.slot_list_extend ⟨_, z.1, rfl⟩ PySem.F.entry_list_extend (PySem.F.args_list_extend_2 _ _) (PySem.AutoSeq1.list_extend_list_list_0 a vs.toArray k b ws.toArray n2 ?_ ?_ ?_) ⟨z.1, (N _ hb).1, ?_⟩
  · simp [Builtin.List.listTooLong, sizeLine_eq]; omega
  · rw [List.size_toArray, sizeLine_eq]; omega
  · rw [List.size_toArray, List.size_toArray, sizeLine_eq]; omega
  · have q := PySem.IsL.update z.1 (fun x => x ++ ws.toArray)
    rw [List.append_toArray] at q
    exact h _ _ (F.change (Heap.SameBut.update ..) z.2.1 z.2.2) (news_cons.mpr ⟨⟨q, z.2⟩, keep_at N (Heap.SameBut.update ..) hk⟩)
theorem mul_one {x : Int} {u : Tok} {j : Nat} (F : Fr g L s.heap m) (N : News g L s.heap news) (hl : s.heap.IsList a [v].toArray) (hx : x.toNat = j) (hlo : 0 ≤ x) (hhi : x ≤ 100)
    (h : ∀ D h', Fr g L h' m → News g L h' ((D, PySem.W.listOf (List.replicate j v).toArray 0) :: news) → (∀ p ∈ news, p.1 < D) → Q (.ref D) { s with heap := h' }) : wpAny (model prog w) A (binaryOp .Mult (.ref a) (.int x u)) Q E s :=
  KMa.mul F N hl (by omega) (by omega) (by rw [List.length_singleton]; omega) (by rw [hx]; exact List.flatten_replicate_singleton) h
end
section
variable {w : World} {A₀ : Around} {E : Value → Shared → Prop} {s' : Shared} {g h : Heap} {outer : List Env} {L a e : Addr} {m : Str → Option Value} {name : Str} {scope : Scope} {cd : Value}
  {b₀ : Stmt} {suite : List Stmt} {pos np : Pos} {rest : List ExceptHandler} {Q : Flow → Shared → Prop} {p : Program} {loose : List Str} {mg mb : Str → Option Value} {x : Str}
theorem caught_bad (hA : A₀.frames = some outer) (F : Fr g L h m) (hT : Threw h (envOf name scope L a cd :: outer) e s'.heap) (X : Frag.In (K9 w.params) g) (T : TopRead p loose mg mb g)
    (ex : nsIn (K9 w.params) mainGlobals x = some (some (.ref 52))) (hgo : ∀ b ∈ outer.filterMap (·.frame), g.get? b = none)
    (k : ∀ h', Fr g L h' m → (∀ b o, h.get? b = some o → b ∉ (envOf name scope L a cd :: outer).filterMap (·.frame) → h'.get? b = some o) → h.UpToSlots h' →
      wpAny (model pw w) ((A₀.deeper (envOf name scope L a cd)).mark (some (.ref e))) (execs (b₀ :: suite) (envOf name scope L a cd)) Q E { s' with heap := h' })
    (hk : scope.kind = .function := by rfl) (hx : (envOf name scope L a cd).kindOf x = some .globalImplicit := by rfl) (hd : (x == ("__debug__" : Str)) = false := by decide)
    (hE : PassesOwnAt (model pw w) ((A₀.deeper (envOf name scope L a cd)).mark (some (.ref e))) (A₀.deeper (envOf name scope L a cd)) (envOf name scope L a cd) E := by passes_own) :
    wpAny (model pw w) (A₀.deeper (envOf name scope L a cd)) (noteFrame (.ref e) (envOf name scope L a cd))
      (fun _ s₂ => wpAny (model pw w) (A₀.deeper (envOf name scope L a cd)) (setFlight (.ref e) none) (fun _ s₃ =>
        wpAny (model pw w) (A₀.deeper (envOf name scope L a cd)) (handleBy (.ref e) (envOf name scope L a cd) (.ExceptHandler (some (.Name x np)) none (b₀ :: suite) pos :: rest)) Q E s₃) E s₂) E s' := by
  obtain ⟨B, a0, out, fly, sm⟩ := hT
  have base : ∀ b o, g.get? b = some o → B.get? b = some o := fun b o q => out b o (F.keep b o q) fun z => (kts_mem z).elim (fun z => by rw [z, kts_self F] at q; cases q) fun z => by rw [hgo b z] at q; cases q
  have stand : ∀ h', (∀ b o, B.get? b = some o → h'.get? b = some o) → h.UpToSlots h' → Fr g L h' m := fun h' kB up => ⟨up.ns F.ns, fun b o q => kB b o (base b o q), F.above⟩
  refine wpAny_looks_onW (Around.frames_deeper hA) rfl fly fun h1 held1 up1 => wpAny_landsW held1 fun h2 held2 up2 => ?_
  have F2 := stand h2 held2.1 ((sm.trans up1).trans up2)
  obtain ⟨nm, q, N, bs, sn, sub, ab, col, dd, k0, k1, k2, k3, k5, hC⟩ := bad_cls w
  refine wpAny_handleBy_cons (codeAny_handlers_test (name_K F2 X T ex ?_ hk hx hd)) (fun q => nomatch q)
  obtain ⟨oe, e1, e2⟩ := held2.there
  refine wpAny_excMatches_sub_self (F2.keep _ _ (X _ _ hC)) e1 e2 (by decide +kernel) (codeAny_handlers_suite (lands_againW held2 fun h3 fly3 up3 => ?_))
  have up : h.UpToSlots h3 := ((sm.trans up1).trans up2).trans up3
  exact wpAny_passesOwnAt hE (k h3 (stand h3 fly3.1 up) (fun b o q nm => fly3.1 b o (out b o q nm)) up)
end
end Mine

end

section
open PySem PySem.W PyProof.Rows PySem.Calls PyProof.Rows.LCg
namespace Mine
set_option maxRecDepth 100000
set_option maxHeartbeats 0
theorem fill26 : PySem.Challenge.rw_pb0596_01.foot = 6 ∧ K9 = K9 := by
  k_with_none
  k_with "my ne" => (first | (with_reducible first | assumption | exact Ne.symm (by assumption) | exact Mine.nr1 (by assumption) | exact Mine.ns1 (by assumption) | exact Mine.nt1 (by assumption) | exact Mine.nu1 (by assumption) | exact Mine.nr2 (by assumption) | exact Mine.ns2 (by assumption) | exact Mine.nt2 (by assumption) | exact Mine.nu2 (by assumption) | exact Mine.nr3 (by assumption) | exact Mine.ns3 (by assumption) | exact Mine.nt3 (by assumption) | exact Mine.nu3 (by assumption) | exact Mine.nr4 (by assumption) | exact Mine.ns4 (by assumption) | exact Mine.nt4 (by assumption) | exact Mine.nu4 (by assumption) | exact Mine.nr5 (by assumption) | exact Mine.ns5 (by assumption) | exact Mine.nt5 (by assumption) | exact Mine.nu5 (by assumption) | exact Mine.nr6 (by assumption) | exact Mine.ns6 (by assumption) | exact Mine.nt6 (by assumption) | exact Mine.nu6 (by assumption) | exact Mine.nr7 (by assumption) | exact Mine.ns7 (by assumption) | exact Mine.nt7 (by assumption) | exact Mine.nu7 (by assumption) | exact Mine.nr8 (by assumption) | exact Mine.ns8 (by assumption) | exact Mine.nt8 (by assumption) | exact Mine.nu8 (by assumption) | exact Mine.nr9 (by assumption) | exact Mine.ns9 (by assumption) | exact Mine.nr10 (by assumption) | exact Mine.ns10 (by assumption) | exact Mine.nr11 (by assumption) | exact Mine.ns11 (by assumption) | exact Mine.nr12 (by assumption) | exact Mine.ns12 (by assumption) | exact Mine.nw1 (by assumption) | exact Mine.nw2 (by assumption) | exact Mine.nw3 (by assumption) | exact Mine.nw4 (by assumption) | exact Mine.nw5 (by assumption) | exact Mine.nw6 (by assumption) | exact Mine.nk1 (by assumption) | exact Mine.nk2 (by assumption) | exact Mine.nk3 (by assumption) | exact Mine.nk4 (by assumption)) | fail "no")
  k_with "my om" => (first | ((with_reducible show @Eq Int _ _); with_reducible first | assumption | exact Eq.symm (by assumption) | exact Int.toNat_of_nonneg (by assumption)) | fail "no")
  k_with "my om" => (first | ((with_reducible show And (@LE.le Int _ _ _) _); with_reducible first | assumption | (refine Mine.i2 (by assumption) ?_; omega) | (refine Mine.i2' (by assumption) ?_; omega)) | fail "no")
  k_with "my om" => (first | ((with_reducible show @LT.lt Int _ _ _); first | (with_reducible first | assumption | exact Mine.i1' (by assumption) | exact Int.ofNat_lt.mpr (by assumption) | exact And.left (by assumption) | exact And.right (by assumption) | exact Int.lt_of_not_le (by assumption)) | decide +kernel) | fail "no")
  k_with "my om" => (first | ((with_reducible show @LE.le Int _ _ _); first | (with_reducible first | assumption | exact Int.natCast_nonneg _ | exact Int.le_refl _ | exact Mine.i1 _ | exact Int.ofNat_le.mpr (by assumption) | exact Mine.i6 (by assumption) (by assumption) | (refine Mine.i7 ?_; omega) | exact And.left (by assumption) | exact And.right (by assumption) | exact Int.le_of_not_lt (by assumption) | exact Int.le_of_lt (by assumption)) | decide +kernel) | fail "no")
  k_with "my om" => (first | ((with_reducible show @Eq Nat _ _); with_reducible first | assumption | exact Eq.symm (by assumption) | exact Mine.i5 (by assumption) | exact Mine.i4 _ | exact Mine.i3 _ | exact Eq.symm (Mine.i4 _) | exact Nat.add_sub_cancel_left .. | exact Nat.min_eq_left (by assumption) | exact Eq.trans (by assumption) (by assumption) | exact Eq.trans (Eq.symm (by assumption)) (by assumption) | exact Eq.trans (by assumption) (Eq.symm (by assumption))) | fail "no")
  k_with "my om" => (first | ((with_reducible show @LT.lt Nat _ _ _); with_reducible first | assumption | exact Mine.np (by assumption) | exact Mine.nq (by assumption) rfl | exact Mine.nv (by assumption) rfl | exact Mine.ia (by assumption) (by assumption) | exact Mine.ib (by assumption) (by assumption) | exact Nat.lt_of_lt_of_le (by assumption) (by assumption) | exact Nat.succ_lt_succ (by assumption) | exact And.left (by assumption) | exact And.right (by assumption) | exact Nat.lt_of_not_le (by assumption) | exact Mine.ia (Mine.ia (by assumption) (by assumption)) (by assumption) | exact Mine.ib (Mine.ia (by assumption) (by assumption)) (by assumption) | exact Mine.ia (Mine.ib (by assumption) (by assumption)) (by assumption) | exact Mine.ib (Mine.ib (by assumption) (by assumption)) (by assumption)) | fail "no")
  k_with "my om" => (first | ((with_reducible show @LE.le Nat _ _ _); first | (with_reducible first | assumption | exact Mine.nc (by assumption) rfl | exact Nat.le_refl _ | exact Mine.nl (by assumption) (by assumption) | exact Mine.nm (by assumption) (by assumption) | exact Mine.nn (by assumption) (by assumption) | exact Mine.nn (by assumption) (Mine.nc (by assumption) rfl) | exact Mine.nl (by assumption) (Mine.nc (by assumption) rfl) | exact Mine.nm (by assumption) (Mine.nc (by assumption) rfl) | exact Mine.nl (by assumption) (Mine.nl (by assumption) (Mine.nc (by assumption) rfl)) | exact Mine.nl (by assumption) (Mine.nn (by assumption) (Mine.nc (by assumption) rfl)) | exact Mine.nm (by assumption) (Mine.nn (by assumption) (Mine.nc (by assumption) rfl)) | exact Mine.nl (by assumption) (Mine.nm (by assumption) (Mine.nc (by assumption) rfl)) | exact Mine.nm (by assumption) (Mine.nl (by assumption) (Mine.nc (by assumption) rfl)) | exact Mine.nm (by assumption) (Mine.nm (by assumption) (Mine.nc (by assumption) rfl)) | exact Nat.le_add_right _ _ | exact Nat.succ_le_succ (by assumption) | exact Nat.le_of_eq (by assumption) | exact Nat.le_of_eq (Eq.symm (by assumption)) | exact Nat.le_succ_of_le (by assumption) | exact Nat.le_of_not_lt (by assumption) | exact Int.toNat_le_toNat (by assumption) | exact Mine.ig (by assumption) (by assumption) rfl | exact Mine.ih (by assumption) (by assumption) rfl | exact And.left (by assumption) | exact And.right (by assumption) | (refine Mine.ie ?_ (by assumption); omega) | (refine Mine.ie' ?_ (by assumption); omega) | (refine Mine.id1 ?_; omega) | (refine Mine.ij ?_; omega) | (refine Mine.ic (by assumption) rfl ?_; omega)) | exact Mine.nz rfl) | fail "no")
  k_with "my own" => (first | assumption | exact Mine.PAt.of (by assumption) (PySem.SameStack.mark _ _) | exact Mine.PAt.of (by assumption) (PySem.SameStack.unmark _ _) | fail "no")
  k_fill
  exact ⟨rfl, rfl⟩
noncomputable def IsOneC (w : World) (base : Heap) : Prop := ∀ (sl : Addr) (svs : List Value) (xs : List Sg) (yv : Value) (y : Sg) (_ : svs.length ≤ 9) (_ : xs ≠ []),
   CC w base 316 [.ref sl, yv] 2 (fun h => h.IsList sl svs.toArray ∧ Paired (SgAt h) svs xs ∧ SgAt h yv y) (fun h v h' => Kp h h' ∧ v = .bool (isOne xs y))
structure Ls where
  a : Addr
  vs : List Value
  k : Nat
noncomputable def Ls.ent (r : Ls) : Addr × Obj := (r.a, PySem.W.listOf r.vs.toArray r.k)
structure ClInv (g : Heap) (sl : Addr) (lo : Obj) (xs : List Sg) (i : Nat) (m : Str → Option Value) (news : List (Addr × Obj)) (fd : Addr) (n : Nat) (rs : List Ls) : Prop where
  m1 : m (Str.ofString "found") = some (.ref fd)
  s1 : (sl, lo) ∈ news
  s2 : (fd, PySem.W.listOf (rs.map fun r => Value.ref r.a).toArray n) ∈ news
  s3 : ∀ r ∈ rs, r.ent ∈ news
  cl : Paired (fun r c => Paired (SgAt g) r.vs c ∧ c ≠ []) rs (clustersL (xs.take i))
  ap : rs.Pairwise fun r r' => r.a ≠ r'.a
  nf : ∀ r ∈ rs, r.a ≠ fd ∧ r.a ≠ sl
  fs : fd ≠ sl
noncomputable def ClI (g : Heap) (sl : Addr) (lo : Obj) (xs : List Sg) (i : Nat) (m : Str → Option Value) (news : List (Addr × Obj)) : Prop := ∃ fd n rs, ClInv g sl lo xs i m news fd n rs
noncomputable def LClR (h : Heap) (v : Value) (h' : Heap) (xs : List Sg) : Prop := ∃ (fd : Addr) (n : Nat) (rs : List Ls), v = .ref fd ∧ h'.get? fd = some (PySem.W.listOf (rs.map fun r => Value.ref r.a).toArray n) ∧ h.get? fd = none ∧ (∀ r ∈ rs, h'.get? r.a = some (PySem.W.listOf r.vs.toArray r.k) ∧ h.get? r.a = none) ∧ Paired (fun r c => Paired (SgAt h') r.vs c ∧ c ≠ []) rs (clustersL xs)
theorem paired_snoc_inv {α β : Type} {f : α → β → Prop} {l : List α} {a : α} {m : List β} (h : Paired f (l ++ [a]) m) : ∃ m' b, m = m' ++ [b] ∧ Paired f l m' ∧ f a b := by
  induction l generalizing m with
  | nil => cases h with
    | cons h t => cases t; exact ⟨[], _, rfl, .nil, h⟩
  | cons x r ih => cases h with
    | cons h t =>
      obtain ⟨m', b, rfl, h1, h2⟩ := ih t
      exact ⟨_ :: m', b, rfl, .cons h h1, h2⟩
theorem clustersL_snoc (xs : List Sg) (y : Sg) : clustersL (xs ++ [y]) = stepL (clustersL xs) y := by simp [clustersL]
theorem stepL_snoc (cs : List (List Sg)) (c : List Sg) (y : Sg) : stepL (cs ++ [c]) y = if isOne c y then cs ++ [c ++ [y]] else cs ++ [c] ++ [[y]] := by
  unfold stepL
  simp
theorem news_three {g h : Heap} {L : Addr} {a b c : Addr × Obj} {n : List (Addr × Obj)} (N : News g L h (a :: n)) (hb : b ∈ n) (hc : c ∈ n) : News g L h (a :: b :: c :: []) := by
  rw [news_cons] at N
  exact news_cons.mpr ⟨N.1, news_cons.mpr ⟨N.2 _ hb, news_cons.mpr ⟨N.2 _ hc, News.nil⟩⟩⟩
theorem news_four {g h : Heap} {L : Addr} {a b c d : Addr × Obj} {n l : List (Addr × Obj)} (N : News g L h (a :: n)) (hb : b ∈ n) (hc : c ∈ n) (hd : d ∈ n) (hl : ∀ p ∈ l, p ∈ n) : News g L h (a :: b :: c :: d :: l) := by
  rw [news_cons] at N
  exact news_cons.mpr ⟨N.1, news_cons.mpr ⟨N.2 _ hb, news_cons.mpr ⟨N.2 _ hc, news_cons.mpr ⟨N.2 _ hd, fun p hp => N.2 p (hl p hp)⟩⟩⟩⟩
theorem last_ref {rs : List Ls} {r : Ls} {v : Value} (h : ((rs ++ [r]).map fun r => Value.ref r.a)[((rs ++ [r]).map fun r => Value.ref r.a).length - 1]? = some v) : v = .ref r.a := by
  simp at h
  exact h.symm
theorem nil_or_snoc {α : Type} (l : List α) : l = [] ∨ ∃ l' a, l = l' ++ [a] := by
  rcases List.eq_nil_or_concat l with h | ⟨l', a, h⟩
  · exact .inl h
  · exact .inr ⟨l', a, by rw [h, List.concat_eq_append]⟩
theorem flat_step (f : List (List Sg)) (x : Sg) : (stepL f x).flatten = f.flatten ++ [x] := by
  rcases nil_or_snoc f with rfl | ⟨f', l, rfl⟩
  · rfl
  · rw [stepL_snoc]
    cases isOne l x <;> simp
theorem len_step (f : List (List Sg)) (x : Sg) : (stepL f x).length ≤ f.length + 1 := by
  rcases nil_or_snoc f with rfl | ⟨f', l, rfl⟩
  · simp [stepL]
  · rw [stepL_snoc]
    cases isOne l x <;> simp
theorem flat_fold : ∀ (xs : List Sg) (f : List (List Sg)), (xs.foldl stepL f).flatten = f.flatten ++ xs
  | [], f => by simp
  | x :: r, f => by rw [List.foldl_cons, flat_fold r, flat_step]; simp
theorem len_fold : ∀ (xs : List Sg) (f : List (List Sg)), (xs.foldl stepL f).length ≤ f.length + xs.length
  | [], f => by simp
  | x :: r, f => by
    rw [List.foldl_cons, List.length_cons]
    have h1 := len_fold r (stepL f x)
    have h2 := len_step f x
    omega
theorem clustersL_flat (xs : List Sg) : (clustersL xs).flatten = xs := by unfold clustersL; rw [flat_fold]; rfl
theorem mem_flat_len : ∀ {L : List (List Sg)} {c : List Sg}, c ∈ L → c.length ≤ L.flatten.length
  | d :: r, c, h => by
    rw [List.flatten_cons, List.length_append]
    rcases List.mem_cons.mp h with rfl | h
    · omega
    · have := mem_flat_len h; omega
theorem clustersL_len {xs c : List Sg} (h : c ∈ clustersL xs) : c.length ≤ xs.length := by
  have := mem_flat_len h
  rwa [clustersL_flat] at this
theorem clustersL_le {xs : List Sg} (h : xs.length ≤ 9) : (clustersL xs).length ≤ 1000 := by
  have := len_fold xs []
  unfold clustersL
  simp at this; omega
theorem cl_unr {g h' : Heap} {L I sl fd : Addr} {oI lo : Obj} {m' : Str → Option Value} {xs : List Sg} {i n tk : Nat} {rs : List Ls} {s₁ : Shared} (F : Fr g L h' m') (hI : h'.get? I = some oI ∧ I ≠ L ∧ g.get? I = none) (hc : oI.cls = .type "list_iterator") (hlo : lo.cls = .type "list") (hm : m' (Str.ofString "found") = some (.ref fd))
    (h1 : h'.get? sl = some lo ∧ sl ≠ L ∧ g.get? sl = none) (h2 : h'.get? fd = some (PySem.W.listOf (rs.map fun r => Value.ref r.a).toArray n) ∧ fd ≠ L ∧ g.get? fd = none) (h3 : ∀ r ∈ rs, h'.get? r.a = some (PySem.W.listOf r.vs.toArray r.k) ∧ r.a ≠ L ∧ g.get? r.a = none)
    (cl : Paired (fun r c => Paired (SgAt g) r.vs c ∧ c ≠ []) rs (clustersL (xs.take i))) (ap : rs.Pairwise fun r r' => r.a ≠ r'.a) (nf : ∀ r ∈ rs, r.a ≠ fd ∧ r.a ≠ sl) (fs : fd ≠ sl) :
    UnrEndW g L s₁ [(I, oI)] (fun m' n' => SubL [(sl, lo)] n' ∧ ClI g sl lo xs i m' n') { s₁ with heap := h', toks := tk } := by
  have N : News g L h' ((sl, lo) :: (fd, PySem.W.listOf (rs.map fun r => Value.ref r.a).toArray n) :: rs.map Ls.ent) := by
    rw [news_cons, news_cons]
    refine ⟨h1, h2, fun p hp => ?_⟩
    obtain ⟨r, hr, rfl⟩ := List.mem_map.mp hp
    exact h3 r hr
  have hlist : ∀ p ∈ (sl, lo) :: (fd, PySem.W.listOf (rs.map fun r => Value.ref r.a).toArray n) :: rs.map Ls.ent, p.2.cls = .type "list" := fun p hp => by
    rcases List.mem_cons.mp hp with rfl | hp
    · exact hlo
    rcases List.mem_cons.mp hp with rfl | hp
    · rfl
    · obtain ⟨r, _, rfl⟩ := List.mem_map.mp hp; rfl
  refine ⟨h', tk, m', _, rfl, F, news_cons.mpr ⟨hI, N⟩, fun p hp q hq e => ?_, ⟨.head _, trivial⟩, fd, n, rs, hm, .head _, .tail _ (.head _), fun r hr => .tail _ (.tail _ (List.mem_map_of_mem hr)), cl, ap, nf, fs⟩
  rw [List.mem_singleton.mp hq] at e
  have z := (N p hp).1
  rw [e] at z
  have z2 : some oI = some p.2 := hI.1.symm.trans z
  have z3 := hlist p hp
  rw [← Option.some.inj z2, hc] at z3
  simp at z3
theorem allLt_mem {a : Addr} : ∀ {l : List (Addr × Obj)}, AllLt a l → ∀ p ∈ l, (@LT.lt Nat _ p.1 a)
  | [], _, _, h => nomatch h
  | _ :: _, x, p, h => by
    rcases List.mem_cons.mp h with rfl | h
    · exact x.1
    · exact allLt_mem x.2 p h
section
variable {g h9 h : Heap} {L I sl fd l ty : Addr} {oI lo : Obj} {m m' : Str → Option Value} {xs : List Sg} {i n tk : Nat} {rs rs' : List Ls} {r : Ls} {s₁ : Shared} {news nw : List (Addr × Obj)} {y : Sg} {c : List Sg} {cs : List (List Sg)}
theorem cl_new (V : ClInv g sl lo xs i m nw fd n rs) (F : Fr g L h9 m') (nf : ∀ p, p ∈ news → p.1 ≠ fd → h9.get? p.1 = some p.2 ∧ p.1 ≠ L ∧ g.get? p.1 = none) (hf : h9.get? fd = some (PySem.W.listOf (rs.map (fun r : Ls => Value.ref r.a) ++ [Value.ref l]).toArray (n + 1)) ∧ fd ≠ L ∧ g.get? fd = none)
    (hI : (I, oI) ∈ news) (hIf : I ≠ fd) (hsl : (sl, lo) ∈ news) (hl : (l, PySem.W.listOf #[Value.ref ty] 0) ∈ news) (hrs : ∀ r ∈ rs, r.ent ∈ news) (hlf : l ≠ fd) (hls : l ≠ sl) (hlr : ∀ r ∈ rs, r.a ≠ l) (hc : oI.cls = .type "list_iterator") (hlo : lo.cls = .type "list") (hm : m' (Str.ofString "found") = some (.ref fd))
    (hsy : SgAt g (Value.ref ty) y) (hcl : clustersL (xs.take (i + 1)) = clustersL (xs.take i) ++ [[y]]) :
    UnrEndW g L s₁ [(I, oI)] (fun m' n' => SubL [(sl, lo)] n' ∧ ClI g sl lo xs (i + 1) m' n') { s₁ with heap := h9, toks := tk } := by
  refine cl_unr (rs := rs ++ [⟨l, [Value.ref ty], 0⟩]) (n := n + 1) F (nf _ hI hIf) hc hlo hm (nf _ hsl V.fs.symm) (by rw [List.map_append]; exact hf) (fun q hq => ?_) ?_ ?_ (fun q hq => ?_) V.fs
  · rcases List.mem_append.mp hq with hq | hq
    · exact nf _ (hrs q hq) (V.nf q hq).1
    · rw [List.mem_singleton.mp hq]; exact nf _ hl hlf
  · rw [hcl]
    exact paired_app V.cl (.cons ⟨.cons hsy .nil, by simp⟩ .nil)
  · refine List.pairwise_append.mpr ⟨V.ap, List.pairwise_singleton _ _, fun a ha b hb => ?_⟩
    rw [List.mem_singleton.mp hb]; exact hlr a ha
  · rcases List.mem_append.mp hq with hq | hq
    · exact V.nf q hq
    · rw [List.mem_singleton.mp hq]; exact ⟨hlf, hls⟩
theorem cl_app (V : ClInv g sl lo xs i m nw fd n (rs' ++ [r])) (F : Fr g L h9 m') (nf : ∀ p, p ∈ news → p.1 ≠ r.a → h9.get? p.1 = some p.2 ∧ p.1 ≠ L ∧ g.get? p.1 = none) (hf : h9.get? r.a = some (PySem.W.listOf (r.vs ++ [Value.ref ty]).toArray (r.k + 1)) ∧ r.a ≠ L ∧ g.get? r.a = none)
    (hI : (I, oI) ∈ news) (hIr : I ≠ r.a) (hsl : (sl, lo) ∈ news) (hfd : (fd, PySem.W.listOf ((rs' ++ [r]).map fun r => Value.ref r.a).toArray n) ∈ news) (hrs : ∀ r ∈ rs', r.ent ∈ news) (hc : oI.cls = .type "list_iterator") (hlo : lo.cls = .type "list") (hm : m' (Str.ofString "found") = some (.ref fd))
    (hsy : SgAt g (Value.ref ty) y) (hcs : clustersL (xs.take i) = cs ++ [c]) (hcl : clustersL (xs.take (i + 1)) = cs ++ [c ++ [y]]) :
    UnrEndW g L s₁ [(I, oI)] (fun m' n' => SubL [(sl, lo)] n' ∧ ClI g sl lo xs (i + 1) m' n') { s₁ with heap := h9, toks := tk } := by
  have hr := V.nf r (by simp)
  have hap := List.pairwise_append.mp V.ap
  have hcl0 := V.cl
  rw [hcs] at hcl0
  obtain ⟨cs', c', e, h1, h2⟩ := paired_snoc_inv hcl0
  have e1 : cs = cs' := by have := List.append_inj_left' e rfl; exact this
  have e2 : c = c' := by have := List.append_inj_right' e rfl; simpa using this
  subst e1; subst e2
  refine cl_unr (rs := rs' ++ [⟨r.a, r.vs ++ [Value.ref ty], r.k + 1⟩]) (n := n) F (nf _ hI hIr) hc hlo hm (nf _ hsl hr.2.symm) ?_ (fun q hq => ?_) ?_ ?_ (fun q hq => ?_) V.fs
  · have := nf _ hfd hr.1.symm
    simpa [List.map_append] using this
  · rcases List.mem_append.mp hq with hq | hq
    · exact nf _ (hrs q hq) (hap.2.2 q hq r (by simp))
    · rw [List.mem_singleton.mp hq]; exact hf
  · rw [hcl]
    exact paired_app h1 (.cons ⟨paired_app h2.1 (.cons hsy .nil), by simp⟩ .nil)
  · refine List.pairwise_append.mpr ⟨hap.1, List.pairwise_singleton _ _, fun a ha b hb => ?_⟩
    rw [List.mem_singleton.mp hb]; exact hap.2.2 a ha r (by simp)
  · rcases List.mem_append.mp hq with hq | hq
    · exact V.nf q (List.mem_append_left _ hq)
    · rw [List.mem_singleton.mp hq]; exact hr
end
theorem lcl_cc {w : World} {base : Heap} (G : Gr w base) (IC : IsOneC w base) (sl : Addr) (svs : List Value) (xs : List Sg) (nlo : Nat) (hlen : svs.length ≤ 9) (hnb : base.get? sl = none) :
   CC w base 323 [.ref sl] 4 (fun h => h.get? sl = some (PySem.W.listOf svs.toArray nlo) ∧ Paired (SgAt h) svs xs) (fun h v h' => Kp h h' ∧ LClR h v h' xs) := by
  have G' := G
  obtain ⟨X, p, loose, mean, mg, mb, T⟩ := G
  intro dp un fr gd s Q E hdp hun hb hp hret
  obtain ⟨hl, hS⟩ := hp
  w_on
  k_dflt (refine enter (binds := [(Str.ofString "signs", .ref sl)]) [(sl, PySem.W.listOf svs.toArray nlo)] X T hb (fun q hq => by rw [List.mem_singleton.mp hq]; exact ⟨hl, hnb⟩) (by k_is) (by k_is) (by show dp < recursionLimit; omega) (BindsTo.of_eq rfl) (locs rfl) (fun E9 Q9 g L h₁ g9s d9r t9k o9s hQ9 hE9 hP9 hA9 hB hG X' T' F' N' hL => ?_))
  try dsimp only
  have hlx : svs.length = xs.length := paired_len hS
  have hS' : Paired (SgAt g) svs xs := paired_mono (fun _ _ z => z.at fun a o e hc => hG a o e (by
    intro hm
    have e' : a = sl := by simpa using hm
    subst e'
    rw [hl] at e; cases e
    simp at hc)) hS
  k_unmd
  try k_fold
  k_with "exec For Name Name cons nil" => ((rename Fr _ _ _ _ => lF'); (with_reducible refine For_turns lF' ?_ ?hs ?hE); (case hs => (intro x; k_dflt rfl)); (case hE => k_dflt passes_own))
  k_with "pyIter ref" => ((rename Fr _ _ _ _ => lF'); (rename News _ _ _ _ => lN'); k_dflt (refine' iter_listTurns (lo := PySem.W.listOf svs.toArray nlo) (vs := svs) rfl lF' lN' (by k_mem) rfl rfl ?_); (clear lF'); intro i' l1)
  k_with "ItemsRest" => (refine Hold.out ?_)
  k_steps
  all_goals (try ((with_reducible refine hQ9 _ _ _ ?_); (try dsimp only)))
  refine items_inv (ClI g sl (PySem.W.listOf svs.toArray nlo) xs) ?_ ?_ ⟨_, 0, [], rfl, .tail _ (.head _), .head _, (fun _ h => nomatch h), .nil, .nil, (fun _ h => nomatch h), ?_⟩
  · rintro i v m nw h tk oI hv ⟨fd, n, rs, I⟩ hc F N
    obtain ⟨y, hy, hSy⟩ := sg_get hS' hv
    have et : xs.take (i + 1) = xs.take i ++ [y] := by rw [List.take_add_one, hy, Option.toList_some]
    have hsy := hSy
    obtain ⟨ty, yc, y1, y2, y3, rfl, hTy⟩ := hSy
    replace F := Fr.pin [(Str.ofString "found", .ref fd)] F (fun p hp => by rw [List.mem_singleton.mp hp]; exact I.m1)
    have hlr := paired_len I.cl
    rcases nil_or_snoc rs with rfl | ⟨rs', r, rfl⟩
    · have N2 : News g L h ((_, oI) :: (sl, PySem.W.listOf svs.toArray nlo) :: (fd, PySem.W.listOf #[] n) :: []) := news_three N I.s1 I.s2
      have hif : i' ≠ fd := ne_news N2 (.head _) (.tail _ (.tail _ (.head _))) (ne_cls (o' := PySem.W.listOf #[] n) (b := "list") hc rfl (by decide))
      clear N
      k_with "compareOp NotEq ref ref" => (k_here; k_dflt (refine' ne_nil (vs := []) ?hl ?hb ?hu ?_; (case hl => kmk_list); (case hb => kmk_list); (case hu => (simp only [units_deeper]; omega))); (try dsimp only [List.map_append, List.map_cons, List.map_nil, List.isEmpty]))
      k_with "call builtin:list.append" => ((try dsimp only [List.cons_append, List.nil_append]); (refine' use_append (a := fd) (vs := []) (k := n) ?F ?N ?m (by decide) ?_); (case F => k_asm); (case N => k_asm); (case m => k_mem); intro h9 F9 nf9 hf9; (try dsimp only))
      try dsimp only
      k_steps
      all_goals (try ((with_reducible refine hQ9 _ _ _ ?_); (try dsimp only)))
      have hc0 : clustersL (xs.take i) = [] := List.eq_nil_of_length_eq_zero (by rw [← hlr]; rfl)
      have hcl : clustersL (xs.take (i + 1)) = clustersL (xs.take i) ++ [[y]] := by rw [et, clustersL_snoc, hc0]; rfl
      exact cl_new I F9 nf9 hf9 (by k_mem) hif (by k_mem) (.head _) (fun _ h => nomatch h) (by k_ne) (by k_ne) (fun _ h => nomatch h) hc rfl rfl hsy hcl
    · obtain ⟨cs, c, hcs, hcl, hrc, hcne⟩ := paired_snoc_inv I.cl
      have hrl : r.vs.length ≤ 9 := by
        have h1 := paired_len hrc
        have h2 := clustersL_len (xs := xs.take i) (c := c) (by rw [hcs]; simp)
        rw [List.length_take] at h2
        omega
      have hrm : r.ent ∈ nw := I.s3 r (by simp)
      have N2 : News g L h ((_, oI) :: (sl, PySem.W.listOf svs.toArray nlo) :: (fd, PySem.W.listOf ((rs' ++ [r]).map fun r => Value.ref r.a).toArray n) :: (r.a, PySem.W.listOf r.vs.toArray r.k) :: rs'.map Ls.ent) := news_four N I.s1 I.s2 hrm (fun q hq => by
        obtain ⟨z, hz, rfl⟩ := List.mem_map.mp hq
        exact I.s3 z (List.mem_append_left _ hz))
      have hif : i' ≠ fd := ne_news N2 (.head _) (.tail _ (.tail _ (.head _))) (ne_cls (o' := PySem.W.listOf ((rs' ++ [r]).map fun r => Value.ref r.a).toArray n) (b := "list") hc rfl (by decide))
      have hir : i' ≠ r.a := ne_news N2 (.head _) (.tail _ (.tail _ (.tail _ (.head _)))) (ne_cls (o' := PySem.W.listOf r.vs.toArray r.k) (b := "list") hc rfl (by decide))
      clear N
      have hne9 : (rs' ++ [r]).map (fun r => Value.ref r.a) ≠ [] := by simp
      k_with "compareOp NotEq ref ref" => (k_here; k_dflt (refine' ne_nil' (vs := (rs' ++ [r]).map fun r => Value.ref r.a) ?hl ?hb ?hu hne9 ?_; (case hl => kmk_list); (case hb => kmk_list); (case hu => (simp only [units_deeper]; omega))))
      k_with "subscriptTail" => ((with_reducible show wpAny _ _ (subscriptTail _ _ (Value.ref _) (Value.int (-1) _)) _ _ _); (with_unfolding_all refine' item_last (vs := (rs' ++ [r]).map fun r => Value.ref r.a) ?k1 hne9 ?_); (case k1 => kmk_list); intro v9 hv9; (have e8 := last_ref hv9); subst e8; clear hv9)
      k_with "call ref" => ((with_reducible show wpAny _ _ (PySem.call (Value.ref 316) _ _) _ _ _); (refine' use_pure (IC r.a r.vs c (.ref ty) y hrl hcne) hB ?kF ?kN ?kp ?kd ?ku ?_); (case kF => k_asm); (case kN => k_asm); (case kp => exact ⟨⟨PySem.W.listOf r.vs.toArray r.k, News.get (by k_asm) (by k_mem), rfl, _, rfl⟩, paired_mono (fun _ _ z => z.at fun a o e _ => Fr.keep (by k_asm) _ _ e) hrc, hsy.at fun a o e _ => Fr.keep (by k_asm) _ _ e⟩); (case kd => k_dflt (exact lim1 hdp rfl)); (case ku => k_dflt (exact lim3 hun rfl)); intro v9 h9 tk9 e9 hk9 F9 N9; subst e9; k_sweep)
      cases hio : isOne c y with
      | true =>
        k_with "call builtin:list.append" => ((try dsimp only [List.cons_append, List.nil_append]); (refine' use_append (a := r.a) (vs := r.vs) (k := r.k) ?F ?N ?m (by omega) ?_); (case F => k_asm); (case N => k_asm); (case m => k_mem); intro h9 F9 nf9 hf9; (try dsimp only))
        try dsimp only
        k_steps
        all_goals (try ((with_reducible refine hQ9 _ _ _ ?_); (try dsimp only)))
        exact cl_app I F9 nf9 hf9 (by k_mem) hir (by k_mem) (by k_mem) (fun q hq => .tail _ (.tail _ (.tail _ (.tail _ (.tail _ (List.mem_map_of_mem hq)))))) hc rfl rfl hsy hcs (by rw [et, clustersL_snoc, hcs, stepL_snoc, hio]; rfl)
      | false =>
        k_with "call builtin:list.append" => ((try dsimp only [List.cons_append, List.nil_append]); (refine' use_append (a := fd) (vs := (rs' ++ [r]).map fun r => Value.ref r.a) (k := n) ?F ?N ?m ?z ?_); (case F => k_asm); (case N => k_asm); (case m => k_mem); (case z => (rw [List.length_map, hlr]; exact clustersL_le (by rw [List.length_take]; omega))); intro h9 F9 nf9 hf9; (try dsimp only))
        try dsimp only
        k_steps
        all_goals (try ((with_reducible refine hQ9 _ _ _ ?_); (try dsimp only)))
        have hlt9 : ∀ p ∈ List.map Ls.ent rs', (@LT.lt Nat _ p.1 _) := allLt_mem (by (first | exact And.right (And.right (And.right (And.right (And.right ‹_ ∧ _ ∧ _ ∧ _ ∧ _ ∧ AllLt _ _›))))))
        refine cl_new I F9 nf9 hf9 (by k_mem) hif (by k_mem) (.head _) (fun q hq => ?_) (by k_ne) (by k_ne) (fun q hq => ?_) hc rfl rfl hsy (by rw [et, clustersL_snoc, hcs, stepL_snoc, hio]; rfl)
        · rcases List.mem_append.mp hq with hq | hq
          · exact .tail _ (.tail _ (.tail _ (.tail _ (.tail _ (.tail _ (List.mem_map_of_mem hq))))))
          · rw [List.mem_singleton.mp hq]; exact .tail _ (.tail _ (.tail _ (.tail _ (.tail _ (.head _)))))
        · rcases List.mem_append.mp hq with hq | hq
          · exact Nat.ne_of_lt (hlt9 _ (List.mem_map_of_mem hq))
          · rw [List.mem_singleton.mp hq]; k_ne
  · rintro m nw h tk ⟨fd, n, rs, V⟩ F N
    replace F := Fr.pin [(Str.ofString "found", .ref fd)] F (fun p hp => by rw [List.mem_singleton.mp hp]; exact V.m1)
    have F : Fr g L h _ := F
    have N : News g L h nw := N
    try dsimp only
    k_steps
    all_goals (try ((with_reducible refine hQ9 _ _ _ ?_); (try dsimp only)))
    all_goals (try dsimp only)
    have back : ∀ b, g.get? b = none → b ≠ sl → s.heap.get? b = none := fun b e hb => by
      cases q : s.heap.get? b with
      | none => rfl
      | some o => rw [hG b o q (by simpa using hb)] at e; cases e
    have hcl := V.cl
    rw [hlx, List.take_length] at hcl
    refine hret _ _ _ ⟨led_keep hG F N (fun q hq => by rw [List.mem_singleton.mp hq]; exact ⟨V.s1, hl⟩), fd, n, rs, rfl, (N _ V.s2).1, back _ (N _ V.s2).2.2 V.fs, fun r hr => ⟨(N _ (V.s3 r hr)).1, back _ (N _ (V.s3 r hr)).2.2 (V.nf r hr).2⟩, ?_⟩
    exact paired_mono (fun r c ⟨z, hz⟩ => ⟨paired_mono (fun _ _ z => z.at fun a o e _ => F.keep _ _ e) z, hz⟩) hcl
  · k_ne
end Mine

end

section
open PySem PySem.W PyProof.Rows PySem.Calls PyProof.Rows.LCg
namespace Mine
set_option maxRecDepth 100000
set_option maxHeartbeats 0
theorem fillX7 : PySem.Challenge.rw_pb0596_01.foot = 6 ∧ K9 = K9 := by
  k_with_none
  k_with "my ne" => (first | (with_reducible first | assumption | exact Ne.symm (by assumption) | exact Mine.nr1 (by assumption) | exact Mine.ns1 (by assumption) | exact Mine.nt1 (by assumption) | exact Mine.nu1 (by assumption) | exact Mine.nr2 (by assumption) | exact Mine.ns2 (by assumption) | exact Mine.nt2 (by assumption) | exact Mine.nu2 (by assumption) | exact Mine.nr3 (by assumption) | exact Mine.ns3 (by assumption) | exact Mine.nt3 (by assumption) | exact Mine.nu3 (by assumption) | exact Mine.nr4 (by assumption) | exact Mine.ns4 (by assumption) | exact Mine.nt4 (by assumption) | exact Mine.nu4 (by assumption) | exact Mine.nr5 (by assumption) | exact Mine.ns5 (by assumption) | exact Mine.nt5 (by assumption) | exact Mine.nu5 (by assumption) | exact Mine.nr6 (by assumption) | exact Mine.ns6 (by assumption) | exact Mine.nt6 (by assumption) | exact Mine.nu6 (by assumption) | exact Mine.nr7 (by assumption) | exact Mine.ns7 (by assumption) | exact Mine.nt7 (by assumption) | exact Mine.nu7 (by assumption) | exact Mine.nr8 (by assumption) | exact Mine.ns8 (by assumption) | exact Mine.nt8 (by assumption) | exact Mine.nu8 (by assumption) | exact Mine.nr9 (by assumption) | exact Mine.ns9 (by assumption) | exact Mine.nr10 (by assumption) | exact Mine.ns10 (by assumption) | exact Mine.nr11 (by assumption) | exact Mine.ns11 (by assumption) | exact Mine.nr12 (by assumption) | exact Mine.ns12 (by assumption) | exact Mine.nw1 (by assumption) | exact Mine.nw2 (by assumption) | exact Mine.nw3 (by assumption) | exact Mine.nw4 (by assumption) | exact Mine.nw5 (by assumption) | exact Mine.nw6 (by assumption) | exact Mine.nk1 (by assumption) | exact Mine.nk2 (by assumption) | exact Mine.nk3 (by assumption) | exact Mine.nk4 (by assumption)) | fail "no")
  k_with "my om" => (first | ((with_reducible show @Eq Int _ _); with_reducible first | assumption | exact Eq.symm (by assumption) | exact Int.toNat_of_nonneg (by assumption)) | fail "no")
  k_with "my om" => (first | ((with_reducible show And (@LE.le Int _ _ _) _); with_reducible first | assumption | (refine Mine.i2 (by assumption) ?_; omega) | (refine Mine.i2' (by assumption) ?_; omega)) | fail "no")
  k_with "my om" => (first | ((with_reducible show @LT.lt Int _ _ _); first | (with_reducible first | assumption | exact Mine.i1' (by assumption) | exact Int.ofNat_lt.mpr (by assumption) | exact And.left (by assumption) | exact And.right (by assumption) | exact Int.lt_of_not_le (by assumption)) | decide +kernel) | fail "no")
  k_with "my om" => (first | ((with_reducible show @LE.le Int _ _ _); first | (with_reducible first | assumption | exact Int.natCast_nonneg _ | exact Int.le_refl _ | exact Mine.i1 _ | exact Int.ofNat_le.mpr (by assumption) | exact Mine.i6 (by assumption) (by assumption) | (refine Mine.i7 ?_; omega) | exact And.left (by assumption) | exact And.right (by assumption) | exact Int.le_of_not_lt (by assumption) | exact Int.le_of_lt (by assumption)) | decide +kernel) | fail "no")
  k_with "my om" => (first | ((with_reducible show @Eq Nat _ _); with_reducible first | assumption | exact Eq.symm (by assumption) | exact Mine.i5 (by assumption) | exact Mine.i4 _ | exact Mine.i3 _ | exact Eq.symm (Mine.i4 _) | exact Nat.add_sub_cancel_left .. | exact Nat.min_eq_left (by assumption) | exact Eq.trans (by assumption) (by assumption) | exact Eq.trans (Eq.symm (by assumption)) (by assumption) | exact Eq.trans (by assumption) (Eq.symm (by assumption))) | fail "no")
  k_with "my om" => (first | ((with_reducible show @LT.lt Nat _ _ _); with_reducible first | assumption | exact Mine.np (by assumption) | exact Mine.nq (by assumption) rfl | exact Mine.nv (by assumption) rfl | exact Mine.ia (by assumption) (by assumption) | exact Mine.ib (by assumption) (by assumption) | exact Nat.lt_of_lt_of_le (by assumption) (by assumption) | exact Nat.succ_lt_succ (by assumption) | exact And.left (by assumption) | exact And.right (by assumption) | exact Nat.lt_of_not_le (by assumption) | exact Mine.ia (Mine.ia (by assumption) (by assumption)) (by assumption) | exact Mine.ib (Mine.ia (by assumption) (by assumption)) (by assumption) | exact Mine.ia (Mine.ib (by assumption) (by assumption)) (by assumption) | exact Mine.ib (Mine.ib (by assumption) (by assumption)) (by assumption)) | fail "no")
  k_with "my om" => (first | ((with_reducible show @LE.le Nat _ _ _); first | (with_reducible first | assumption | exact Mine.nc (by assumption) rfl | exact Nat.le_refl _ | exact Mine.nl (by assumption) (by assumption) | exact Mine.nm (by assumption) (by assumption) | exact Mine.nn (by assumption) (by assumption) | exact Mine.nn (by assumption) (Mine.nc (by assumption) rfl) | exact Mine.nl (by assumption) (Mine.nc (by assumption) rfl) | exact Mine.nm (by assumption) (Mine.nc (by assumption) rfl) | exact Mine.nl (by assumption) (Mine.nl (by assumption) (Mine.nc (by assumption) rfl)) | exact Mine.nl (by assumption) (Mine.nn (by assumption) (Mine.nc (by assumption) rfl)) | exact Mine.nm (by assumption) (Mine.nn (by assumption) (Mine.nc (by assumption) rfl)) | exact Mine.nl (by assumption) (Mine.nm (by assumption) (Mine.nc (by assumption) rfl)) | exact Mine.nm (by assumption) (Mine.nl (by assumption) (Mine.nc (by assumption) rfl)) | exact Mine.nm (by assumption) (Mine.nm (by assumption) (Mine.nc (by assumption) rfl)) | exact Nat.le_add_right _ _ | exact Nat.succ_le_succ (by assumption) | exact Nat.le_of_eq (by assumption) | exact Nat.le_of_eq (Eq.symm (by assumption)) | exact Nat.le_succ_of_le (by assumption) | exact Nat.le_of_not_lt (by assumption) | exact Int.toNat_le_toNat (by assumption) | exact Mine.ig (by assumption) (by assumption) rfl | exact Mine.ih (by assumption) (by assumption) rfl | exact And.left (by assumption) | exact And.right (by assumption) | (refine Mine.ie ?_ (by assumption); omega) | (refine Mine.ie' ?_ (by assumption); omega) | (refine Mine.id1 ?_; omega) | (refine Mine.ij ?_; omega) | (refine Mine.ic (by assumption) rfl ?_; omega)) | exact Mine.nz rfl) | fail "no")
  k_with "my own" => (first | assumption | exact Mine.PAt.of (by assumption) (PySem.SameStack.mark _ _) | exact Mine.PAt.of (by assumption) (PySem.SameStack.unmark _ _) | fail "no")
  k_fill
  exact ⟨rfl, rfl⟩
section
variable {w : World} {base : Heap} {s : Shared} {A : Around} {Q E : Value → Shared → Prop} {p : Program} {loose : List Str} {mean : ExcName → Option Value} {mg mb : Str → Option Value}
  {name qual : Str} {params : Arguments} {body : List Stmt} {scope : Scope} {dV kV doc pm cdv ct oc : Value} {an od : Option Addr} {osl : Array (Option Value)} {f : Addr} {args : List Value} {kw : List (Str × Value)} {binds : List (Str × Value)}
theorem enterW (led : List (Addr × Obj)) (X : Frag.In (K9 w.params) base) (T : Top p loose mean mg mb base) (hb : Kp base s.heap) (hn : ∀ p ∈ led, s.heap.get? p.1 = some p.2 ∧ base.get? p.1 = none)
    (ho : (K9 w.params).lookup f = some ⟨oc, od, .func (fnOf name qual params body scope dV kV doc pm an cdv ct), osl⟩) (hcd : codeIn (K9 w.params) cdv qual = true) (hroom : A.depth < recursionLimit)
    (hbind : BindsTo s (fnOf name qual params body scope dV kV doc pm an cdv ct) ⟨args, kw⟩ binds) (hloc : ∀ y ∈ binds, scope.names.lookup y.1 = some .local)
    (h : ∀ (E9 : Value → Shared → Prop) (Q9 : Flow → Shared → Prop) g L h₁ gs dr tk0 os, (∀ fl h' tk', Q (match fl with | .ret v => v | _ => .none) { s with heap := h', toks := tk' } → Q9 fl ⟨h', gs, dr, tk', os⟩) → (∀ e s', wpAny (model pw w) (A.deeper (envOf qual scope L f cdv)) (leaving (envOf qual scope L f cdv) e) (fun _ s'' => E e s'') (fun e' s'' => E e' s'') s' → E9 e s') → PassesOwn (model pw w) (A.deeper (envOf qual scope L f cdv)) (envOf qual scope L f cdv) E9 → PAt (model pw w) (A.deeper (envOf qual scope L f cdv)) (envOf qual scope L f cdv) E9 → Kp base g → (∀ b o, s.heap.get? b = some o → b ∉ led.map (·.1) → g.get? b = some o) → Frag.In (K9 w.params) g → Top p loose mean mg mb g → Fr g L h₁ (fun y => binds.reverse.lookup y) → News g L h₁ led → s.heap.get? L = none →
      wpAny (model pw w) (A.deeper (envOf qual scope L f cdv)) (execs body (envOf qual scope L f cdv))
        Q9 E9 ⟨h₁, gs, dr, tk0, os⟩)
    (hco : scope.isCoroutine = false := by rfl) (hgen : scope.isGenerator = false := by rfl) (hk : scope.kind = .function := by rfl)
    (hcell : ∀ x ∈ scope.names, x.2 ≠ .cell := by decide) : wpAny (model pw w) A (call (.ref f) args kw) Q E s := by
  refine wpAny_call ?_
  have hg : Kp base (hideAll s.heap (led.map (·.1))) := fun b o e => hideAll_get _ (hb b o e) fun hm => by
    obtain ⟨q, hq, rfl⟩ := List.mem_map.mp hm
    rw [(hn q hq).2] at e; cases e
  refine codeAny_call_def (fd := fnOf name qual params body scope dV kV doc pm an cdv ct) (body := body) (binds := binds) hroom (hb _ _ (X _ _ ho)) rfl (T.nolimit.keeps hb) (codeRec_of (X.keeps hb) hcd) rfl hbind hcell hloc (fun h₁ hns hk₁ => ?_) hco hgen hk
  exact h _ _ (hideAll s.heap (led.map (·.1))) s.heap.objs.size h₁ s.gens s.drawn (s.toks + binds.length) s.os (fun _ _ _ z => z) (fun _ _ z => z) PassesOwn.leaving (fun _ k => PassesOwnAt.leavingOf k) hg (fun b o e hb => hideAll_get _ e hb) (X.keeps hg) (T.keeps hg)
    ⟨hns, fun b o e => hk₁ b o (of_hideAll _ e), Nat.le_of_eq (hideAll_size _ _)⟩
    (fun p hp => ⟨hk₁ _ _ (hn p hp).1, Nat.ne_of_lt (Heap.lt_size (hn p hp).1), hideAll_none _ (List.mem_map_of_mem hp)⟩)
    (by cases hq : s.heap.get? s.heap.objs.size with
        | none => rfl
        | some o => exact absurd (Heap.lt_size hq) (Nat.lt_irrefl _))
end
noncomputable def LLent (q : Addr × List Value) : Addr × Obj := (q.1, PySem.W.listOf q.2.toArray 0)
theorem use_newll {w : World} {base g : Heap} {s : Shared} {L : Addr} {m : Str → Option Value} {news : List (Addr × Obj)} {Q E : Value → Shared → Prop} {dp un dep : Nat} {fr : Option (List Env)} {gd : Option (List Code)} {f : Addr} {args : List Value} {pre : Heap → Prop} {R : List (List Value) → Prop}
    (C : CC w base f args dep pre (fun h v h' => Kp h h' ∧ NewLL h h' v R)) (hB : Kp base g) (F : Fr g L s.heap m) (N : News g L s.heap news) (hp : pre s.heap) (hd : dp + dep < recursionLimit) (hu : un + 8 * dep < cLine)
    (h : ∀ (r : Addr) (n : Nat) (rs : List (Addr × List Value)) h' tk', R (rs.map (·.2)) → Fr g L h' m → News g L h' (news ++ (r, PySem.W.listOf (rs.map fun p => Value.ref p.1).toArray n) :: rs.map LLent) → (∀ p ∈ news, (@Ne Nat p.1 r) ∧ ∀ q ∈ rs, (@Ne Nat p.1 q.1)) → Q (.ref r) { s with heap := h', toks := tk' }) :
    wpAny (model pw w) (Ar dp un fr gd) (call (.ref f) args) Q E s :=
  C _ _ _ _ _ _ _ hd hu (hB.trans F.keep) hp fun v h' tk' ⟨k, r, n, rs, e, h1, h2, h3, hR⟩ => by
    subst e
    have hL : ∀ b, s.heap.get? b = none → b ≠ L := fun b e q => by
      subst q
      obtain ⟨o, _, _, e', _⟩ := F.ns
      rw [e] at e'; cases e'
    refine h r n rs h' tk' hR (F.keeps k) (fun p hp => ?_) (fun p hp => ⟨fun q => ?_, fun z hz q => ?_⟩)
    · rcases List.mem_append.mp hp with hp | hp
      · exact N.grown k _ hp
      · rcases List.mem_cons.mp hp with rfl | hp
        · exact ⟨h1, hL _ h2, none_g F h2⟩
        · obtain ⟨z, hz, rfl⟩ := List.mem_map.mp hp
          exact ⟨(h3 z hz).1, hL _ (h3 z hz).2, none_g F (h3 z hz).2⟩
    · have z := (N p hp).1
      rw [show p.1 = r from q, h2] at z; cases z
    · have y := (N p hp).1
      rw [show p.1 = z.1 from q, (h3 z hz).2] at y; cases y
theorem step_ne {f : List (List Sg)} {x : Sg} (h : ∀ c ∈ f, c ≠ []) : ∀ c ∈ stepL f x, c ≠ [] := by
  rcases nil_or_snoc f with rfl | ⟨f', l, rfl⟩
  · intro c hc
    rw [show stepL [] x = [[x]] from rfl, List.mem_singleton] at hc
    rw [hc]; simp
  · intro c hc
    rw [stepL_snoc] at hc
    split at hc
    · rcases List.mem_append.mp hc with hc | hc
      · exact h c (List.mem_append_left _ hc)
      · rw [List.mem_singleton.mp hc]; simp
    · rcases List.mem_append.mp hc with hc | hc
      · exact h c hc
      · rw [List.mem_singleton.mp hc]; simp
theorem fold_ne : ∀ (xs : List Sg) (f : List (List Sg)), (∀ c ∈ f, c ≠ []) → ∀ c ∈ xs.foldl stepL f, c ≠ []
  | [], _, h => h
  | x :: r, f, h => fold_ne r _ (step_ne h)
theorem clustersL_ne (xs : List Sg) : ∀ c ∈ clustersL xs, c ≠ [] := fold_ne xs [] (fun _ h => nomatch h)
theorem clustersL_mem {xs c : List Sg} {x : Sg} (hc : c ∈ clustersL xs) (hx : x ∈ c) : x ∈ xs := by
  rw [← clustersL_flat xs]; exact List.mem_flatten.mpr ⟨c, hc, hx⟩
theorem flat_rows (f : List Sg → Int) : ∀ (cs : List (List Sg)), (∀ c ∈ cs, c ≠ []) → (cs.flatMap (rowF f)).length = cs.flatten.length
  | [], _ => rfl
  | c :: r, h => by
    rw [List.flatMap_cons, List.flatten_cons, List.length_append, List.length_append, flat_rows f r fun c hc => h c (.tail _ hc)]
    have : 0 < c.length := List.length_pos_iff.mpr (h c (.head _))
    unfold rowF
    rw [List.length_cons, List.length_replicate, Nat.sub_add_cancel this]
theorem ints_zeros (t : Tok) : ∀ n, IntsAre (List.replicate n (Value.int 0 t)) (List.replicate n 0)
  | 0 => .nil
  | n + 1 => .cons _ _ (ints_zeros t n)
end Mine

end

section
open PySem PySem.W PyProof.Rows PySem.Calls PyProof.Rows.LCg
namespace Mine
set_option maxRecDepth 100000
set_option maxHeartbeats 0
theorem fill28 : PySem.Challenge.rw_pb0596_01.foot = 6 ∧ K9 = K9 := by
  k_with_none
  k_with "my ne" => (first | (with_reducible first | assumption | exact Ne.symm (by assumption) | exact Mine.nr1 (by assumption) | exact Mine.ns1 (by assumption) | exact Mine.nt1 (by assumption) | exact Mine.nu1 (by assumption) | exact Mine.nr2 (by assumption) | exact Mine.ns2 (by assumption) | exact Mine.nt2 (by assumption) | exact Mine.nu2 (by assumption) | exact Mine.nr3 (by assumption) | exact Mine.ns3 (by assumption) | exact Mine.nt3 (by assumption) | exact Mine.nu3 (by assumption) | exact Mine.nr4 (by assumption) | exact Mine.ns4 (by assumption) | exact Mine.nt4 (by assumption) | exact Mine.nu4 (by assumption) | exact Mine.nr5 (by assumption) | exact Mine.ns5 (by assumption) | exact Mine.nt5 (by assumption) | exact Mine.nu5 (by assumption) | exact Mine.nr6 (by assumption) | exact Mine.ns6 (by assumption) | exact Mine.nt6 (by assumption) | exact Mine.nu6 (by assumption) | exact Mine.nr7 (by assumption) | exact Mine.ns7 (by assumption) | exact Mine.nt7 (by assumption) | exact Mine.nu7 (by assumption) | exact Mine.nr8 (by assumption) | exact Mine.ns8 (by assumption) | exact Mine.nt8 (by assumption) | exact Mine.nu8 (by assumption) | exact Mine.nr9 (by assumption) | exact Mine.ns9 (by assumption) | exact Mine.nr10 (by assumption) | exact Mine.ns10 (by assumption) | exact Mine.nr11 (by assumption) | exact Mine.ns11 (by assumption) | exact Mine.nr12 (by assumption) | exact Mine.ns12 (by assumption) | exact Mine.nw1 (by assumption) | exact Mine.nw2 (by assumption) | exact Mine.nw3 (by assumption) | exact Mine.nw4 (by assumption) | exact Mine.nw5 (by assumption) | exact Mine.nw6 (by assumption) | exact Mine.nk1 (by assumption) | exact Mine.nk2 (by assumption) | exact Mine.nk3 (by assumption) | exact Mine.nk4 (by assumption)) | fail "no")
  k_with "my om" => (first | ((with_reducible show @Eq Int _ _); with_reducible first | assumption | exact Eq.symm (by assumption) | exact Int.toNat_of_nonneg (by assumption)) | fail "no")
  k_with "my om" => (first | ((with_reducible show And (@LE.le Int _ _ _) _); with_reducible first | assumption | (refine Mine.i2 (by assumption) ?_; omega) | (refine Mine.i2' (by assumption) ?_; omega)) | fail "no")
  k_with "my om" => (first | ((with_reducible show @LT.lt Int _ _ _); first | (with_reducible first | assumption | exact Mine.i1' (by assumption) | exact Int.ofNat_lt.mpr (by assumption) | exact And.left (by assumption) | exact And.right (by assumption) | exact Int.lt_of_not_le (by assumption)) | decide +kernel) | fail "no")
  k_with "my om" => (first | ((with_reducible show @LE.le Int _ _ _); first | (with_reducible first | assumption | exact Int.natCast_nonneg _ | exact Int.le_refl _ | exact Mine.i1 _ | exact Int.ofNat_le.mpr (by assumption) | exact Mine.i6 (by assumption) (by assumption) | (refine Mine.i7 ?_; omega) | exact And.left (by assumption) | exact And.right (by assumption) | exact Int.le_of_not_lt (by assumption) | exact Int.le_of_lt (by assumption)) | decide +kernel) | fail "no")
  k_with "my om" => (first | ((with_reducible show @Eq Nat _ _); with_reducible first | assumption | exact Eq.symm (by assumption) | exact Mine.i5 (by assumption) | exact Mine.i4 _ | exact Mine.i3 _ | exact Eq.symm (Mine.i4 _) | exact Nat.add_sub_cancel_left .. | exact Nat.min_eq_left (by assumption) | exact Eq.trans (by assumption) (by assumption) | exact Eq.trans (Eq.symm (by assumption)) (by assumption) | exact Eq.trans (by assumption) (Eq.symm (by assumption))) | fail "no")
  k_with "my om" => (first | ((with_reducible show @LT.lt Nat _ _ _); with_reducible first | assumption | exact Mine.np (by assumption) | exact Mine.nq (by assumption) rfl | exact Mine.nv (by assumption) rfl | exact Mine.ia (by assumption) (by assumption) | exact Mine.ib (by assumption) (by assumption) | exact Nat.lt_of_lt_of_le (by assumption) (by assumption) | exact Nat.succ_lt_succ (by assumption) | exact And.left (by assumption) | exact And.right (by assumption) | exact Nat.lt_of_not_le (by assumption) | exact Mine.ia (Mine.ia (by assumption) (by assumption)) (by assumption) | exact Mine.ib (Mine.ia (by assumption) (by assumption)) (by assumption) | exact Mine.ia (Mine.ib (by assumption) (by assumption)) (by assumption) | exact Mine.ib (Mine.ib (by assumption) (by assumption)) (by assumption)) | fail "no")
  k_with "my om" => (first | ((with_reducible show @LE.le Nat _ _ _); first | (with_reducible first | assumption | exact Mine.nc (by assumption) rfl | exact Nat.le_refl _ | exact Mine.nl (by assumption) (by assumption) | exact Mine.nm (by assumption) (by assumption) | exact Mine.nn (by assumption) (by assumption) | exact Mine.nn (by assumption) (Mine.nc (by assumption) rfl) | exact Mine.nl (by assumption) (Mine.nc (by assumption) rfl) | exact Mine.nm (by assumption) (Mine.nc (by assumption) rfl) | exact Mine.nl (by assumption) (Mine.nl (by assumption) (Mine.nc (by assumption) rfl)) | exact Mine.nl (by assumption) (Mine.nn (by assumption) (Mine.nc (by assumption) rfl)) | exact Mine.nm (by assumption) (Mine.nn (by assumption) (Mine.nc (by assumption) rfl)) | exact Mine.nl (by assumption) (Mine.nm (by assumption) (Mine.nc (by assumption) rfl)) | exact Mine.nm (by assumption) (Mine.nl (by assumption) (Mine.nc (by assumption) rfl)) | exact Mine.nm (by assumption) (Mine.nm (by assumption) (Mine.nc (by assumption) rfl)) | exact Nat.le_add_right _ _ | exact Nat.succ_le_succ (by assumption) | exact Nat.le_of_eq (by assumption) | exact Nat.le_of_eq (Eq.symm (by assumption)) | exact Nat.le_succ_of_le (by assumption) | exact Nat.le_of_not_lt (by assumption) | exact Int.toNat_le_toNat (by assumption) | exact Mine.ig (by assumption) (by assumption) rfl | exact Mine.ih (by assumption) (by assumption) rfl | exact And.left (by assumption) | exact And.right (by assumption) | (refine Mine.ie ?_ (by assumption); omega) | (refine Mine.ie' ?_ (by assumption); omega) | (refine Mine.id1 ?_; omega) | (refine Mine.ij ?_; omega) | (refine Mine.ic (by assumption) rfl ?_; omega)) | exact Mine.nz rfl) | fail "no")
  k_with "my own" => (first | assumption | exact Mine.PAt.of (by assumption) (PySem.SameStack.mark _ _) | exact Mine.PAt.of (by assumption) (PySem.SameStack.unmark _ _) | fail "no")
  k_fill
  exact ⟨rfl, rfl⟩
inductive SignE : PySem.Expr → Sg → Prop
  | mk (c : Int) (gc ea gcb : Str) (ep di : Bool) (k0 k1 k2 k3 k4 k5 k : Nat) (p0 p1 p2 p3 p4 p5 p : Pos) :
    SignE (.Tuple [.Constant (.int c) k0 p0, .Constant (.str gc) k1 p1, .Constant (.str ea) k2 p2, .Constant (.str gcb) k3 p3, .Constant (.bool ep) k4 p4, .Constant (.bool di) k5 p5] k p) ⟨c, gc, ea, gcb, ep, di⟩
noncomputable def constOf : PySem.Expr → Option Const
  | .Constant c _ _ => some c
  | _ => Option.none
noncomputable def codeE : PySem.Expr → List (Option Const)
  | .Tuple l _ _ => l.map constOf
  | _ => []
noncomputable def codeS (x : Sg) : List (Option Const) := [some (.int x.c), some (.str x.gc), some (.str x.ea), some (.str x.gcb), some (.bool x.ep), some (.bool x.di)]
theorem const_of {e : PySem.Expr} {c : Const} (h : constOf e = some c) : ∃ k p, e = .Constant c k p := by
  unfold constOf at h
  split at h
  · cases h; exact ⟨_, _, rfl⟩
  · cases h
theorem map_cons {e : List PySem.Expr} {c : Const} {r : List (Option Const)} (h : e.map constOf = some c :: r) : ∃ k p t, e = .Constant c k p :: t ∧ t.map constOf = r := by
  cases e with
  | nil => cases h
  | cons a t =>
    rw [List.map_cons] at h
    obtain ⟨k, p, e⟩ := const_of (List.cons.inj h).1
    exact ⟨k, p, t, by rw [e], (List.cons.inj h).2⟩
theorem sign_of {e : PySem.Expr} {x : Sg} (h : codeE e = codeS x) : SignE e x := by
  unfold codeE at h
  split at h
  · obtain ⟨_, _, l1, e1, h1⟩ := map_cons h
    obtain ⟨_, _, l2, e2, h2⟩ := map_cons h1
    obtain ⟨_, _, l3, e3, h3⟩ := map_cons h2
    obtain ⟨_, _, l4, e4, h4⟩ := map_cons h3
    obtain ⟨_, _, l5, e5, h5⟩ := map_cons h4
    obtain ⟨_, _, l6, e6, h6⟩ := map_cons h5
    have e7 := List.map_eq_nil_iff.mp h6
    rw [e1, e2, e3, e4, e5, e6, e7]
    exact .mk ..
  · cases h
theorem signs_of : ∀ {es : List PySem.Expr} {xs : List Sg}, es.map codeE = xs.map codeS → Paired SignE es xs
  | [], [], _ => .nil
  | [], _ :: _, h => nomatch h
  | _ :: _, [], h => nomatch h
  | e :: r, x :: q, h => by
    rw [List.map_cons, List.map_cons] at h
    exact .cons (sign_of (List.cons.inj h).1) (signs_of (List.cons.inj h).2)
noncomputable def SgIn (T : List (Addr × Obj)) (v : Value) (x : Sg) : Prop := ∃ t o tc t1 t2 t3 n, v = .ref t ∧ (t, o) ∈ T ∧ o.cls = .type "tuple" ∧ o.data = .seq #[.int x.c tc, .str x.gc t1, .str x.ea t2, .str x.gcb t3, .bool x.ep, .bool x.di] n
theorem SgIn.more {T U : List (Addr × Obj)} {v : Value} {x : Sg} (k : ∀ p ∈ T, p ∈ U) (h : SgIn T v x) : SgIn U v x := by
  obtain ⟨t, o, tc, t1, t2, t3, n, e, hm, r⟩ := h
  exact ⟨t, o, tc, t1, t2, t3, n, e, k _ hm, r⟩
theorem SgIn.at {g h : Heap} {L : Addr} {T : List (Addr × Obj)} {v : Value} {x : Sg} (N : News g L h T) (H : SgIn T v x) : SgAt h v x := by
  obtain ⟨t, o, tc, t1, t2, t3, n, e, hm, hc, hd⟩ := H
  exact ⟨t, tc, t1, t2, t3, e, o, (N _ hm).1, hc, n, hd⟩
theorem SgIn.new {s g h : Heap} {L : Addr} {T : List (Addr × Obj)} {v : Value} {x : Sg} (N : News g L h T) (hG : ∀ b o, s.get? b = some o → ¬ b ∈ List.map (fun x => x.fst) ([] : List (Addr × Obj)) → g.get? b = some o) (H : SgIn T v x) : ∃ t, v = .ref t ∧ s.get? t = none := by
  obtain ⟨t, o, tc, t1, t2, t3, n, e, hm, hc, hd⟩ := H
  refine ⟨t, e, ?_⟩
  cases q : s.get? t with
  | none => rfl
  | some o' => have := hG _ _ q (fun h => nomatch h); rw [(N _ hm).2.2] at this; cases this
section
variable {prog : Program} {w : World} {A : Around} {E : Value → Shared → Prop} {env : Env} {pos : Pos} {g : Heap} {L : Addr} {m : Str → Option Value}
theorem eval_sign {e : PySem.Expr} {x : Sg} {hp : Heap} {gs : Array GenState} {d : Drawn} {tk : Nat} {os : OsState} {news : List (Addr × Obj)} {Q : Value → Shared → Prop} (he : SignE e x) (F : Fr g L hp m) (N : News g L hp news)
    (h : ∀ h' tk' t o, Fr g L h' m → News g L h' ((t, o) :: news) → SgIn [(t, o)] (.ref t) x → Q (.ref t) ⟨h', gs, d, tk', os⟩) : wpAny (model prog w) A (eval e env) Q E ⟨hp, gs, d, tk, os⟩ := by
  cases he with
  | mk c gc ea gcb ep di =>
    refine Tuple_ (spliced_more (wpAny_Constant_int (spliced_more (PySem.Calls.Constant_str (spliced_more (PySem.Calls.Constant_str (spliced_more (PySem.Calls.Constant_str (spliced_more (wpAny_Constant_bool (spliced_more (wpAny_Constant_bool (spliced_none ?_)))))))))))))
    exact newTuple_N (s := ⟨hp, gs, d, tk + 1 + 1 + 1 + 1, os⟩) F N (fun h' F' N' => h h' (tk + 1 + 1 + 1 + 1) hp.objs.size { cls := .type "tuple", data := .seq #[.int c tk, .str gc (tk + 1), .str ea (tk + 1 + 1), .str gcb (tk + 1 + 1 + 1), .bool ep, .bool di] } F' N' ⟨_, _, _, _, _, _, _, rfl, .head _, rfl, rfl⟩) (by rw [sizeLine_eq]; show 6 ≤ 16777216; decide)
theorem sign_star {e : PySem.Expr} {x : Sg} {r : List PySem.Expr} (he : SignE e x) : starEach (e :: r) env = (false, eval e env) :: starEach r env := by cases he; rfl
theorem spl_signs : ∀ {es : List PySem.Expr} {xs : List Sg}, Paired SignE es xs → ∀ {hp : Heap} {gs : Array GenState} {d : Drawn} {tk : Nat} {os : OsState} {news : List (Addr × Obj)} {Q : List Value → Shared → Prop}, Fr g L hp m → News g L hp news →
    (∀ h' tk' vs T, Fr g L h' m → News g L h' (news ++ T) → Paired (SgIn T) vs xs → vs.length = xs.length → Q vs ⟨h', gs, d, tk', os⟩) → wpAny (model prog w) A (spliced (backTo pos (starEach es env))) Q E ⟨hp, gs, d, tk, os⟩
  | _, _, .nil, hp, gs, d, tk, os, news, Q, F, N, h => spliced_none (h hp tk [] [] F (by rw [List.append_nil]; exact N) .nil rfl)
  | _, _, .cons he hr, hp, gs, d, tk, os, news, Q, F, N, h => by
    refine spliced_more (eval_sign he F N fun h1 tk1 t o F1 N1 P1 => ?_) (sign_star he)
    refine spl_signs hr F1 N1 fun h2 tk2 vs T F2 N2 P hl => ?_
    refine h h2 tk2 (.ref t :: vs) ((t, o) :: T) F2 (news_perm N2 fun q hq => ?_) (.cons (P1.more fun p hp => by rw [List.mem_singleton.mp hp]; exact .head _) (paired_mono (fun _ _ z => z.more fun p hp => .tail _ hp) P)) (by rw [List.length_cons, List.length_cons, hl])
    rcases List.mem_append.mp hq with hq | hq
    · exact .tail _ (List.mem_append_left _ hq)
    · rcases List.mem_cons.mp hq with rfl | hq
      · exact .head _
      · exact .tail _ (List.mem_append_right _ hq)
theorem list_signs {es : List PySem.Expr} {xs : List Sg} {hp : Heap} {gs : Array GenState} {d : Drawn} {tk : Nat} {os : OsState} {news T : List (Addr × Obj)} {Q : Value → Shared → Prop} (he : Paired SignE es xs) (hz : xs.length ≤ 1000) (F : Fr g L hp m) (N : News g L hp (news ++ T))
    (h : ∀ h' tk' l vs T', Fr g L h' m → News g L h' ((l, PySem.W.listOf vs.toArray 0) :: news ++ T') → (∀ p ∈ T, p ∈ T') → Paired (SgIn T') vs xs → vs.length = xs.length → Q (.ref l) ⟨h', gs, d, tk', os⟩) :
    wpAny (model prog w) A (eval (.List es pos) env) Q E ⟨hp, gs, d, tk, os⟩ := by
  refine List_ (spl_signs he F N fun h' tk' vs U F' N' P hl => ?_)
  refine newList_N (s := ⟨h', gs, d, tk', os⟩) F' N' (fun h2 F2 N2 => ?_) (by rw [sizeLine_eq]; omega)
  refine h h2 tk' _ vs (T ++ U) F2 (news_perm N2 fun q hq => ?_) (fun p hp => List.mem_append_left _ hp) (paired_mono (fun _ _ z => z.more fun p hp => List.mem_append_right _ hp) P) hl
  rcases List.mem_cons.mp hq with rfl | hq
  · exact .head _
  · rw [List.append_assoc]; exact .tail _ hq
end
theorem none_eq {α : Type} {x : Option α} (h : ∀ o, x = some o → False) : x = none := by
  cases x with
  | none => rfl
  | some o => exact (h o rfl).elim
theorem paired_as {α β : Type} {f : α → β → Prop} {l : List α} {m m' : List β} (h : Paired f l m) (e : m = m') : Paired f l m' := e ▸ h
theorem sg_snoc {T T' : List (Addr × Obj)} {vs ws : List Value} {xs ys : List Sg} (P : Paired (SgIn T) vs xs) (k : ∀ p ∈ T, p ∈ T') (R : Paired (SgIn T') ws ys) : Paired (SgIn T') (vs ++ ws) (xs ++ ys) := paired_app (paired_mono (fun _ _ z => z.more k) P) R
theorem lsigns_cc {w : World} {base : Heap} (G : Gr w base) :
   CC w base 302 [] 2 (fun _ => True) (fun h v h' => Kp h h' ∧ ∃ sl svs, v = .ref sl ∧ h'.get? sl = some (PySem.W.listOf svs.toArray 0) ∧ h.get? sl = none ∧ Paired (fun v x => SgAt h' v x ∧ ∃ t, v = .ref t ∧ h.get? t = none) svs tab) := by
  have G' := G
  obtain ⟨X, p, loose, mean, mg, mb, T⟩ := G
  intro dp un fr gd s Q E hdp hun hb hp hret
  w_on
  k_dflt (refine enter (binds := []) [] X T hb (fun _ h => nomatch h) (by k_is) (by k_is) (by show dp < recursionLimit; omega) (BindsTo.of_eq rfl) (locs rfl) (fun E9 Q9 g L h₁ g9s d9r t9k o9s hQ9 hE9 hP9 hA9 hB hG X' T' F' N' hL => ?_))
  try dsimp only
  k_unmd
  try k_fold
  have hS : Paired (SgIn []) [] [] := .nil
  obtain ⟨T0, hT0⟩ : ∃ T0 : List (Addr × Obj), T0 = [] := ⟨_, rfl⟩
  replace N' : News g L h₁ ([] ++ T0) := by rw [hT0]; exact N'
  rw [← hT0] at hS
  clear hT0
  k_with "eval List" => ((try dsimp only); (rename Fr _ _ _ _ => F8); (rename News _ _ _ _ => N8); (first | (with_reducible refine list_signs (xs := (tab.drop 20).take 3) (news := [_, _, _, _, _, _, _, _, _, _, _, _, _, _, _]) (signs_of ?z1) ?z2 F8 N8 ?_) | (with_reducible refine list_signs (xs := (tab.drop 17).take 3) (news := [_, _, _, _, _, _, _, _, _, _, _, _, _]) (signs_of ?z1) ?z2 F8 N8 ?_) | (with_reducible refine list_signs (xs := (tab.drop 14).take 3) (news := [_, _, _, _, _, _, _, _, _, _, _]) (signs_of ?z1) ?z2 F8 N8 ?_) | (with_reducible refine list_signs (xs := (tab.drop 12).take 2) (news := [_, _, _, _, _, _, _, _, _]) (signs_of ?z1) ?z2 F8 N8 ?_) | (with_reducible refine list_signs (xs := (tab.drop 10).take 2) (news := [_, _, _, _, _, _, _]) (signs_of ?z1) ?z2 F8 N8 ?_) | (with_reducible refine list_signs (xs := (tab.drop 7).take 3) (news := [_, _, _, _, _]) (signs_of ?z1) ?z2 F8 N8 ?_) | (with_reducible refine list_signs (xs := (tab.drop 5).take 2) (news := [_, _, _]) (signs_of ?z1) ?z2 F8 N8 ?_) | (with_reducible refine list_signs (xs := (tab.drop 3).take 2) (news := [_]) (signs_of ?z1) ?z2 F8 N8 ?_) | (with_reducible refine list_signs (xs := (tab.drop 0).take 3) (news := []) (signs_of ?z1) ?z2 F8 N8 ?_)); (case z1 => k_dflt (exact rfl)); (case z2 => k_dflt (exact of_decide_eq_true rfl)); clear N8; intro h9 tk9 l9 vs9 T9 F9 N9 kT9 P9 e9; (have n9 : vs9.length ≤ 9 := by rw [e9]; k_dflt (exact of_decide_eq_true rfl)); clear e9; (try dsimp only [List.cons_append, List.nil_append] at N9 ⊢); k_sweep)
  k_with "binaryOp Add ref ref" => (k_here; k_dflt (refine' ad_two ?F ?N ?l ?r ?z ?_; (case F => k_asm); (case N => k_asm); (case l => kmk_list); (case r => kmk_list); (case z => ((simp only [List.length_append]); omega))); intro D' h' F' N' l1; (try k_lt l1); (try k_sweep))
  k_steps
  all_goals (try ((with_reducible refine hQ9 _ _ _ ?_); (try dsimp only)))
  try dsimp only
  rename Fr _ _ _ _ => F8
  rename News _ _ _ _ => N8
  have NT : News g L _ T9 := news_perm N8 (fun q hq => by repeat (first | exact hq | apply List.Mem.tail))
  refine hret _ _ _ ⟨fun b o e => F8.keep _ _ (hG _ _ e (fun h => nomatch h)), _, _, rfl, (N8 _ (.head _)).1, ?_, ?_⟩
  · refine none_eq fun o e => ?_
    have := hG _ _ e (fun h => nomatch h)
    rw [(N8 _ (.head _)).2.2] at this; cases this
  · refine paired_mono (fun _ _ z => ⟨z.at NT, z.new NT hG⟩) (paired_as (sg_snoc (sg_snoc (sg_snoc (sg_snoc (sg_snoc (sg_snoc (sg_snoc (sg_snoc (by assumption) (by assumption) (by assumption)) (by assumption) (by assumption)) (by assumption) (by assumption)) (by assumption) (by assumption)) (by assumption) (by assumption)) (by assumption) (by assumption)) (by assumption) (by assumption)) (by assumption) (by assumption)) ?_)
    kernel_rfl
end Mine

end

section
open PySem PySem.W PyProof.Rows PySem.Calls PyProof.Rows.LCg
namespace Mine
set_option maxRecDepth 100000
set_option maxHeartbeats 0
theorem fillX8 : PySem.Challenge.rw_pb0596_01.foot = 6 ∧ K9 = K9 := by
  k_with_none
  k_with "my ne" => (first | (with_reducible first | assumption | exact Ne.symm (by assumption) | exact Mine.nr1 (by assumption) | exact Mine.ns1 (by assumption) | exact Mine.nt1 (by assumption) | exact Mine.nu1 (by assumption) | exact Mine.nr2 (by assumption) | exact Mine.ns2 (by assumption) | exact Mine.nt2 (by assumption) | exact Mine.nu2 (by assumption) | exact Mine.nr3 (by assumption) | exact Mine.ns3 (by assumption) | exact Mine.nt3 (by assumption) | exact Mine.nu3 (by assumption) | exact Mine.nr4 (by assumption) | exact Mine.ns4 (by assumption) | exact Mine.nt4 (by assumption) | exact Mine.nu4 (by assumption) | exact Mine.nr5 (by assumption) | exact Mine.ns5 (by assumption) | exact Mine.nt5 (by assumption) | exact Mine.nu5 (by assumption) | exact Mine.nr6 (by assumption) | exact Mine.ns6 (by assumption) | exact Mine.nt6 (by assumption) | exact Mine.nu6 (by assumption) | exact Mine.nr7 (by assumption) | exact Mine.ns7 (by assumption) | exact Mine.nt7 (by assumption) | exact Mine.nu7 (by assumption) | exact Mine.nr8 (by assumption) | exact Mine.ns8 (by assumption) | exact Mine.nt8 (by assumption) | exact Mine.nu8 (by assumption) | exact Mine.nr9 (by assumption) | exact Mine.ns9 (by assumption) | exact Mine.nr10 (by assumption) | exact Mine.ns10 (by assumption) | exact Mine.nr11 (by assumption) | exact Mine.ns11 (by assumption) | exact Mine.nr12 (by assumption) | exact Mine.ns12 (by assumption) | exact Mine.nw1 (by assumption) | exact Mine.nw2 (by assumption) | exact Mine.nw3 (by assumption) | exact Mine.nw4 (by assumption) | exact Mine.nw5 (by assumption) | exact Mine.nw6 (by assumption) | exact Mine.nk1 (by assumption) | exact Mine.nk2 (by assumption) | exact Mine.nk3 (by assumption) | exact Mine.nk4 (by assumption)) | fail "no")
  k_with "my om" => (first | ((with_reducible show @Eq Int _ _); with_reducible first | assumption | exact Eq.symm (by assumption) | exact Int.toNat_of_nonneg (by assumption)) | fail "no")
  k_with "my om" => (first | ((with_reducible show And (@LE.le Int _ _ _) _); with_reducible first | assumption | (refine Mine.i2 (by assumption) ?_; omega) | (refine Mine.i2' (by assumption) ?_; omega)) | fail "no")
  k_with "my om" => (first | ((with_reducible show @LT.lt Int _ _ _); first | (with_reducible first | assumption | exact Mine.i1' (by assumption) | exact Int.ofNat_lt.mpr (by assumption) | exact And.left (by assumption) | exact And.right (by assumption) | exact Int.lt_of_not_le (by assumption)) | decide +kernel) | fail "no")
  k_with "my om" => (first | ((with_reducible show @LE.le Int _ _ _); first | (with_reducible first | assumption | exact Int.natCast_nonneg _ | exact Int.le_refl _ | exact Mine.i1 _ | exact Int.ofNat_le.mpr (by assumption) | exact Mine.i6 (by assumption) (by assumption) | (refine Mine.i7 ?_; omega) | exact And.left (by assumption) | exact And.right (by assumption) | exact Int.le_of_not_lt (by assumption) | exact Int.le_of_lt (by assumption)) | decide +kernel) | fail "no")
  k_with "my om" => (first | ((with_reducible show @Eq Nat _ _); with_reducible first | assumption | exact Eq.symm (by assumption) | exact Mine.i5 (by assumption) | exact Mine.i4 _ | exact Mine.i3 _ | exact Eq.symm (Mine.i4 _) | exact Nat.add_sub_cancel_left .. | exact Nat.min_eq_left (by assumption) | exact Eq.trans (by assumption) (by assumption) | exact Eq.trans (Eq.symm (by assumption)) (by assumption) | exact Eq.trans (by assumption) (Eq.symm (by assumption))) | fail "no")
  k_with "my om" => (first | ((with_reducible show @LT.lt Nat _ _ _); with_reducible first | assumption | exact Mine.np (by assumption) | exact Mine.nq (by assumption) rfl | exact Mine.nv (by assumption) rfl | exact Mine.ia (by assumption) (by assumption) | exact Mine.ib (by assumption) (by assumption) | exact Nat.lt_of_lt_of_le (by assumption) (by assumption) | exact Nat.succ_lt_succ (by assumption) | exact And.left (by assumption) | exact And.right (by assumption) | exact Nat.lt_of_not_le (by assumption) | exact Mine.ia (Mine.ia (by assumption) (by assumption)) (by assumption) | exact Mine.ib (Mine.ia (by assumption) (by assumption)) (by assumption) | exact Mine.ia (Mine.ib (by assumption) (by assumption)) (by assumption) | exact Mine.ib (Mine.ib (by assumption) (by assumption)) (by assumption)) | fail "no")
  k_with "my om" => (first | ((with_reducible show @LE.le Nat _ _ _); first | (with_reducible first | assumption | exact Mine.nc (by assumption) rfl | exact Nat.le_refl _ | exact Mine.nl (by assumption) (by assumption) | exact Mine.nm (by assumption) (by assumption) | exact Mine.nn (by assumption) (by assumption) | exact Mine.nn (by assumption) (Mine.nc (by assumption) rfl) | exact Mine.nl (by assumption) (Mine.nc (by assumption) rfl) | exact Mine.nm (by assumption) (Mine.nc (by assumption) rfl) | exact Mine.nl (by assumption) (Mine.nl (by assumption) (Mine.nc (by assumption) rfl)) | exact Mine.nl (by assumption) (Mine.nn (by assumption) (Mine.nc (by assumption) rfl)) | exact Mine.nm (by assumption) (Mine.nn (by assumption) (Mine.nc (by assumption) rfl)) | exact Mine.nl (by assumption) (Mine.nm (by assumption) (Mine.nc (by assumption) rfl)) | exact Mine.nm (by assumption) (Mine.nl (by assumption) (Mine.nc (by assumption) rfl)) | exact Mine.nm (by assumption) (Mine.nm (by assumption) (Mine.nc (by assumption) rfl)) | exact Nat.le_add_right _ _ | exact Nat.succ_le_succ (by assumption) | exact Nat.le_of_eq (by assumption) | exact Nat.le_of_eq (Eq.symm (by assumption)) | exact Nat.le_succ_of_le (by assumption) | exact Nat.le_of_not_lt (by assumption) | exact Int.toNat_le_toNat (by assumption) | exact Mine.ig (by assumption) (by assumption) rfl | exact Mine.ih (by assumption) (by assumption) rfl | exact And.left (by assumption) | exact And.right (by assumption) | (refine Mine.ie ?_ (by assumption); omega) | (refine Mine.ie' ?_ (by assumption); omega) | (refine Mine.id1 ?_; omega) | (refine Mine.ij ?_; omega) | (refine Mine.ic (by assumption) rfl ?_; omega)) | exact Mine.nz rfl) | fail "no")
  k_with "my own" => (first | assumption | exact Mine.PAt.of (by assumption) (PySem.SameStack.mark _ _) | exact Mine.PAt.of (by assumption) (PySem.SameStack.unmark _ _) | fail "no")
  k_fill
  exact ⟨rfl, rfl⟩
@[reducible] noncomputable def slo (o : Obj) (sl : Array (Option Value)) : Obj := { o with slots := sl }
structure WInv (d L0 r fd : Addr) (o0 lo : Obj) (Mb : List (Addr × Obj)) (wide : Bool) (cs : List (List Sg)) (i : Nat) (m : Str → Option Value) (news : List (Addr × Obj)) (k : Nat) (fvs : List Value) (sl : Array (Option Value)) : Prop where
  m1 : m (Str.ofString "found") = some (.ref fd)
  m2 : m (Str.ofString "data") = some (.ref d)
  m3 : m (Str.ofString "is_wide_ambiguous") = some (.bool wide)
  n1 : (fd, PySem.W.listOf fvs.toArray k) ∈ news
  n2 : (L0, slo o0 sl) ∈ news
  n3 : (r, lo) ∈ news
  n4 : ∀ p ∈ Mb, p ∈ news
  hi : IntsAre fvs ((cs.take i).flatMap (rowF (widthF wide)))
noncomputable def WI (d L0 r fd : Addr) (o0 lo : Obj) (Mb : List (Addr × Obj)) (wide : Bool) (cs : List (List Sg)) (i : Nat) (m : Str → Option Value) (news : List (Addr × Obj)) : Prop := ∃ k fvs sl, WInv d L0 r fd o0 lo Mb wide cs i m news k fvs sl
theorem w_end {g h9 : Heap} {L I d L0 r fd : Addr} {oI o0 lo qo : Obj} {Mb : List (Addr × Obj)} {wide : Bool} {cs : List (List Sg)} {c : List Sg} {i k9 tk qa : Nat} {m' : Str → Option Value} {fvs : List Value} {sl : Array (Option Value)} {z : Int} {t t' : Tok} {s₁ : Shared}
    (F : Fr g L h9 m') (N : News g L h9 ((fd, PySem.W.listOf (fvs ++ [Value.int z t] ++ List.replicate (c.length - 1) (Value.int 0 t')).toArray k9) :: (I, oI) :: (L0, slo o0 sl) :: (qa, qo) :: (r, lo) :: Mb)) (hi : IntsAre fvs ((cs.take i).flatMap (rowF (widthF wide)))) (hc : cs[i]? = some c) (hz : widthF wide c = z)
    (h1 : fd ≠ I) (h2 : L0 ≠ I) (h3 : r ≠ I) (h4 : ∀ p ∈ Mb, p.1 ≠ I) (m1 : m' (Str.ofString "found") = some (.ref fd)) (m2 : m' (Str.ofString "data") = some (.ref d)) (m3 : m' (Str.ofString "is_wide_ambiguous") = some (.bool wide)) :
    UnrEndW g L s₁ [(I, oI)] (fun m' n' => SubL [(r, lo)] n' ∧ WI d L0 r fd o0 lo Mb wide cs (i + 1) m' n') { s₁ with heap := h9, toks := tk } := by
  have N2 : News g L h9 ((r, lo) :: (fd, PySem.W.listOf (fvs ++ [Value.int z t] ++ List.replicate (c.length - 1) (Value.int 0 t')).toArray k9) :: (L0, slo o0 sl) :: Mb) := fun p hp => by
    rcases List.mem_cons.mp hp with rfl | hp
    · exact N _ (.tail _ (.tail _ (.tail _ (.tail _ (.head _)))))
    rcases List.mem_cons.mp hp with rfl | hp
    · exact N _ (.head _)
    rcases List.mem_cons.mp hp with rfl | hp
    · exact N _ (.tail _ (.tail _ (.head _)))
    · exact N _ (.tail _ (.tail _ (.tail _ (.tail _ (.tail _ hp)))))
  refine ⟨h9, tk, m', _, rfl, F, news_cons.mpr ⟨N _ (.tail _ (.head _)), N2⟩, fun p hp q hq e => ?_, ⟨.head _, trivial⟩, _, _, sl, m1, m2, m3, .tail _ (.head _), .tail _ (.tail _ (.head _)), .head _, fun p hp => .tail _ (.tail _ (.tail _ hp)), ?_⟩
  · rw [List.mem_singleton.mp hq] at e
    rcases List.mem_cons.mp hp with rfl | hp
    · exact h3 e
    rcases List.mem_cons.mp hp with rfl | hp
    · exact h1 e
    rcases List.mem_cons.mp hp with rfl | hp
    · exact h2 e
    · exact h4 p hp e
  · rw [List.take_add_one, hc, Option.toList_some, List.flatMap_append, List.flatMap_singleton, List.append_assoc]
    refine hi.append ?_
    unfold rowF
    rw [hz]
    exact .cons _ _ (ints_zeros t' _)
theorem cwid_cc {w : World} {base : Heap} (G : Gr w base) (tl d : Addr) (vs : List Value) (xs : List Sg) (D : DS) (ms : Str → Option MS) (sem : Str → Int → DV) (n : Nat) (wide : Bool) (hlen : vs.length ≤ 9) (hok : ∀ x ∈ xs, SgOk sem x) (htab : ∀ x ∈ xs, x ∈ tab) (pos : List Value) (kw : List (Str × Value))
    (hargs : (pos = [.ref tl, .ref d] ∧ kw = [] ∧ wide = false) ∨ (pos = [.ref tl, .ref d] ∧ kw = [(Str.ofString "is_wide_ambiguous", .bool true)] ∧ wide = true)) (env0 : Env) (L0 : Addr) (o0 : Obj) (h0b : base.get? L0 = none) (hoff : ∀ b, Sup D ms d b → b ≠ L0) (htl : tl ≠ L0)
    (dp un : Nat) (gd : Option (List Code)) (s : Shared) (Q E : Value → Shared → Prop) (hdp : dp + 12 < recursionLimit) (hun : un + 8 * 12 < cLine) (hb : Kp base s.heap) (h0 : s.heap.get? L0 = some o0) (h0d : ∃ es n, o0.data = .dict es n) (hff : s.heap.FunFrames base [env0]) (hf0 : env0.frame = some L0)
    (hp : s.heap.IsList tl vs.toArray ∧ IntsAre vs (xs.map Sg.c) ∧ DatM w s.heap d D ms sem n)
    (hret : ∀ fd fvs k h' tk', (∀ b o, b ≠ L0 → s.heap.get? b = some o → h'.get? b = some o) → (∃ sl, h'.get? L0 = some (slo o0 sl)) → h'.get? fd = some (PySem.W.listOf fvs.toArray k) → s.heap.get? fd = none → IntsAre fvs ((clustersF xs).flatMap (rowF (widthF wide))) → Q (.ref fd) { s with heap := h', toks := tk' }) :
    wpAny (model pw w) (Ar dp un (some [env0]) gd) (call (.ref 190) pos kw) Q E s := by
  have G' := G
  obtain ⟨X, p, loose, mean, mg, mb, T⟩ := G
  obtain ⟨hl, hi, hD⟩ := hp
  w_on
  k_dflt (refine enterW (binds := [(Str.ofString "text", .ref tl), (Str.ofString "data", .ref d), (Str.ofString "is_wide_ambiguous", .bool wide)]) [(L0, o0)] X T hb (fun q hq => by rw [List.mem_singleton.mp hq]; exact ⟨h0, h0b⟩) (by k_is) (by k_is) (by show dp < recursionLimit; omega) (by rcases hargs with ⟨rfl, rfl, rfl⟩ | ⟨rfl, rfl, rfl⟩ <;> exact binds_K (X.keeps hb) rfl (by k_is) rfl rfl rfl) (locs rfl) (fun E9 Q9 g L h₁ g9s d9r t9k o9s hQ9 hE9 hP9 hA9 hB hG X' T' F' N' hL => ?_))
  try dsimp only
  have hk : ∀ b o, b ≠ L0 → s.heap.get? b = some o → g.get? b = some o := fun b o hb e => hG b o e (by simpa using hb)
  have P : DatM w g d D ms sem n := hD.agree fun b o hb e => hk b o (hoff b hb) e
  have hl' : g.IsList tl vs.toArray := hl.at fun o e => hk _ _ htl e
  have Gg : Gr w g := ⟨X', p, loose, mean, mg, mb, T'⟩
  k_unmd
  try k_fold
  k_with "call ref" => ((with_reducible show wpAny _ _ (PySem.call (Value.ref 154) _ _) _ _ _); (refine' use_newll (clusters_cc G' tl d vs xs D ms sem n hlen hok) hB ?kF ?kN ?kp ?kd ?ku ?_); (case kF => k_asm); (case kN => k_asm); (case kp => exact ⟨hl'.at fun o e => Fr.keep (by k_asm) _ _ e, hi, P.keep (Fr.keep (by k_asm))⟩); (case kd => k_dflt (exact lim1 hdp rfl)); (case ku => k_dflt (exact lim3 hun rfl)); intro r9 n9 rs9 h9 tk9 hR9 F9 N9 ne9; (try dsimp only [List.cons_append, List.nil_append] at N9); k_sweep)
  k_with "exec For Name Name cons nil" => ((rename Fr _ _ _ _ => lF'); (with_reducible refine For_turns lF' ?_ ?hs ?hE); (case hs => (intro x; k_dflt rfl)); (case hE => k_dflt passes_own))
  k_with "exec For Name Call cons nil" => ((rename Fr _ _ _ _ => lF'); (with_reducible refine For_turns lF' ?_ ?hs ?hE); (case hs => (intro x; k_dflt rfl)); (case hE => k_dflt passes_own))
  k_with "pyIter ref" => ((rename Fr _ _ _ _ => lF'); (rename News _ _ _ _ => lN'); k_dflt (refine' iter_listTurns (lo := PySem.W.listOf (rs9.map fun p => Value.ref p.1).toArray n9) (vs := rs9.map fun p => Value.ref p.1) rfl lF' lN' (by k_mem) rfl rfl ?_); (clear lF'); intro i' l1)
  k_with "ItemsRest" => (refine Hold.out ?_)
  k_steps
  all_goals (try ((with_reducible refine hQ9 _ _ _ ?_); (try dsimp only)))
  rename_i fd _ hfl _
  have hcs : clustersF xs = clustersL xs := clusters_eq xs htab
  have hrl := paired_len hR9
  rw [List.length_map] at hrl
  have hfn := ne9 _ (.head _)
  have h0n := ne9 _ (.tail _ (.head _))
  have hxs9 : xs.length ≤ 9 := by have := hi.length; rw [List.length_map] at this; omega
  have hiall := l1
  refine items_inv (WI d L0 r9 fd o0 (PySem.W.listOf (rs9.map fun p => Value.ref p.1).toArray n9) (rs9.map LLent) wide (clustersF xs)) ?_ ?_ ⟨0, [], o0.slots, rfl, rfl, rfl, .head _, .tail _ (.head _), .tail _ (.tail _ (.head _)), fun p hp => .tail _ (.tail _ (.tail _ hp)), .nil⟩
  · rintro i v m nw h tk oI hv ⟨k, fvs, sl, I⟩ hc F N
    obtain ⟨q, hq, rfl⟩ : ∃ q, rs9[i]? = some q ∧ v = .ref q.1 := by
      rw [List.getElem?_map] at hv
      obtain ⟨q, hq, e⟩ := Option.map_eq_some_iff.mp hv
      exact ⟨q, hq, e.symm⟩
    have hqm := List.mem_of_getElem? hq
    have hi9 := (List.getElem?_eq_some_iff.mp hq).1
    obtain ⟨c, hcg⟩ : ∃ c, (clustersF xs)[i]? = some c := ⟨_, List.getElem?_eq_getElem (by omega)⟩
    have hci : IntsAre q.2 (c.map Sg.c) := paired_get hR9 (by rw [List.getElem?_map, hq]; rfl) hcg
    have hcm : c ∈ clustersL xs := by rw [← hcs]; exact List.mem_of_getElem? hcg
    have hcne := clustersL_ne xs c hcm
    have hcl := clustersL_len hcm
    have hql : q.2.length = c.length := by have := hci.length; rw [List.length_map] at this; exact this
    have hokc : ∀ x ∈ c, SgOk sem x := fun x hx => hok x (clustersL_mem hcm hx)
    have hc0 : 0 < c.length := List.length_pos_iff.mpr hcne
    have hfl9 : fvs.length ≤ 9 := by
      have h1 := I.hi.length
      rw [h1, flat_rows _ _ fun z hz => clustersL_ne xs z (by rw [← hcs]; exact List.mem_of_mem_take hz)]
      have h2 : ((clustersF xs).take i).flatten.length ≤ (clustersF xs).flatten.length := by
        conv => rhs; rw [← List.take_append_drop i (clustersF xs), List.flatten_append, List.length_append]
        omega
      rw [hcs, clustersL_flat] at h2
      rw [hcs]; omega
    replace F := Fr.pin [(Str.ofString "found", .ref fd), (Str.ofString "data", .ref d), (Str.ofString "is_wide_ambiguous", .bool wide)] F (fun p hp => by
      rcases List.mem_cons.mp hp with rfl | hp
      · exact I.m1
      rcases List.mem_cons.mp hp with rfl | hp
      · exact I.m2
      · rw [List.mem_singleton.mp hp]; exact I.m3)
    have hle : LLent q ∈ rs9.map LLent := List.mem_map_of_mem hqm
    have N2 : News g L h ((fd, PySem.W.listOf fvs.toArray k) :: (i', oI) :: (L0, slo o0 sl) :: (q.1, PySem.W.listOf q.2.toArray 0) :: (r9, PySem.W.listOf (rs9.map fun p => Value.ref p.1).toArray n9) :: rs9.map LLent) := fun p hp => by
      rcases List.mem_cons.mp hp with rfl | hp
      · exact N _ (.tail _ I.n1)
      rcases List.mem_cons.mp hp with rfl | hp
      · exact N _ (.head _)
      rcases List.mem_cons.mp hp with rfl | hp
      · exact N _ (.tail _ I.n2)
      rcases List.mem_cons.mp hp with rfl | hp
      · exact N _ (.tail _ (I.n4 _ hle))
      rcases List.mem_cons.mp hp with rfl | hp
      · exact N _ (.tail _ I.n3)
      · exact N _ (.tail _ (I.n4 _ hp))
    have hnb : g.get? q.1 = none := (N2 _ (.tail _ (.tail _ (.tail _ (.head _))))).2.2
    have hoffc : ∀ b, Sup D ms d b → b ≠ q.1 := fun b hb e => by
      obtain ⟨o, ho⟩ := P.sup_some hb
      rw [e, hnb] at ho; cases ho
    have kne : ∀ sl', ∀ p ∈ (i', oI) :: (L0, slo o0 sl') :: (q.1, PySem.W.listOf q.2.toArray 0) :: (r9, PySem.W.listOf (rs9.map fun p => Value.ref p.1).toArray n9) :: rs9.map LLent, p.1 ≠ fd := fun sl' p hp => by
      rcases List.mem_cons.mp hp with rfl | hp
      · exact Nat.ne_of_gt (hiall _ (.head _))
      rcases List.mem_cons.mp hp with rfl | hp
      · exact Nat.ne_of_lt hfl
      rcases List.mem_cons.mp hp with rfl | hp
      · exact Ne.symm (hfn.2 q hqm)
      rcases List.mem_cons.mp hp with rfl | hp
      · exact Ne.symm hfn.1
      · obtain ⟨z, hz, rfl⟩ := List.mem_map.mp hp
        exact Ne.symm (hfn.2 z hz)
    clear N
    cases hrf : c.any refused with
    | false =>
      k_with "call ref" => ((with_reducible show wpAny _ _ (PySem.call (Value.ref 182) _ _) _ _ _); (refine' use_pure (ccols_cc Gg q.1 d q.2 c D ms sem n wide (by omega) hokc hcne hrf hnb hoffc) (Kp.refl g) ?kF ?kN ?kp ?kd ?ku ?_); (case kF => k_asm); (case kN => k_asm); (case kp => exact ⟨News.get (by k_asm) (by k_mem), hci, P.keep (Fr.keep (by k_asm))⟩); (case kd => k_dflt (exact lim1 hdp rfl)); (case ku => k_dflt (exact lim3 hun rfl)); intro v9 h9 tk9 hR9 hk9 F9 N9; (obtain ⟨t9, e9⟩ := hR9); subst e9; k_sweep)
      k_with "call builtin:len" => ((with_reducible show wpAny _ _ (call (Value.builtin "len") [Value.ref _]) _ _ _); (refine' len_any (vs := q.2) ?l ?l0 ?_); (case l0 => omega); (case l => exact ⟨PySem.W.listOf q.2.toArray 0, News.get (by k_asm) (by k_mem), rfl, _, rfl⟩); intro t9 tk9; (try dsimp only))
      k_with "call builtin:list.append" => ((try dsimp only [List.cons_append, List.nil_append]); (refine' use_appendK (a := fd) (vs := fvs) (k := k) (keep := (i', oI) :: (L0, slo o0 sl) :: (q.1, PySem.W.listOf q.2.toArray 0) :: (r9, PySem.W.listOf (rs9.map fun p => Value.ref p.1).toArray n9) :: rs9.map LLent) ?z1 ?z2 ?z3 ?z4 (by omega) ?_); (case z1 => k_asm); (case z2 => k_asm); (case z3 => k_mem); (case z4 => exact fun p hp => ⟨by repeat (first | exact hp | apply List.Mem.tail), kne _ p hp⟩); intro h9 F9 N9; (try dsimp only); k_sweep)
      k_with "binaryOp Mult ref int" => (k_here; k_dflt (refine' mul_one (j := c.length - 1) ?z1 ?z2 ?z3 ?z4 ?z5 ?z6 ?_; (case z1 => k_asm); (case z2 => k_asm); (case z3 => is_list); (case z4 => omega); (case z5 => omega); (case z6 => omega)); intro D' h' F' N' l1; (try k_lt l1); (try k_sweep))
      k_with "call builtin:list.extend" => ((try dsimp only [List.cons_append, List.nil_append]); (refine' use_extendK (a := fd) (keep := (i', oI) :: (L0, slo o0 sl) :: (q.1, PySem.W.listOf q.2.toArray 0) :: (r9, PySem.W.listOf (rs9.map fun p => Value.ref p.1).toArray n9) :: rs9.map LLent) ?z1 ?z2 ?z3 ?z4 ?z5 ?z6 ?_; (case z1 => k_asm); (case z2 => k_asm); (case z3 => k_mem); (case z4 => k_mem); (case z5 => exact fun p hp => ⟨by repeat (first | exact hp | apply List.Mem.tail), kne _ p hp⟩); (case z6 => (simp only [List.length_append, List.length_singleton, List.length_replicate]; omega))); intro h9 k9 F9 N9; (try dsimp only); k_sweep)
      try dsimp only
      k_steps
      all_goals (try ((with_reducible refine hQ9 _ _ _ ?_); (try dsimp only)))
      exact w_end F9 N9 I.hi hcg rfl (Nat.ne_of_lt (hiall _ (.head _))) (Nat.ne_of_lt (hiall _ (.tail _ (.head _)))) (Nat.ne_of_lt (hiall _ (.tail _ (.tail _ (.head _))))) (fun p hp => Nat.ne_of_lt (hiall _ (.tail _ (.tail _ (.tail _ hp))))) rfl rfl rfl
    | true =>
      k_with "call ref" => ((with_reducible show wpAny _ _ (PySem.call (Value.ref 182) _ _) _ _ _); refine Hold.out ?_)
      try dsimp only
      k_steps
      all_goals (try ((with_reducible refine hQ9 _ _ _ ?_); (try dsimp only)))
      rename Fr _ _ _ _ => F8
      rename News _ _ _ _ => N8
      have z0 := N8 (L0, slo o0 sl) (by k_mem)
      refine ccolsx_cc Gg q.1 d q.2 c D ms sem n wide (by omega) hokc hrf hnb hoffc (dp + 1) (un + 3) [_, env0] gd _ _ _ ?hd1 ?hd2 ?hkB ?hP ?hfr ?hend
      case hd1 => omega
      case hd2 => omega
      case hkB => exact F8.keep
      case hP => exact ⟨(N8 (q.1, PySem.W.listOf q.2.toArray 0) (by k_mem)).1, hci, P.keep F8.keep⟩
      case hfr => exact .cons (by show ScopeKind.function ≠ .module; decide) rfl F8.ns (kts_self F8) ⟨hff.1, ⟨L0, _, hf0, z0.2.2, z0.1, fun vs e => by obtain ⟨es, n, e'⟩ := h0d; have e2 : o0.data = _ := e; rw [e'] at e2; cases e2⟩, trivial⟩
      case hend =>
        intro e9 h9 tk9 hT
        show wpAny _ _ (noteFrame _ _) _ _ _
        refine caught_bad rfl F8 hT X' (topRead_of T') (by k_is) (fun b hb => by
          have hb' : b ∈ [L0] := by simpa [hf0] using hb
          rw [List.mem_singleton.mp hb']; exact z0.2.2) fun h' F' kp us => ?_
        obtain ⟨sl', hsl⟩ := us L0 _ z0.1 (fun vs e => by obtain ⟨es, n, e'⟩ := h0d; have e2 : o0.data = _ := e; rw [e'] at e2; cases e2)
        have N' : News g L h' ((fd, PySem.W.listOf fvs.toArray k) :: (i', oI) :: (L0, slo o0 sl') :: (q.1, PySem.W.listOf q.2.toArray 0) :: (r9, PySem.W.listOf (rs9.map fun p => Value.ref p.1).toArray n9) :: rs9.map LLent) := by
          have kk : ∀ p, p ∈ (fd, PySem.W.listOf fvs.toArray k) :: (i', oI) :: (L0, slo o0 sl) :: (q.1, PySem.W.listOf q.2.toArray 0) :: (r9, PySem.W.listOf (rs9.map fun p => Value.ref p.1).toArray n9) :: rs9.map LLent → p.1 ≠ L0 → h'.get? p.1 = some p.2 ∧ p.1 ≠ L ∧ g.get? p.1 = none := fun p hp hne => ⟨kp _ _ (N8 p hp).1 (fun hm => by
            rcases kts_mem hm with z | z
            · exact (N8 p hp).2.1 z
            · have z' : p.1 ∈ [L0] := by simpa [hf0] using z
              exact hne (List.mem_singleton.mp z')), (N8 p hp).2⟩
          intro p hp
          rcases List.mem_cons.mp hp with rfl | hp
          · exact kk _ (.head _) (Nat.ne_of_gt hfl)
          rcases List.mem_cons.mp hp with rfl | hp
          · exact kk _ (.tail _ (.head _)) (Nat.ne_of_gt (hiall _ (.tail _ (.head _))))
          rcases List.mem_cons.mp hp with rfl | hp
          · exact ⟨hsl, z0.2⟩
          rcases List.mem_cons.mp hp with rfl | hp
          · exact kk _ (.tail _ (.tail _ (.tail _ (.head _)))) (Ne.symm (h0n.2 q hqm))
          rcases List.mem_cons.mp hp with rfl | hp
          · exact kk _ (.tail _ (.tail _ (.tail _ (.tail _ (.head _))))) (Ne.symm h0n.1)
          · refine kk p (.tail _ (.tail _ (.tail _ (.tail _ (.tail _ hp))))) ?_
            obtain ⟨z, hz, rfl⟩ := List.mem_map.mp hp
            exact Ne.symm (h0n.2 z hz)
        clear N8 F8
        k_with "call builtin:len" => ((with_reducible show wpAny _ _ (call (Value.builtin "len") [Value.ref _]) _ _ _); (refine' len_any (vs := q.2) ?l ?l0 ?_); (case l0 => omega); (case l => exact ⟨PySem.W.listOf q.2.toArray 0, News.get (by k_asm) (by k_mem), rfl, _, rfl⟩); intro t9 tk9; (try dsimp only))
        k_with "call builtin:list.append" => ((try dsimp only [List.cons_append, List.nil_append]); (refine' use_appendK (a := fd) (vs := fvs) (k := k) (keep := (i', oI) :: (L0, slo o0 sl') :: (q.1, PySem.W.listOf q.2.toArray 0) :: (r9, PySem.W.listOf (rs9.map fun p => Value.ref p.1).toArray n9) :: rs9.map LLent) ?z1 ?z2 ?z3 ?z4 (by omega) ?_); (case z1 => k_asm); (case z2 => k_asm); (case z3 => k_mem); (case z4 => exact fun p hp => ⟨by repeat (first | exact hp | apply List.Mem.tail), kne _ p hp⟩); intro h9 F9 N9; (try dsimp only); k_sweep)
        k_with "binaryOp Mult ref int" => (k_here; k_dflt (refine' mul_one (j := c.length - 1) ?z1 ?z2 ?z3 ?z4 ?z5 ?z6 ?_; (case z1 => k_asm); (case z2 => k_asm); (case z3 => is_list); (case z4 => omega); (case z5 => omega); (case z6 => omega)); intro D' h' F' N' l1; (try k_lt l1); (try k_sweep))
        k_with "call builtin:list.extend" => ((try dsimp only [List.cons_append, List.nil_append]); (refine' use_extendK (a := fd) (keep := (i', oI) :: (L0, slo o0 sl') :: (q.1, PySem.W.listOf q.2.toArray 0) :: (r9, PySem.W.listOf (rs9.map fun p => Value.ref p.1).toArray n9) :: rs9.map LLent) ?z1 ?z2 ?z3 ?z4 ?z5 ?z6 ?_; (case z1 => k_asm); (case z2 => k_asm); (case z3 => k_mem); (case z4 => k_mem); (case z5 => exact fun p hp => ⟨by repeat (first | exact hp | apply List.Mem.tail), kne _ p hp⟩); (case z6 => (simp only [List.length_append, List.length_singleton, List.length_replicate]; omega))); intro h9 k9 F9 N9; (try dsimp only); k_sweep)
        try dsimp only
        k_steps
        all_goals (try ((with_reducible refine hQ9 _ _ _ ?_); (try dsimp only)))
        exact w_end F9 N9 I.hi hcg (by rw [widthF, hrf]; rfl) (Nat.ne_of_lt (hiall _ (.head _))) (Nat.ne_of_lt (hiall _ (.tail _ (.head _)))) (Nat.ne_of_lt (hiall _ (.tail _ (.tail _ (.head _))))) (fun p hp => Nat.ne_of_lt (hiall _ (.tail _ (.tail _ (.tail _ hp))))) rfl rfl rfl
  · rintro m nw h tk ⟨k, fvs, sl, I⟩ F N
    replace F := Fr.pin [(Str.ofString "found", .ref fd)] F (fun p hp => by rw [List.mem_singleton.mp hp]; exact I.m1)
    replace F : Fr g L h _ := F
    have N : News g L h nw := N
    have a1 := N _ I.n1
    have a2 := N _ I.n2
    have a3 := I.hi
    rw [List.length_map, hrl, List.take_length] at a3
    clear I
    try dsimp only
    k_steps
    all_goals (try ((with_reducible refine hQ9 _ _ _ ?_); (try dsimp only)))
    all_goals (try dsimp only)
    all_goals (exact hret fd fvs k _ _ (fun b o hb e => F.keep b o (hk b o hb e)) ⟨sl, a2.1⟩ a1.1 (none_eq fun o e => by
      have := hk fd o (Nat.ne_of_gt hfl) e
      rw [a1.2.2] at this; cases this) a3)
end Mine

end

section
open PySem PySem.W PyProof.Rows PySem.Calls PyProof.Rows.LCg
namespace Mine
set_option maxRecDepth 100000
set_option maxHeartbeats 0
theorem fillY1 : PySem.Challenge.rw_pb0596_01.foot = 6 ∧ K9 = K9 := by
  k_with_none
  k_with "my ne" => (first | (with_reducible first | assumption | exact Ne.symm (by assumption) | exact Mine.nr1 (by assumption) | exact Mine.ns1 (by assumption) | exact Mine.nt1 (by assumption) | exact Mine.nu1 (by assumption) | exact Mine.nr2 (by assumption) | exact Mine.ns2 (by assumption) | exact Mine.nt2 (by assumption) | exact Mine.nu2 (by assumption) | exact Mine.nr3 (by assumption) | exact Mine.ns3 (by assumption) | exact Mine.nt3 (by assumption) | exact Mine.nu3 (by assumption) | exact Mine.nr4 (by assumption) | exact Mine.ns4 (by assumption) | exact Mine.nt4 (by assumption) | exact Mine.nu4 (by assumption) | exact Mine.nr5 (by assumption) | exact Mine.ns5 (by assumption) | exact Mine.nt5 (by assumption) | exact Mine.nu5 (by assumption) | exact Mine.nr6 (by assumption) | exact Mine.ns6 (by assumption) | exact Mine.nt6 (by assumption) | exact Mine.nu6 (by assumption) | exact Mine.nr7 (by assumption) | exact Mine.ns7 (by assumption) | exact Mine.nt7 (by assumption) | exact Mine.nu7 (by assumption) | exact Mine.nr8 (by assumption) | exact Mine.ns8 (by assumption) | exact Mine.nt8 (by assumption) | exact Mine.nu8 (by assumption) | exact Mine.nr9 (by assumption) | exact Mine.ns9 (by assumption) | exact Mine.nr10 (by assumption) | exact Mine.ns10 (by assumption) | exact Mine.nr11 (by assumption) | exact Mine.ns11 (by assumption) | exact Mine.nr12 (by assumption) | exact Mine.ns12 (by assumption) | exact Mine.nw1 (by assumption) | exact Mine.nw2 (by assumption) | exact Mine.nw3 (by assumption) | exact Mine.nw4 (by assumption) | exact Mine.nw5 (by assumption) | exact Mine.nw6 (by assumption) | exact Mine.nk1 (by assumption) | exact Mine.nk2 (by assumption) | exact Mine.nk3 (by assumption) | exact Mine.nk4 (by assumption)) | fail "no")
  k_with "my om" => (first | ((with_reducible show @Eq Int _ _); with_reducible first | assumption | exact Eq.symm (by assumption) | exact Int.toNat_of_nonneg (by assumption)) | fail "no")
  k_with "my om" => (first | ((with_reducible show And (@LE.le Int _ _ _) _); with_reducible first | assumption | (refine Mine.i2 (by assumption) ?_; omega) | (refine Mine.i2' (by assumption) ?_; omega)) | fail "no")
  k_with "my om" => (first | ((with_reducible show @LT.lt Int _ _ _); first | (with_reducible first | assumption | exact Mine.i1' (by assumption) | exact Int.ofNat_lt.mpr (by assumption) | exact And.left (by assumption) | exact And.right (by assumption) | exact Int.lt_of_not_le (by assumption)) | decide +kernel) | fail "no")
  k_with "my om" => (first | ((with_reducible show @LE.le Int _ _ _); first | (with_reducible first | assumption | exact Int.natCast_nonneg _ | exact Int.le_refl _ | exact Mine.i1 _ | exact Int.ofNat_le.mpr (by assumption) | exact Mine.i6 (by assumption) (by assumption) | (refine Mine.i7 ?_; omega) | exact And.left (by assumption) | exact And.right (by assumption) | exact Int.le_of_not_lt (by assumption) | exact Int.le_of_lt (by assumption)) | decide +kernel) | fail "no")
  k_with "my om" => (first | ((with_reducible show @Eq Nat _ _); with_reducible first | assumption | exact Eq.symm (by assumption) | exact Mine.i5 (by assumption) | exact Mine.i4 _ | exact Mine.i3 _ | exact Eq.symm (Mine.i4 _) | exact Nat.add_sub_cancel_left .. | exact Nat.min_eq_left (by assumption) | exact Eq.trans (by assumption) (by assumption) | exact Eq.trans (Eq.symm (by assumption)) (by assumption) | exact Eq.trans (by assumption) (Eq.symm (by assumption))) | fail "no")
  k_with "my om" => (first | ((with_reducible show @LT.lt Nat _ _ _); with_reducible first | assumption | exact Mine.np (by assumption) | exact Mine.nq (by assumption) rfl | exact Mine.nv (by assumption) rfl | exact Mine.ia (by assumption) (by assumption) | exact Mine.ib (by assumption) (by assumption) | exact Nat.lt_of_lt_of_le (by assumption) (by assumption) | exact Nat.succ_lt_succ (by assumption) | exact And.left (by assumption) | exact And.right (by assumption) | exact Nat.lt_of_not_le (by assumption) | exact Mine.ia (Mine.ia (by assumption) (by assumption)) (by assumption) | exact Mine.ib (Mine.ia (by assumption) (by assumption)) (by assumption) | exact Mine.ia (Mine.ib (by assumption) (by assumption)) (by assumption) | exact Mine.ib (Mine.ib (by assumption) (by assumption)) (by assumption)) | fail "no")
  k_with "my om" => (first | ((with_reducible show @LE.le Nat _ _ _); first | (with_reducible first | assumption | exact Mine.nc (by assumption) rfl | exact Nat.le_refl _ | exact Mine.nl (by assumption) (by assumption) | exact Mine.nm (by assumption) (by assumption) | exact Mine.nn (by assumption) (by assumption) | exact Mine.nn (by assumption) (Mine.nc (by assumption) rfl) | exact Mine.nl (by assumption) (Mine.nc (by assumption) rfl) | exact Mine.nm (by assumption) (Mine.nc (by assumption) rfl) | exact Mine.nl (by assumption) (Mine.nl (by assumption) (Mine.nc (by assumption) rfl)) | exact Mine.nl (by assumption) (Mine.nn (by assumption) (Mine.nc (by assumption) rfl)) | exact Mine.nm (by assumption) (Mine.nn (by assumption) (Mine.nc (by assumption) rfl)) | exact Mine.nl (by assumption) (Mine.nm (by assumption) (Mine.nc (by assumption) rfl)) | exact Mine.nm (by assumption) (Mine.nl (by assumption) (Mine.nc (by assumption) rfl)) | exact Mine.nm (by assumption) (Mine.nm (by assumption) (Mine.nc (by assumption) rfl)) | exact Nat.le_add_right _ _ | exact Nat.succ_le_succ (by assumption) | exact Nat.le_of_eq (by assumption) | exact Nat.le_of_eq (Eq.symm (by assumption)) | exact Nat.le_succ_of_le (by assumption) | exact Nat.le_of_not_lt (by assumption) | exact Int.toNat_le_toNat (by assumption) | exact Mine.ig (by assumption) (by assumption) rfl | exact Mine.ih (by assumption) (by assumption) rfl | exact And.left (by assumption) | exact And.right (by assumption) | (refine Mine.ie ?_ (by assumption); omega) | (refine Mine.ie' ?_ (by assumption); omega) | (refine Mine.id1 ?_; omega) | (refine Mine.ij ?_; omega) | (refine Mine.ic (by assumption) rfl ?_; omega)) | exact Mine.nz rfl) | fail "no")
  k_with "my own" => (first | assumption | exact Mine.PAt.of (by assumption) (PySem.SameStack.mark _ _) | exact Mine.PAt.of (by assumption) (PySem.SameStack.unmark _ _) | fail "no")
  k_fill
  k_with "my all" => (first | assumption | fail "no")
  exact ⟨rfl, rfl⟩
noncomputable def pick (c : Int) : Sg := tab.getD (c.fmod 23).toNat sgD
theorem pick_tab (c : Int) : pick c ∈ tab := by
  unfold pick
  have h0 : 0 ≤ c.fmod 23 := Int.fmod_nonneg_of_pos c (by decide)
  have h1 : c.fmod 23 < 23 := Int.fmod_lt_of_pos c (by decide)
  have h2 : (c.fmod 23).toNat < tab.length := by show _ < 23; omega
  rw [List.getD_eq_getElem?_getD, List.getElem?_eq_getElem h2]
  exact List.getElem_mem h2
theorem pick_get {c : Int} {x : Sg} (h : tab[(c.fmod 23).toNat]? = some x) : x = pick c := by
  unfold pick
  rw [List.getD_eq_getElem?_getD, h]; rfl
theorem sg_tail {s g h h' : Heap} {L : Addr} {m : Str → Option Value} (F : Fr g L h m) (k : Kp h h') : ∀ {vs : List Value} {xs : List Sg}, Paired (fun v x => SgAt h' v x ∧ ∃ t, v = .ref t ∧ h.get? t = none) vs xs → ∃ T, News g L h' T ∧ (∀ p ∈ T, h.get? p.1 = none) ∧ ∀ h2, News g L h2 T → Paired (SgAt h2) vs xs
  | _, _, .nil => ⟨[], News.nil, (fun _ h => nomatch h), fun _ _ => .nil⟩
  | _, _, .cons hv hr => by
    obtain ⟨T, N, H0, H⟩ := sg_tail (s := s) F k hr
    obtain ⟨⟨t, tc, t1, t2, t3, rfl, o, ho, hc, n, hd⟩, t', e, hn⟩ := hv
    cases e
    have hL : t ≠ L := fun q => by
      subst q
      obtain ⟨o2, _, _, e', _⟩ := F.ns
      rw [hn] at e'; cases e'
    refine ⟨(t, o) :: T, news_cons.mpr ⟨⟨ho, hL, none_g F hn⟩, N⟩, (fun p hp => by
      rcases List.mem_cons.mp hp with rfl | hp
      · exact hn
      · exact H0 p hp), fun h2 N2 => .cons ⟨t, tc, t1, t2, t3, rfl, o, (N2 _ (.head _)).1, hc, n, hd⟩ (H h2 (news_cons.mp N2).2)⟩
theorem len_k {prog : Program} {w : World} {A : Around} {E : Value → Shared → Prop} {s : Shared} {l : Addr} {vs : List Value} {n : Int} {Q : Value → Shared → Prop} (hl : s.heap.IsList l vs.toArray) (hz : vs.length ≤ 1000) (hn : (vs.length : Int) = n)
    (h : ∀ t tk, Q (.int n t) { s with toks := tk }) : wpAny (model prog w) A (call (.builtin "len") [.ref l]) Q E s := len_any hl hz fun t tk => by rw [hn]; exact h t tk
theorem dat_tail {w : World} {g h h' : Heap} {L : Addr} {m : Str → Option Value} {d : Addr} {D : DS} {ms : Str → Option MS} {sem : Str → Int → DV} {n : Nat} (F : Fr g L h m) (P : DatM w h' d D ms sem n) (hn : ∀ b, Sup D ms d b → h.get? b = none) :
    ∃ U, News g L h' U ∧ (∀ p ∈ U, h.get? p.1 = none) ∧ ∀ h2, News g L h2 U → DatM w h2 d D ms sem n := by
  refine ⟨snap (Sup D ms d) h', fun p hp => ?_, fun p hp => ?_, fun h2 N2 => P.agree fun b o hb e => snap_keep N2 (fun p hp => hp) b o hb e⟩
  · obtain ⟨b, o⟩ := p
    obtain ⟨hb, e⟩ := mem_snap.mp hp
    refine ⟨e, fun q => ?_, none_g F (hn b hb)⟩
    have q : b = L := q
    subst q
    obtain ⟨o2, _, _, e', _⟩ := F.ns
    rw [hn _ hb] at e'; cases e'
  · obtain ⟨b, o⟩ := p
    exact hn b (mem_snap.mp hp).1
theorem sg0 {prog : Program} {w : World} {A : Around} {E : Value → Shared → Prop} {s : Shared} {value slice : PySem.Expr} {Q : Value → Shared → Prop} {t : Addr} {u : Tok} {x : Sg} (H : SgAt s.heap (.ref t) x) (h : ∀ u, Q (.int x.c u) s)
    (hs : subscripted slice false (.ref t) (.int 0 u) = operate [.ref t, .int 0 u] (getItem (.ref t) (.int 0 u)) := by with_unfolding_all rfl) (hg : ∀ r, letTemporaryGo value (.ref t) r = pure () := by intro _; with_unfolding_all rfl) :
    wpAny (model prog w) A (subscriptTail value slice (.ref t) (.int 0 u)) Q E s := by
  obtain ⟨t', tc, t1, t2, t3, e, H⟩ := H
  cases e
  exact item_tuple H (by decide) (by decide) (j := 0) rfl rfl (h _) hs hg
theorem tab_ok : ∀ x ∈ tab, 0 ≤ x.c ∧ x.c < 1114111 ∧ 1 ≤ x.c ∧ (x.gcb = S "Other" → Nh x.c) := by unfold Nh; decide +kernel
theorem sg_one {g h : Heap} {L : Addr} {m : Str → Option Value} {v : Value} {x : Sg} (F : Fr g L h m) (H : SgAt h v x) : ∃ U, News g L h U ∧ ∀ h2, Kp g h2 → News g L h2 U → SgAt h2 v x := by
  obtain ⟨t, tc, t1, t2, t3, rfl, o, ho, hc, n, hd⟩ := H
  cases q : g.get? t with
  | some o' =>
    have e : o' = o := by have := F.keep t o' q; rw [ho] at this; exact (Option.some.inj this).symm
    subst e
    exact ⟨[], News.nil, fun h2 k _ => ⟨t, tc, t1, t2, t3, rfl, o', k _ _ q, hc, n, hd⟩⟩
  | none =>
    refine ⟨[(t, o)], news_cons.mpr ⟨⟨ho, fun e => ?_, q⟩, News.nil⟩, fun h2 _ N2 => ⟨t, tc, t1, t2, t3, rfl, o, (N2 _ (.head _)).1, hc, n, hd⟩⟩
    have e : t = L := e
    subst e
    obtain ⟨o2, es, ep, e', hd', _⟩ := F.ns
    rw [ho] at e'; cases e'
    rw [hd] at hd'; cases hd'
theorem news_two_app {g h : Heap} {L : Addr} {a b : List (Addr × Obj)} (N : News g L h a) (M : News g L h b) : News g L h (a ++ b) := fun p hp => (List.mem_append.mp hp).elim (N p) (M p)
theorem sgs_any {g h : Heap} {L : Addr} {m : Str → Option Value} (F : Fr g L h m) : ∀ {vs : List Value} {xs : List Sg}, Paired (SgAt h) vs xs → ∃ U, News g L h U ∧ ∀ h2, Kp g h2 → News g L h2 U → Paired (SgAt h2) vs xs
  | _, _, .nil => ⟨[], News.nil, fun _ _ _ => .nil⟩
  | _, _, .cons hv hr => by
    obtain ⟨U, N, H⟩ := sg_one F hv
    obtain ⟨V, M, J⟩ := sgs_any F hr
    exact ⟨U ++ V, news_two_app N M, fun h2 k N2 => .cons (H h2 k fun p hp => N2 p (List.mem_append_left _ hp)) (J h2 k fun p hp => N2 p (List.mem_append_right _ hp))⟩
theorem cls_any {g h : Heap} {L : Addr} {m : Str → Option Value} (F : Fr g L h m) : ∀ {rs : List Ls} {cs : List (List Sg)}, Paired (fun r c => Paired (SgAt h) r.vs c ∧ c ≠ []) rs cs → ∃ U, News g L h U ∧ ∀ h2, Kp g h2 → News g L h2 U → Paired (fun r c => Paired (SgAt h2) r.vs c ∧ c ≠ []) rs cs
  | _, _, .nil => ⟨[], News.nil, fun _ _ _ => .nil⟩
  | _, _, .cons hv hr => by
    obtain ⟨U, N, H⟩ := sgs_any F hv.1
    obtain ⟨V, M, J⟩ := cls_any F hr
    exact ⟨U ++ V, news_two_app N M, fun h2 k N2 => .cons ⟨H h2 k fun p hp => N2 p (List.mem_append_left _ hp), hv.2⟩ (J h2 k fun p hp => N2 p (List.mem_append_right _ hp))⟩
structure LwInv (d Dt Dw fl : Addr) (lo : Obj) (txs : List Value) (cw : Nat) (T3 : List (Addr × Obj)) (wide : Bool) (cs : List (List Sg)) (i : Nat) (m : Str → Option Value) (news : List (Addr × Obj)) (du k : Nat) (dvs : List Value) : Prop where
  m1 : m (Str.ofString "due") = some (.ref du)
  m2 : m (Str.ofString "is_wide") = some (.bool wide)
  m3 : m (Str.ofString "text") = some (.ref Dt)
  m4 : m (Str.ofString "data") = some (.ref d)
  m5 : m (Str.ofString "was") = some (.ref Dw)
  n1 : (du, PySem.W.listOf dvs.toArray k) ∈ news
  n2 : (fl, lo) ∈ news
  n3 : (Dt, lst txs) ∈ news
  n4 : (Dw, PySem.W.listOf txs.toArray cw) ∈ news
  n5 : ∀ p ∈ T3, p ∈ news
  hi : IntsAre dvs ((cs.take i).flatMap (rowF (columnsL wide)))
noncomputable def LwI (d Dt Dw fl : Addr) (lo : Obj) (txs : List Value) (cw : Nat) (T3 : List (Addr × Obj)) (wide : Bool) (cs : List (List Sg)) (i : Nat) (m : Str → Option Value) (news : List (Addr × Obj)) : Prop := ∃ du k dvs, LwInv d Dt Dw fl lo txs cw T3 wide cs i m news du k dvs
theorem LwInv.pins {d Dt Dw fl : Addr} {lo : Obj} {txs : List Value} {cw : Nat} {T3 : List (Addr × Obj)} {wide : Bool} {cs : List (List Sg)} {i : Nat} {m : Str → Option Value} {news : List (Addr × Obj)} {du k : Nat} {dvs : List Value} (I : LwInv d Dt Dw fl lo txs cw T3 wide cs i m news du k dvs) :
    ∀ p ∈ [(Str.ofString "due", Value.ref du), (Str.ofString "is_wide", .bool wide), (Str.ofString "text", .ref Dt), (Str.ofString "data", .ref d), (Str.ofString "was", .ref Dw)], m p.1 = some p.2 := fun p hp => by
  rcases List.mem_cons.mp hp with rfl | hp
  · exact I.m1
  rcases List.mem_cons.mp hp with rfl | hp
  · exact I.m2
  rcases List.mem_cons.mp hp with rfl | hp
  · exact I.m3
  rcases List.mem_cons.mp hp with rfl | hp
  · exact I.m4
  · rw [List.mem_singleton.mp hp]; exact I.m5
theorem LwInv.news4 {g h : Heap} {L d Dt Dw fl : Addr} {lo : Obj} {txs : List Value} {cw : Nat} {T3 : List (Addr × Obj)} {wide : Bool} {cs : List (List Sg)} {i : Nat} {m : Str → Option Value} {news : List (Addr × Obj)} {du k : Nat} {dvs : List Value} (I : LwInv d Dt Dw fl lo txs cw T3 wide cs i m news du k dvs) (N : News g L h news) :
    News g L h ((du, PySem.W.listOf dvs.toArray k) :: (fl, lo) :: (Dt, lst txs) :: (Dw, PySem.W.listOf txs.toArray cw) :: T3) := fun p hp => by
  rcases List.mem_cons.mp hp with rfl | hp
  · exact N _ I.n1
  rcases List.mem_cons.mp hp with rfl | hp
  · exact N _ I.n2
  rcases List.mem_cons.mp hp with rfl | hp
  · exact N _ I.n3
  rcases List.mem_cons.mp hp with rfl | hp
  · exact N _ I.n4
  · exact N _ (I.n5 _ hp)
theorem lw_end {g h9 : Heap} {L I d Dt Dw fl du' : Addr} {oI lo : Obj} {txs dvs : List Value} {cw k' i tk : Nat} {T3 news : List (Addr × Obj)} {wide : Bool} {cs : List (List Sg)} {c : List Sg} {m' : Str → Option Value} {z : Int} {t t' : Tok} {s₁ : Shared}
    (F : Fr g L h9 m') (N : News g L h9 news) (hI : (I, oI) ∈ news) (e1 : (du', PySem.W.listOf (dvs ++ [Value.int z t] ++ List.replicate (c.length - 1) (Value.int 0 t')).toArray k') ∈ news) (e2 : (fl, lo) ∈ news) (e3 : (Dt, lst txs) ∈ news) (e4 : (Dw, PySem.W.listOf txs.toArray cw) ∈ news) (e5 : ∀ p ∈ T3, p ∈ news)
    (hi : IntsAre dvs ((cs.take i).flatMap (rowF (columnsL wide)))) (hc : cs[i]? = some c) (hz : columnsL wide c = z)
    (h1 : du' ≠ I) (h2 : fl ≠ I) (h3 : Dt ≠ I) (h4 : Dw ≠ I) (h5 : ∀ p ∈ T3, p.1 ≠ I) (m1 : m' (Str.ofString "due") = some (.ref du')) (m2 : m' (Str.ofString "is_wide") = some (.bool wide)) (m3 : m' (Str.ofString "text") = some (.ref Dt)) (m4 : m' (Str.ofString "data") = some (.ref d)) (m5 : m' (Str.ofString "was") = some (.ref Dw)) :
    UnrEndW g L s₁ [(I, oI)] (fun m' n' => SubL [(fl, lo)] n' ∧ LwI d Dt Dw fl lo txs cw T3 wide cs (i + 1) m' n') { s₁ with heap := h9, toks := tk } := by
  have N2 : News g L h9 ((fl, lo) :: (du', PySem.W.listOf (dvs ++ [Value.int z t] ++ List.replicate (c.length - 1) (Value.int 0 t')).toArray k') :: (Dt, lst txs) :: (Dw, PySem.W.listOf txs.toArray cw) :: T3) := fun p hp => by
    rcases List.mem_cons.mp hp with rfl | hp
    · exact N _ e2
    rcases List.mem_cons.mp hp with rfl | hp
    · exact N _ e1
    rcases List.mem_cons.mp hp with rfl | hp
    · exact N _ e3
    rcases List.mem_cons.mp hp with rfl | hp
    · exact N _ e4
    · exact N _ (e5 p hp)
  refine ⟨h9, tk, m', _, rfl, F, news_cons.mpr ⟨N _ hI, N2⟩, fun p hp q hq e => ?_, ⟨.head _, trivial⟩, _, _, _, m1, m2, m3, m4, m5, .tail _ (.head _), .head _, .tail _ (.tail _ (.head _)), .tail _ (.tail _ (.tail _ (.head _))), fun p hp => .tail _ (.tail _ (.tail _ (.tail _ hp))), ?_⟩
  · rw [List.mem_singleton.mp hq] at e
    rcases List.mem_cons.mp hp with rfl | hp
    · exact h2 e
    rcases List.mem_cons.mp hp with rfl | hp
    · exact h1 e
    rcases List.mem_cons.mp hp with rfl | hp
    · exact h3 e
    rcases List.mem_cons.mp hp with rfl | hp
    · exact h4 e
    · exact h5 p hp e
  · rw [List.take_add_one, hc, Option.toList_some, List.flatMap_append, List.flatMap_singleton, List.append_assoc]
    refine hi.append ?_
    unfold rowF
    rw [hz]
    exact .cons _ _ (ints_zeros t' _)
theorem eq_same {prog : Program} {w : World} {A : Around} {E : Value → Shared → Prop} {s : Shared} {a b : Addr} {vs us : List Value} {ns : List Int} {Q : Value → Shared → Prop} (h1 : IntsAre vs ns) (h2 : IntsAre us ns) (hl : s.heap.IsList a vs.toArray) (hb : s.heap.IsList b us.toArray) (hu : A.units < cLine) (h : Q (.bool true) s) :
    wpAny (model prog w) A (compareOp .Eq (.ref a) (.ref b)) Q E s := eq_nums (paired_ints h1) (paired_ints h2) hl hb hu (by rw [decide_eq_true rfl]; exact h)
noncomputable def TI (s : Shared) (g : Heap) (L du Dt Dw : Addr) (dvs txs : List Value) (k cw : Nat) (ns : List Int) (st : Shared) : Prop := ∃ h tk m fd fvs kf, st = { s with heap := h, toks := tk } ∧ Fr g L h m ∧ m (Str.ofString "told") = some (.ref fd) ∧ m (Str.ofString "due") = some (.ref du) ∧ m (Str.ofString "text") = some (.ref Dt) ∧ m (Str.ofString "was") = some (.ref Dw) ∧
  News g L h [(fd, PySem.W.listOf fvs.toArray kf), (du, PySem.W.listOf dvs.toArray k), (Dt, lst txs), (Dw, PySem.W.listOf txs.toArray cw)] ∧ IntsAre fvs ns
theorem law_cc {w : World} {base : Heap} (G : Gr w base) (sa : Addr) (svs : List Value) (zs : List Int) (dp un : Nat) (gd : Option (List Code)) (s : Shared) (Q E : Value → Shared → Prop) (hdp : dp + 20 < recursionLimit) (hun : un + 8 * 20 < cLine) (hb : Kp base s.heap)
    (hl : s.heap.IsList sa svs.toArray) (hi : IntsAre svs zs) (hlen : zs.length ≤ 63) (hret : ∀ h' tk', Kp s.heap h' → Q (.bool true) { s with heap := h', toks := tk' }) : wpAny (model pw w) (Ar dp un (some []) gd) (call (.ref 333) [.ref sa]) Q E s := by
  have G' := G
  obtain ⟨X, p, loose, mean, mg, mb, T⟩ := G
  w_on
  k_dflt (refine enterC (binds := [(Str.ofString "script", .ref sa)]) [] X T hb (fun _ h => nomatch h) (by k_is) (by k_is) (by show dp < recursionLimit; omega) (BindsTo.of_eq rfl) rfl (by decide +kernel) (fun E9 Q9 g L h₁ g9s d9r tk0 o9s cells hQ9 hE9 hP9 hA9 hB hG X' T' F' N' Y hL => ?_))
  k_cells Y
  try simp only [List.cons_append, List.nil_append] at N'
  try dsimp only
  have hk : Kp s.heap g := fun b o e => hG _ _ e (fun h => nomatch h)
  have hl' : g.IsList sa svs.toArray := hl.at fun o e => hk _ _ e
  have Gg : Gr w g := ⟨X', p, loose, mean, mg, mb, T'⟩
  have hsl : svs.length = zs.length := hi.length
  k_unmd
  try k_fold
  k_with "eval Constant str" => (dsimp only)
  k_with "newTuple" => (dsimp only)
  k_with "newList" => (dsimp only)
  k_with "CompSrcT" => (k_here; refine Hold.out ?_)
  k_with "CompSrc" => (k_here; refine Hold.out ?_)
  k_steps
  all_goals (try ((with_reducible refine hQ9 _ _ _ ?_); (try dsimp only)))
  rename_i oc d1 D1 ws h2 F2 N2 hws hC1 hL1 l1
  have hwsl : ws.length = (zs.take 10).length := hws.length
  have hz10 : (zs.take 10).length ≤ 10 := by rw [List.length_take]; omega
  refine CompSrc.ledger (its := ws.toArray) (k := 0) (by rfl) F2 N2 (.head _) (by rw [List.size_toArray, sizeLine_eq]; omega) (fun gh => comp_pure (fun i ys => IntsAre ys (((zs.take 10).take i).map fun z => z.fmod 1000003)) (.inr ⟨_, .head _, rfl, _, rfl⟩) (fun i ys v I oI C oC D' m₂ h tk E' hil hv hK hC hx F N => ?_) (fun cvs hKc => ?_) .nil)
  · obtain ⟨z, hz, tz, rfl⟩ : ∃ z, (zs.take 10)[i]? = some z ∧ ∃ t, v = .int z t := by
      have hv' : ws[i]? = some v := by simpa using hv
      have h1 := (List.getElem?_eq_some_iff.mp hv').1
      refine ⟨(zs.take 10)[i]'(by omega), List.getElem?_eq_getElem (by omega), ?_⟩
      obtain ⟨t, ht⟩ := hws.get i ((zs.take 10)[i]'(by omega)) (List.getElem?_eq_getElem (by omega))
      rw [ht] at hv'
      exact ⟨t, (Option.some.inj hv').symm⟩
    clear F2 N2
    k_steps
    all_goals (try ((with_reducible refine hQ9 _ _ _ ?_); (try dsimp only)))
    · exact ⟨_, _, rfl, by with_reducible assumption, by with_reducible assumption⟩
    · rw [List.take_add_one, hz, Option.toList_some, List.map_append]
      exact hK.append (.cons _ _ .nil)
  · intro Df h tk F N off
    try dsimp only
    clear F2 N2
    rw [List.size_toArray, hwsl, List.take_length] at hKc
    have hcl : cvs.length ≤ 10 := by have := hKc.length; rw [List.length_map] at this; omega
    obtain ⟨cs, ecs⟩ : ∃ cs, cs = List.map (fun z : Int => z.fmod 1000003) (List.take 10 zs) := ⟨_, rfl⟩
    rw [← ecs] at hKc
    have hcsl : cs.length = cvs.length := hKc.length.symm
    clear ecs
    k_with "call ref" => ((with_reducible show wpAny _ _ (PySem.call (Value.ref 302) _ _) _ _ _); (refine Hold.out ?_))
    k_steps
    all_goals (try ((with_reducible refine hQ9 _ _ _ ?_); (try dsimp only)))
    rename Fr _ _ _ _ => F8
    rename News _ _ _ _ => N8
    refine lsigns_cc Gg (dp + 1) (un + 3) _ gd _ _ _ ?hd1 ?hd2 ?hkB trivial ?hq
    case hd1 => omega
    case hd2 => omega
    case hkB => exact F8.keep
    case hq =>
      rintro v h9 tk9 ⟨hk9, sl, sgs, rfl, hsl9, hsn, hSg⟩
      obtain ⟨T, NT, HT0, HS⟩ := sg_tail (s := s.heap) F8 hk9 hSg
      have hsgl : (sgs.length : Int) = 23 := by rw [paired_len hSg]; rfl
      have hsgn : sgs.length = 23 := by rw [paired_len hSg]; rfl
      have hcT : ∀ p ∈ T, p.1 ≠ L + 1 := fun p hp q => by
        have z := HT0 p hp
        rw [q, (N8 (L + 1, oc) (.tail _ (.tail _ (.head _)))).1] at z; cases z
      have hslc : (@Ne Nat sl (L + 1)) := fun q => by
        rw [show sl = L + 1 from q, (N8 (L + 1, oc) (.tail _ (.tail _ (.head _)))).1] at hsn; cases hsn
      have hDfc : (@Ne Nat Df (L + 1)) := fun q => by
        have z1 := (N8 (L + 1, oc) (.tail _ (.tail _ (.head _)))).1
        have z2 := (N8 (Df, lst cvs) (.head _)).1
        rw [show Df = L + 1 from q] at z2
        have z3 : oc = lst cvs := Option.some.inj (z1.symm.trans z2)
        rw [z3] at d1
        cases d1
      have F9 := F8.keeps hk9
      have hslL : sl ≠ L := fun q => by
        subst q
        obtain ⟨o2, _, _, e', _⟩ := F8.ns
        rw [hsn] at e'; cases e'
      have NG := N8.grown hk9
      have N9 : News g L h9 ((sl, PySem.W.listOf sgs.toArray 0) :: (Df, lst cvs) :: (L + 1, oc) :: T) := news_cons.mpr ⟨⟨hsl9, hslL, none_g F8 hsn⟩, news_cons.mpr ⟨NG (Df, lst cvs) (.head _), news_cons.mpr ⟨NG (L + 1, oc) (.tail _ (.tail _ (.head _))), NT⟩⟩⟩
      clear HT0 F8 N8 NG hk9 hSg hsl9 hsn
      k_with "call builtin:len" => ((with_reducible show wpAny _ _ (call (Value.builtin "len") [Value.ref sl]) _ _ _); (refine' len_k (vs := sgs) ?l (by omega) hsgl ?_); (case l => is_list); intro t9 tk9; (try dsimp only))
      k_steps
      all_goals (try ((with_reducible refine hQ9 _ _ _ ?_); (try dsimp only)))
      rename_i o2 d2 D2 ws2 h3 F3 N3 hI3 hC3 hL3 l3
      have hws2 : ws2.length = (cs.drop 1).length := hI3.length
      have hcs9 : (cs.drop 1).length ≤ 9 := by rw [List.length_drop]; omega
      refine CompSrc.ledger (its := ws2.toArray) (k := 0) (by rfl) F3 N3 (.head _) (by rw [List.size_toArray, sizeLine_eq]; omega) (fun gh => comp_pure (fun i ys => ∀ h2, News g L h2 T → Paired (SgAt h2) ys (((cs.drop 1).take i).map pick)) (.inr ⟨_, .head _, rfl, _, rfl⟩) (fun i ys v I oI C oC D' m₂ h tk E' hil hv hK hC hx F N => ?_) (fun yss hKs => ?_) (fun _ _ => .nil))
      · obtain ⟨z, hz, tz, rfl⟩ : ∃ z, (cs.drop 1)[i]? = some z ∧ ∃ t, v = .int z t := by
          have hv' : ws2[i]? = some v := by simpa using hv
          have h1 := (List.getElem?_eq_some_iff.mp hv').1
          refine ⟨(cs.drop 1)[i]'(by omega), List.getElem?_eq_getElem (by omega), ?_⟩
          obtain ⟨t, ht⟩ := hI3.get i ((cs.drop 1)[i]'(by omega)) (List.getElem?_eq_getElem (by omega))
          rw [ht] at hv'
          exact ⟨t, (Option.some.inj hv').symm⟩
        clear F3 N3
        k_with "subscriptTail" => ((with_reducible show wpAny _ _ (subscriptTail _ _ (Value.ref sl) (Value.int _ _)) _ _ _); (with_unfolding_all refine' item_list (xs := sgs) ?k1 (by omega) ⟨?ka, ?kb⟩ ?_); (case k1 => is_list); (case ka => exact Int.fmod_nonneg_of_pos _ (by decide)); (case kb => (rw [hsgl]; exact Int.fmod_lt_of_pos _ (by decide))); intro v9 hv9)
        k_steps
        all_goals (try ((with_reducible refine hQ9 _ _ _ ?_); (try dsimp only)))
        · exact ⟨_, _, rfl, by with_reducible assumption, by with_reducible assumption⟩
        · rename_i h2 N2
          rw [List.take_add_one, hz, Option.toList_some, List.map_append]
          obtain ⟨x, hx, hSx⟩ := sg_get (HS h2 N2) hv9
          rw [pick_get hx] at hSx
          exact paired_app (hK h2 N2) (.cons hSx .nil)
      · intro Ds h4 tk4 F N off4
        try dsimp only
        clear F3 N3
        rw [List.size_toArray, hws2, List.take_length] at hKs
        k_with "call ref" => ((with_reducible show wpAny _ _ (PySem.call (Value.ref 309) _ _) _ _ _); (refine Hold.out ?_))
        k_steps
        all_goals (try ((with_reducible refine hQ9 _ _ _ ?_); (try dsimp only)))
        obtain ⟨xs, exs⟩ : ∃ xs, xs = List.map pick (List.drop 1 cs) := ⟨_, rfl⟩
        rw [← exs] at hKs
        have htab : ∀ x ∈ xs, x ∈ tab := fun x hx => by
          rw [exs] at hx
          obtain ⟨c, _, rfl⟩ := List.mem_map.mp hx
          exact pick_tab c
        have hxl9 : xs.length ≤ 9 := by rw [exs, List.length_map]; exact hcs9
        clear exs
        rename Fr _ _ _ _ => F8
        rename News _ _ _ _ => N8
        have NT8 : News g L _ T := fun q hq => N8 q (by repeat (first | exact hq | apply List.Mem.tail))
        have hyx : yss.length = xs.length := paired_len (hKs _ NT8)
        have hDs := N8 (Ds, lst yss) (by k_mem)
        refine ldata_cc Gg Ds yss xs (lst yss) rfl _ rfl hDs.2.2 (by omega) hyx.symm (fun x hx => ⟨(tab_ok x (htab x hx)).2.2.1, (tab_ok x (htab x hx)).2.1⟩) (dp + 1) (un + 3) _ gd _ _ _ ?hd1 ?hd2 ?hkB ⟨hDs.1, fun i v x e1 e2 => paired_get (hKs _ NT8) e1 e2⟩ ?hq
        case hd1 => omega
        case hd2 => omega
        case hkB => exact F8.keep
        case hq =>
          rintro v h9 tk9 ⟨hk9, d, D, ms, rfl, P, hPn⟩
          have hsemok : ∀ x ∈ xs, SgOk (semS xs) x := fun x hx => ⟨semIs_of htab hx, (tab_ok x (htab x hx)).1, (tab_ok x (htab x hx)).2.1, (tab_ok x (htab x hx)).2.2.2⟩
          obtain ⟨U, NU, HU0, HU⟩ := dat_tail F8 P hPn
          have F9 := F8.keeps hk9
          have hoffL : ∀ b, Sup D ms d b → b ≠ L := fun b hb q => by
            subst q
            obtain ⟨o2, _, _, e', _⟩ := F8.ns
            rw [hPn _ hb] at e'; cases e'
          obtain ⟨T2, eT2⟩ : ∃ T2, T2 = T ++ U := ⟨_, rfl⟩
          have NG := N8.grown hk9
          have N9 : News g L h9 ((Ds, lst yss) :: T2) := news_cons.mpr ⟨NG (Ds, lst yss) (by k_mem), fun q hq => by
            rw [eT2] at hq
            rcases List.mem_append.mp hq with hq | hq
            · exact NT8.grown hk9 q hq
            · exact NU q hq⟩
          have HK2 : ∀ h2, News g L h2 T2 → Paired (SgAt h2) yss xs := fun h2 N2 => hKs h2 fun q hq => N2 q (by rw [eT2]; exact List.mem_append_left _ hq)
          have HD2 : ∀ h2, News g L h2 T2 → DatM w h2 d D ms (semS xs) 45 := fun h2 N2 => HU h2 fun q hq => N2 q (by rw [eT2]; exact List.mem_append_right _ hq)
          clear hk9 eT2 HU HU0 NU P hPn hKs NG NT8 N8 F8 hDs HS
          k_steps
          all_goals (try ((with_reducible refine hQ9 _ _ _ ?_); (try dsimp only)))
          rename Fr _ _ _ _ => F3
          rename News _ _ _ _ => N3
          refine CompSrc.ledger (its := yss.toArray) (by rfl) F3 N3 (.head _) (by rw [List.size_toArray, sizeLine_eq]; omega) (fun gh => comp_pure (fun i ys => IntsAre ys ((xs.take i).map Sg.c)) (.inr ⟨_, .head _, rfl, _, rfl⟩) (fun i ys v I oI C oC D' m₂ h tk E' hil hv hK hC hx F N => ?_) (fun txs hKt => ?_) .nil)
          · have NT : News g L h T2 := fun q hq => N q (by repeat (first | exact hq | apply List.Mem.tail))
            obtain ⟨y, hy, hSy⟩ := sg_get (HK2 h NT) (show yss[i]? = some v by simpa using hv)
            obtain ⟨ty, yc, y1, y2, y3, rfl, hTy⟩ := id hSy
            have HTy : ∀ h2, News g L h2 T2 → SgAt h2 (.ref ty) y := fun h2 N2 => by
              obtain ⟨y', hy', hSy'⟩ := sg_get (HK2 h2 N2) (show yss[i]? = some (.ref ty) by simpa using hv)
              rw [hy] at hy'; cases hy'; exact hSy'
            clear F3 N3 NT hTy hSy
            k_with "subscriptTail" => ((with_reducible show wpAny _ _ (subscriptTail _ _ (Value.ref ty) (Value.int 0 _)) _ _ _); (try dsimp only); (refine sg0 (HTy _ (news_perm (by k_asm) (fun q hq => by repeat (first | exact hq | apply List.Mem.tail)))) ?_); intro u9)
            k_steps
            all_goals (try ((with_reducible refine hQ9 _ _ _ ?_); (try dsimp only)))
            · exact ⟨_, _, rfl, by with_reducible assumption, by with_reducible assumption⟩
            · rw [List.take_add_one, hy, Option.toList_some, List.map_append]
              exact hK.append (.cons _ _ .nil)
          · intro Dt h4 tk4 F N off4
            try dsimp only
            clear F3 N3
            rw [List.size_toArray, hyx, List.take_length] at hKt
            k_with "exec For Name Call cons nil" => ((rename Fr _ _ _ _ => lF'); (with_reducible refine For_turns lF' ?_ ?hs ?hE); (case hs => (intro x; k_dflt rfl)); (case hE => k_dflt passes_own))
            k_with "call ref" => ((with_reducible show wpAny _ _ (PySem.call (Value.ref 323) _ _) _ _ _); (refine Hold.out ?_))
            k_steps
            all_goals (try ((with_reducible refine hQ9 _ _ _ ?_); (try dsimp only)))
            rename Fr _ _ _ _ => F8
            rename_i D2a _ _ _ _ _ _ Dw cw _ _ du0 _ _ Dz _ _ _ _ _ N8
            obtain ⟨wide, hwide⟩ : ∃ wide, wide = (((cs ++ [0]).getD (Int.toNat 0) 0).fmod 2 == 1) := ⟨_, rfl⟩
            rw [← hwide] at F8
            clear hwide
            have hDs := N8 (Ds, lst yss) (by k_mem)
            have NT8 : News g L _ T2 := fun q hq => N8 q (by repeat (first | exact hq | apply List.Mem.tail))
            refine lcl_cc Gg (fun sl svs xs yv y h1 h2 => isone_cc Gg sl svs xs yv y h1 h2) Ds yss xs yss.length (by omega) hDs.2.2 (dp + 1) (un + 3) _ gd _ _ _ ?hd1 ?hd2 ?hkB ⟨hDs.1, HK2 _ NT8⟩ ?hq
            case hd1 => omega
            case hd2 => omega
            case hkB => exact F8.keep
            case hq =>
              rintro v h9 tk9 ⟨hk9, fl, nf, rs, rfl, hfl, hfn, hrs, hCl⟩
              have F9 := F8.keeps hk9
              obtain ⟨U, NU, HU⟩ := cls_any F9 hCl
              have hneL : ∀ a, _ → a ≠ L := fun a (e : Heap.get? _ a = none) q => by
                subst q
                obtain ⟨o2, _, _, e', _⟩ := F8.ns
                rw [e] at e'; cases e'
              obtain ⟨T3, eT3⟩ : ∃ T3, T3 = T2 ++ (rs.map Ls.ent ++ U) := ⟨_, rfl⟩
              have NG := N8.grown hk9
              have NT3 : News g L h9 T3 := by
                rw [eT3]
                refine news_two_app (NT8.grown hk9) (news_two_app (fun p hp => ?_) NU)
                obtain ⟨r, hr, rfl⟩ := List.mem_map.mp hp
                exact ⟨(hrs r hr).1, hneL _ (hrs r hr).2, none_g F8 (hrs r hr).2⟩
              have N9 : News g L h9 ((du0, PySem.W.listOf #[] 0) :: (fl, PySem.W.listOf (rs.map fun r => Value.ref r.a).toArray nf) :: (Dt, lst txs) :: (Dw, PySem.W.listOf txs.toArray cw) :: T3) :=
                news_cons.mpr ⟨NG (du0, PySem.W.listOf #[] 0) (by k_mem), news_cons.mpr ⟨⟨hfl, hneL _ hfn, none_g F8 hfn⟩, news_cons.mpr ⟨NG (Dt, lst txs) (by k_mem), news_cons.mpr ⟨NG (Dw, PySem.W.listOf txs.toArray cw) (by k_mem), NT3⟩⟩⟩⟩
              have HD3 : ∀ h2, News g L h2 T3 → DatM w h2 d D ms (semS xs) 45 := fun h2 N2 => HD2 h2 fun q hq => N2 q (by rw [eT3]; exact List.mem_append_left _ hq)
              have HC3 : ∀ h2, Kp g h2 → News g L h2 T3 → Paired (fun r c => Paired (SgAt h2) r.vs c ∧ c ≠ []) rs (clustersL xs) := fun h2 k N2 => HU h2 k fun q hq => N2 q (by rw [eT3]; exact List.mem_append_right _ (List.mem_append_right _ hq))
              have hr3 : ∀ r ∈ rs, r.ent ∈ T3 := fun r hr => by rw [eT3]; exact List.mem_append_right _ (List.mem_append_left _ (List.mem_map_of_mem hr))
              have hrc := paired_len hCl
              clear hk9 eT3 HU NU NG NT3 NT8 N8 F8 hDs HD2 HK2 hfl hfn hrs hCl hneL
              k_with "pyIter ref" => ((rename Fr _ _ _ _ => lF'); (rename News _ _ _ _ => lN'); k_dflt (refine' iter_listTurns (lo := PySem.W.listOf (rs.map fun r => Value.ref r.a).toArray nf) (vs := rs.map fun r => Value.ref r.a) rfl lF' lN' (by k_mem) rfl rfl ?_); (clear lF'); intro i' l1)
              k_with "ItemsRest" => (refine Hold.out ?_)
              k_steps
              all_goals (try ((with_reducible refine hQ9 _ _ _ ?_); (try dsimp only)))
              have hiall := l1
              refine items_inv (LwI d Dt Dw fl (PySem.W.listOf (rs.map fun r => Value.ref r.a).toArray nf) txs cw T3 wide (clustersL xs)) ?_ ?_ ⟨du0, 0, [], rfl, rfl, rfl, rfl, rfl, .head _, .tail _ (.head _), .tail _ (.tail _ (.head _)), .tail _ (.tail _ (.tail _ (.head _))), fun p hp => .tail _ (.tail _ (.tail _ (.tail _ hp))), .nil⟩
              · rintro i v m nw h tk oI hv ⟨du, k, dvs, I⟩ hc F N
                obtain ⟨r, hr, rfl⟩ : ∃ r, rs[i]? = some r ∧ v = .ref r.a := by
                  rw [List.getElem?_map] at hv
                  obtain ⟨r, hr, e⟩ := Option.map_eq_some_iff.mp hv
                  exact ⟨r, hr, e.symm⟩
                have hrm := List.mem_of_getElem? hr
                have hi9 := (List.getElem?_eq_some_iff.mp hr).1
                obtain ⟨c, hcg⟩ : ∃ c, (clustersL xs)[i]? = some c := ⟨_, List.getElem?_eq_getElem (by omega)⟩
                have hcm : c ∈ clustersL xs := List.mem_of_getElem? hcg
                have hcl := clustersL_len hcm
                have hcne := clustersL_ne xs c hcm
                have hc0 : 0 < c.length := List.length_pos_iff.mpr hcne
                have HSr : ∀ h2, Kp g h2 → News g L h2 T3 → Paired (SgAt h2) r.vs c := fun h2 k N2 => (paired_get (HC3 h2 k N2) hr hcg).1
                have N4 := I.news4 (news_cons.mp N).2
                have hrl : r.vs.length = c.length := paired_len (HSr h F.keep fun q hq => N4 q (.tail _ (.tail _ (.tail _ (.tail _ hq)))))
                have hdl : dvs.length ≤ 9 := by
                  have h1 := I.hi.length
                  rw [h1, flat_rows _ _ fun z hz => clustersL_ne xs z (List.mem_of_mem_take hz)]
                  have h2 : ((clustersL xs).take i).flatten.length ≤ (clustersL xs).flatten.length := by
                    conv => rhs; rw [← List.take_append_drop i (clustersL xs), List.flatten_append, List.length_append]
                    omega
                  rw [clustersL_flat] at h2
                  omega
                replace F := Fr.pin _ F I.pins
                have N2 : News g L h ((i', oI) :: (du, PySem.W.listOf dvs.toArray k) :: (r.a, PySem.W.listOf r.vs.toArray r.k) :: (fl, PySem.W.listOf (rs.map fun r => Value.ref r.a).toArray nf) :: (Dt, lst txs) :: (Dw, PySem.W.listOf txs.toArray cw) :: T3) :=
                  news_cons.mpr ⟨N _ (.head _), news_cons.mpr ⟨N4 _ (.head _), news_cons.mpr ⟨N4 _ (.tail _ (.tail _ (.tail _ (.tail _ (hr3 r hrm))))), (news_cons.mp N4).2⟩⟩⟩
                have hrb : g.get? r.a = none := (N2 _ (.tail _ (.tail _ (.head _)))).2.2
                have hii := I.hi
                clear N N4 I
                k_with "call ref" => ((with_reducible show wpAny _ _ (PySem.call (Value.ref 328) _ _) _ _ _); (refine' use_pure (lcols_cc Gg r.a r.vs c wide r.k (by omega) hcne hrb) (Kp.refl g) ?kF ?kN ?kp ?kd ?ku ?_); (case kF => k_asm); (case kN => k_asm); (case kp => exact ⟨News.get (by k_asm) (by k_mem), HSr _ (Fr.keep (by k_asm)) (news_perm (by k_asm) (fun q hq => by repeat (first | exact hq | apply List.Mem.tail)))⟩); (case kd => k_dflt (exact lim1 hdp rfl)); (case ku => k_dflt (exact lim3 hun rfl)); intro v9 h9 tk9 hR9 hk9 F9 N9; (obtain ⟨t9, e9⟩ := hR9); subst e9; k_sweep)
                k_with "call builtin:len" => ((with_reducible show wpAny _ _ (call (Value.builtin "len") [Value.ref _]) _ _ _); (refine' len_any (vs := r.vs) ?l ?l0 ?_); (case l0 => omega); (case l => exact ⟨PySem.W.listOf r.vs.toArray r.k, News.get (by k_asm) (by k_mem), rfl, _, rfl⟩); intro t9 tk9; (try dsimp only))
                k_with "binaryOp Mult ref int" => (k_here; k_dflt (refine' mul_one (j := c.length - 1) ?z1 ?z2 ?z3 ?z4 ?z5 ?z6 ?_; (case z1 => k_asm); (case z2 => k_asm); (case z3 => is_list); (case z4 => omega); (case z5 => omega); (case z6 => omega)); intro D' h' F' N' l1; (try k_lt l1); (try k_sweep))
                k_with "binaryOp Add ref ref" => (k_here; k_dflt (refine' ad_two ?z1 ?z2 ?z3 ?z4 ?z5 ?_; (case z1 => k_asm); (case z2 => k_asm); (case z3 => kmk_list); (case z4 => kmk_list); (case z5 => ((simp only [List.length_append, List.length_cons, List.length_nil, List.length_replicate]); omega))); intro D' h' F' N' l1; (try k_lt l1); (try k_sweep))
                try dsimp only
                k_steps
                all_goals (try ((with_reducible refine hQ9 _ _ _ ?_); (try dsimp only)))
                rename Fr _ _ _ _ => F8
                rename News _ _ _ _ => N8
                exact lw_end F8 N8 (by k_mem) (.head _) (by k_mem) (by k_mem) (by k_mem) (fun p hp => by repeat (first | exact hp | apply List.Mem.tail)) hii hcg rfl (by k_ne) (Nat.ne_of_lt (hiall _ (.tail _ (.head _)))) (Nat.ne_of_lt (hiall _ (.tail _ (.tail _ (.head _))))) (Nat.ne_of_lt (hiall _ (.tail _ (.tail _ (.tail _ (.head _)))))) (fun p hp => Nat.ne_of_lt (hiall _ (.tail _ (.tail _ (.tail _ (.tail _ hp)))))) rfl rfl rfl rfl rfl
              · rintro m nw h tk ⟨du, k, dvs, I⟩ F N
                have N2 := I.news4 N
                have hii := I.hi
                rw [List.length_map, hrc, List.take_length] at hii
                replace F := Fr.pin _ F I.pins
                replace F : Fr g L h _ := F
                clear N I
                replace N2 : News g L h _ := N2
                refine execs_cut1 (TI ⟨h₁, g9s, d9r, tk0, o9s⟩ g L du Dt Dw dvs txs k cw ((clustersL xs).flatMap (rowF (columnsL wide)))) ?key ?rest
                case key =>
                  clear F N2
                  rintro _ ⟨h, tk, m, fd, fvs, kf, rfl, F, m1, m2, m3, m4, N, hfi⟩
                  dsimp only
                  replace F := Fr.pin [(Str.ofString "told", Value.ref fd), (Str.ofString "due", .ref du), (Str.ofString "text", .ref Dt), (Str.ofString "was", .ref Dw)] F (all4 (m := m) m1 m2 m3 m4)
                  replace F : Fr g L h _ := F
                  have hfz : fvs.toArray.toList.length ≤ sizeLine := by
                    have h1 := hfi.length
                    rw [flat_rows _ _ fun z hz => clustersL_ne xs z hz, clustersL_flat] at h1
                    rw [sizeLine_eq]
                    show fvs.length ≤ _
                    omega
                  k_with "call type:list" => (k_here; (with_reducible show wpAny _ _ (call (Value.type _) [Value.ref fd]) _ _ _); k_dflt (refine' kup_listOf (zs := fvs) ?z1 ?z2 ?z3 rfl ?_ ?z5; (case z1 => k_asm); (case z2 => k_asm); (case z3 => k_mem); (case z5 => exact hfz)); intro D' c' h' F' N' l1; (try k_lt l1); (try k_sweep))
                  k_with "compareOp Eq ref ref" => (k_here; k_dflt (first | (refine' eq_same hfi hii ?hl ?hb ?hu ?_; (case hl => kmk_list); (case hb => kmk_list); (case hu => (simp only [units_deeper]; omega))) | (refine' eq_same hKt hKt ?hl ?hb ?hu ?_; (case hl => kmk_list); (case hb => kmk_list); (case hu => (simp only [units_deeper]; omega)))))
                  k_steps
                  all_goals (try ((with_reducible refine hQ9 _ _ _ ?_); (try dsimp only)))
                  try dsimp only
                  rename Fr _ _ _ _ => F8
                  exact hret _ _ (hk.trans F8.keep)
                case rest =>
                  intro key
                  k_with "execs cons" => ((try dsimp only); (with_reducible refine key _ ?_))
                  cases wide with
                  | false =>
                    k_with "call ref" => ((with_reducible show wpAny _ _ (PySem.call (Value.ref 190) _ _) _ _ _); refine Hold.out ?_)
                    try dsimp only
                    k_steps
                    all_goals (try ((with_reducible refine hQ9 _ _ _ ?_); (try dsimp only)))
                    rename Fr _ _ _ _ => F8
                    rename News _ _ _ _ => N8
                    obtain ⟨o0, es0, ep0, hL0, hd0, hr0⟩ := id F8.ns
                    have hDt := N8 (Dt, lst txs) (by k_mem)
                    refine cwid_cc Gg Dt d txs xs D ms (semS xs) 45 false (by have := hKt.length; rw [List.length_map] at this; omega) hsemok htab _ _ (.inl ⟨rfl, rfl, rfl⟩) _ L o0 (kts_self F8) hoffL hDt.2.1 (dp + 1) (un + 3) gd _ _ _ ?hd1 ?hd2 ?hkB ?h0 ?h0d ?hff rfl ?hp ?hret
                    case hd1 => omega
                    case hd2 => omega
                    case hkB => exact F8.keep
                    case h0 => exact hL0
                    case h0d => exact ⟨_, _, hd0⟩
                    case hff => exact .cons (by show ScopeKind.function ≠ .module; decide) rfl F8.ns (kts_self F8) trivial
                    case hp => exact ⟨⟨lst txs, hDt.1, rfl, _, rfl⟩, hKt, HD3 _ (fun q hq => N8 q (by repeat (first | exact hq | apply List.Mem.tail)))⟩
                    case hret =>
                      intro fd fvs kf h9 tk9 hkeep hsl hfd hfn hfi
                      obtain ⟨sl9, hsl⟩ := hsl
                      rw [plain_law false xs htab] at hfi
                      have F9 : Fr g L h9 _ := ⟨⟨slo o0 sl9, es0, ep0, hsl, hd0, hr0⟩, fun b o e => hkeep b o (fun q => by rw [q, kts_self F8] at e; cases e) (F8.keep b o e), F8.above⟩
                      have kk : ∀ (p : Addr × Obj), _ → h9.get? p.1 = some p.2 ∧ p.1 ≠ L ∧ g.get? p.1 = none := fun p hp => ⟨hkeep _ _ (N8 p hp).2.1 (N8 p hp).1, (N8 p hp).2⟩
                      have hfL : fd ≠ L := fun q => by
                        rw [q] at hfn
                        have z : some o0 = none := hL0.symm.trans hfn
                        cases z
                      have N9 : News g L h9 ((fd, PySem.W.listOf fvs.toArray kf) :: (du, PySem.W.listOf dvs.toArray k) :: (Dt, lst txs) :: (Dw, PySem.W.listOf txs.toArray cw) :: []) :=
                        news_cons.mpr ⟨⟨hfd, hfL, none_g F8 hfn⟩, news_cons.mpr ⟨kk _ (by k_mem), news_cons.mpr ⟨kk _ (by k_mem), news_cons.mpr ⟨kk _ (by k_mem), News.nil⟩⟩⟩⟩
                      clear kk N8 F8 hL0 hd0 hr0 hkeep hsl hfd hfn
                      k_steps
                      all_goals (try ((with_reducible refine hQ9 _ _ _ ?_); (try dsimp only)))
                      exact ⟨_, _, _, fd, fvs, kf, rfl, by with_reducible assumption, rfl, rfl, rfl, rfl, by with_reducible assumption, hfi⟩
                  | true =>
                    k_with "call ref" => ((with_reducible show wpAny _ _ (PySem.call (Value.ref 190) _ _) _ _ _); refine Hold.out ?_)
                    try dsimp only
                    k_steps
                    all_goals (try ((with_reducible refine hQ9 _ _ _ ?_); (try dsimp only)))
                    rename Fr _ _ _ _ => F8
                    rename News _ _ _ _ => N8
                    obtain ⟨o0, es0, ep0, hL0, hd0, hr0⟩ := id F8.ns
                    have hDt := N8 (Dt, lst txs) (by k_mem)
                    refine cwid_cc Gg Dt d txs xs D ms (semS xs) 45 true (by have := hKt.length; rw [List.length_map] at this; omega) hsemok htab _ _ (.inr ⟨rfl, rfl, rfl⟩) _ L o0 (kts_self F8) hoffL hDt.2.1 (dp + 1) (un + 3) gd _ _ _ ?hd1 ?hd2 ?hkB ?h0 ?h0d ?hff rfl ?hp ?hret
                    case hd1 => omega
                    case hd2 => omega
                    case hkB => exact F8.keep
                    case h0 => exact hL0
                    case h0d => exact ⟨_, _, hd0⟩
                    case hff => exact .cons (by show ScopeKind.function ≠ .module; decide) rfl F8.ns (kts_self F8) trivial
                    case hp => exact ⟨⟨lst txs, hDt.1, rfl, _, rfl⟩, hKt, HD3 _ (fun q hq => N8 q (by repeat (first | exact hq | apply List.Mem.tail)))⟩
                    case hret =>
                      intro fd fvs kf h9 tk9 hkeep hsl hfd hfn hfi
                      obtain ⟨sl9, hsl⟩ := hsl
                      rw [plain_law true xs htab] at hfi
                      have F9 : Fr g L h9 _ := ⟨⟨slo o0 sl9, es0, ep0, hsl, hd0, hr0⟩, fun b o e => hkeep b o (fun q => by rw [q, kts_self F8] at e; cases e) (F8.keep b o e), F8.above⟩
                      have kk : ∀ (p : Addr × Obj), _ → h9.get? p.1 = some p.2 ∧ p.1 ≠ L ∧ g.get? p.1 = none := fun p hp => ⟨hkeep _ _ (N8 p hp).2.1 (N8 p hp).1, (N8 p hp).2⟩
                      have hfL : fd ≠ L := fun q => by
                        rw [q] at hfn
                        have z : some o0 = none := hL0.symm.trans hfn
                        cases z
                      have N9 : News g L h9 ((fd, PySem.W.listOf fvs.toArray kf) :: (du, PySem.W.listOf dvs.toArray k) :: (Dt, lst txs) :: (Dw, PySem.W.listOf txs.toArray cw) :: []) :=
                        news_cons.mpr ⟨⟨hfd, hfL, none_g F8 hfn⟩, news_cons.mpr ⟨kk _ (by k_mem), news_cons.mpr ⟨kk _ (by k_mem), news_cons.mpr ⟨kk _ (by k_mem), News.nil⟩⟩⟩⟩
                      clear kk N8 F8 hL0 hd0 hr0 hkeep hsl hfd hfn
                      k_steps
                      all_goals (try ((with_reducible refine hQ9 _ _ _ ?_); (try dsimp only)))
                      exact ⟨_, _, _, fd, fvs, kf, rfl, by with_reducible assumption, rfl, rfl, rfl, rfl, by with_reducible assumption, hfi⟩
end Mine

end

section
open PySem PySem.W PyProof.Rows PySem.Calls PyProof.Rows.LCg
namespace Mine
set_option maxRecDepth 100000
set_option maxHeartbeats 0
theorem fillY2 : PySem.Challenge.rw_pb0596_01.foot = 6 ∧ K9 = K9 := by
  k_with_none
  k_with "my ne" => (first | (with_reducible first | assumption | exact Ne.symm (by assumption) | exact Mine.nr1 (by assumption) | exact Mine.ns1 (by assumption) | exact Mine.nt1 (by assumption) | exact Mine.nu1 (by assumption) | exact Mine.nr2 (by assumption) | exact Mine.ns2 (by assumption) | exact Mine.nt2 (by assumption) | exact Mine.nu2 (by assumption) | exact Mine.nr3 (by assumption) | exact Mine.ns3 (by assumption) | exact Mine.nt3 (by assumption) | exact Mine.nu3 (by assumption) | exact Mine.nr4 (by assumption) | exact Mine.ns4 (by assumption) | exact Mine.nt4 (by assumption) | exact Mine.nu4 (by assumption) | exact Mine.nr5 (by assumption) | exact Mine.ns5 (by assumption) | exact Mine.nt5 (by assumption) | exact Mine.nu5 (by assumption) | exact Mine.nr6 (by assumption) | exact Mine.ns6 (by assumption) | exact Mine.nt6 (by assumption) | exact Mine.nu6 (by assumption) | exact Mine.nr7 (by assumption) | exact Mine.ns7 (by assumption) | exact Mine.nt7 (by assumption) | exact Mine.nu7 (by assumption) | exact Mine.nr8 (by assumption) | exact Mine.ns8 (by assumption) | exact Mine.nt8 (by assumption) | exact Mine.nu8 (by assumption) | exact Mine.nr9 (by assumption) | exact Mine.ns9 (by assumption) | exact Mine.nr10 (by assumption) | exact Mine.ns10 (by assumption) | exact Mine.nr11 (by assumption) | exact Mine.ns11 (by assumption) | exact Mine.nr12 (by assumption) | exact Mine.ns12 (by assumption) | exact Mine.nw1 (by assumption) | exact Mine.nw2 (by assumption) | exact Mine.nw3 (by assumption) | exact Mine.nw4 (by assumption) | exact Mine.nw5 (by assumption) | exact Mine.nw6 (by assumption) | exact Mine.nk1 (by assumption) | exact Mine.nk2 (by assumption) | exact Mine.nk3 (by assumption) | exact Mine.nk4 (by assumption)) | fail "no")
  k_with "my om" => (first | ((with_reducible show @Eq Int _ _); with_reducible first | assumption | exact Eq.symm (by assumption) | exact Int.toNat_of_nonneg (by assumption)) | fail "no")
  k_with "my om" => (first | ((with_reducible show And (@LE.le Int _ _ _) _); with_reducible first | assumption | (refine Mine.i2 (by assumption) ?_; omega) | (refine Mine.i2' (by assumption) ?_; omega)) | fail "no")
  k_with "my om" => (first | ((with_reducible show @LT.lt Int _ _ _); first | (with_reducible first | assumption | exact Mine.i1' (by assumption) | exact Int.ofNat_lt.mpr (by assumption) | exact And.left (by assumption) | exact And.right (by assumption) | exact Int.lt_of_not_le (by assumption)) | decide +kernel) | fail "no")
  k_with "my om" => (first | ((with_reducible show @LE.le Int _ _ _); first | (with_reducible first | assumption | exact Int.natCast_nonneg _ | exact Int.le_refl _ | exact Mine.i1 _ | exact Int.ofNat_le.mpr (by assumption) | exact Mine.i6 (by assumption) (by assumption) | (refine Mine.i7 ?_; omega) | exact And.left (by assumption) | exact And.right (by assumption) | exact Int.le_of_not_lt (by assumption) | exact Int.le_of_lt (by assumption)) | decide +kernel) | fail "no")
  k_with "my om" => (first | ((with_reducible show @Eq Nat _ _); with_reducible first | assumption | exact Eq.symm (by assumption) | exact Mine.i5 (by assumption) | exact Mine.i4 _ | exact Mine.i3 _ | exact Eq.symm (Mine.i4 _) | exact Nat.add_sub_cancel_left .. | exact Nat.min_eq_left (by assumption) | exact Eq.trans (by assumption) (by assumption) | exact Eq.trans (Eq.symm (by assumption)) (by assumption) | exact Eq.trans (by assumption) (Eq.symm (by assumption))) | fail "no")
  k_with "my om" => (first | ((with_reducible show @LT.lt Nat _ _ _); with_reducible first | assumption | exact Mine.np (by assumption) | exact Mine.nq (by assumption) rfl | exact Mine.nv (by assumption) rfl | exact Mine.ia (by assumption) (by assumption) | exact Mine.ib (by assumption) (by assumption) | exact Nat.lt_of_lt_of_le (by assumption) (by assumption) | exact Nat.succ_lt_succ (by assumption) | exact And.left (by assumption) | exact And.right (by assumption) | exact Nat.lt_of_not_le (by assumption) | exact Mine.ia (Mine.ia (by assumption) (by assumption)) (by assumption) | exact Mine.ib (Mine.ia (by assumption) (by assumption)) (by assumption) | exact Mine.ia (Mine.ib (by assumption) (by assumption)) (by assumption) | exact Mine.ib (Mine.ib (by assumption) (by assumption)) (by assumption)) | fail "no")
  k_with "my om" => (first | ((with_reducible show @LE.le Nat _ _ _); first | (with_reducible first | assumption | exact Mine.nc (by assumption) rfl | exact Nat.le_refl _ | exact Mine.nl (by assumption) (by assumption) | exact Mine.nm (by assumption) (by assumption) | exact Mine.nn (by assumption) (by assumption) | exact Mine.nn (by assumption) (Mine.nc (by assumption) rfl) | exact Mine.nl (by assumption) (Mine.nc (by assumption) rfl) | exact Mine.nm (by assumption) (Mine.nc (by assumption) rfl) | exact Mine.nl (by assumption) (Mine.nl (by assumption) (Mine.nc (by assumption) rfl)) | exact Mine.nl (by assumption) (Mine.nn (by assumption) (Mine.nc (by assumption) rfl)) | exact Mine.nm (by assumption) (Mine.nn (by assumption) (Mine.nc (by assumption) rfl)) | exact Mine.nl (by assumption) (Mine.nm (by assumption) (Mine.nc (by assumption) rfl)) | exact Mine.nm (by assumption) (Mine.nl (by assumption) (Mine.nc (by assumption) rfl)) | exact Mine.nm (by assumption) (Mine.nm (by assumption) (Mine.nc (by assumption) rfl)) | exact Nat.le_add_right _ _ | exact Nat.succ_le_succ (by assumption) | exact Nat.le_of_eq (by assumption) | exact Nat.le_of_eq (Eq.symm (by assumption)) | exact Nat.le_succ_of_le (by assumption) | exact Nat.le_of_not_lt (by assumption) | exact Int.toNat_le_toNat (by assumption) | exact Mine.ig (by assumption) (by assumption) rfl | exact Mine.ih (by assumption) (by assumption) rfl | exact And.left (by assumption) | exact And.right (by assumption) | (refine Mine.ie ?_ (by assumption); omega) | (refine Mine.ie' ?_ (by assumption); omega) | (refine Mine.id1 ?_; omega) | (refine Mine.ij ?_; omega) | (refine Mine.ic (by assumption) rfl ?_; omega)) | exact Mine.nz rfl) | fail "no")
  k_with "my own" => (first | assumption | exact Mine.PAt.of (by assumption) (PySem.SameStack.mark _ _) | exact Mine.PAt.of (by assumption) (PySem.SameStack.unmark _ _) | fail "no")
  k_fill
  exact ⟨rfl, rfl⟩
theorem law_ok : PySem.Challenge.rw_pb0596_01.Holds := by
  refine hd9 rfl rfl rfl ?_
  intro w s₀ s₁ mg mb G Y fa o pm cd doc dV kV ho hd hcd hD hmg hg args vals as hpre hlay hrd hwl hlo
  have KX := kIn_of Y
  refine Ground.open G ?_
  intro T B D TE TW
  clear hcd hD hd
  wrow_args hpre hlay hrd hwl hlo
  rename IntsAre _ _ => hI
  rename Heap.IsList _ _ _ => hL
  rename ¬ _ < _ => hcond
  have G0 : Gr w s₁.heap := ⟨KX, _, _, _, _, _, T⟩
  have hm : mg (Str.ofString "law") = some (.ref 333) := mg_of KX (topRead_of T).g (by k_is)
  have hfa : fa = 333 := by
    have e := hmg.symm.trans hm
    cases e; rfl
  subst hfa
  refine law_cc G0 _ _ _ (1 + claimMargin) 4 (some []) s₁ _ _ (by decide) (by decide) (Kp.refl _) hL hI (by omega) fun h' tk' hk => ?_
  refine GoodW.toG ⟨.inl ⟨_, .bool true, [], rfl, ?_, ?_, ?_, ?_⟩, hk, rfl, hg⟩
  · intro _; rfl
  · exact .bool _
  · wrow_post
  · intro _; exact ⟨List.nodup_nil, fun _ h => nomatch h⟩
end Mine

end
theorem PySem.Challenge.cw_pb0596_01_holds : PySem.Challenge.rw_pb0596_01.Holds := by
  exact Mine.law_ok
