import PyProof.Rows.All
import Wide.All
import OpenK.AllK
import Wide.FinOn
import KE.KStateDown
import HandS.ForMost
import HandS.ForExc
import HandS.Strs
import HandS.IsInst
import HandS.Flow
import HandS.Style
import HandS.SetFor
import HandS.Zip
import HandS.SortInts
import HandS.Wide
import HandS.Walk
import HandS.Deep
import HandS.Conv
import HandS.TryOnly
import HandS.Defaults
import HandS.TupAny
import KE.KBits
import KE.OsArith
import KE.BitLaws
import HandS.Head0
import HandS.Head1
import HandS.Head2
import HandS.HeadEnd
import HandS.HeadHook1
import HandS.HeadHook2
import HandS.HeadHook3
import HandS.HeadHook4
import PySem.Challenge.RW_dividedbytimes_k08_main_multiples_by_one
set_option linter.all false
set_option Elab.async false
set_option maxRecDepth 100000
set_option maxHeartbeats 4000000
namespace Py
/-- the defs -/
inductive F where
  | is_number
  | is_within
  | sure_within
  | sure_width
  | top_in
  | sure_word
  | sure_divisor
  | l_box
  | l_take
  | l_cells
  | l_of
  | l_same
  | l_two
  | l_divisor
  | law_k08
  | l_wide
  | l_twos
  | turned_in
  | twos_in
  | steps_in
  | inverse_in
  | l_inverse
  | l_rolled
  | test_in
  | product_in
  | back_in
  | sure_both
  | multiple_test
  | led_to
  | led_back
  | is_multiple
  | leaves
  | multiple_at
  | l_led
/-- the constants of the modules -/
inductive G where
  | MOST_WIDTH
end Py
namespace Py
open PySem (Operator CmpOp)

/-- the exception classes -/
inductive Xc where
  | Unfit | CanNot | BadText | NothingDone | TooMany
  deriving DecidableEq

/-- data: values without a heap; cell k: a list that is changed in place, by its place in the store -/
inductive D where
  | non | bl (b : Bool) | int (i : Int) | str (x : List Nat)
  | tup (xs : List D) | lst (xs : List D) | ro (xs : List Int) | cell (k : Nat)
  | fn (f : F) | dic (ks : List D) (vs : List D) | dks (ks : List Int) | set (ks : List Int) | exc (c : Xc) (xs : List D)
instance : Inhabited D := ⟨.non⟩

abbrev Store := List (List D)
abbrev Fr := List (Option D)

/-- built-ins by name; kinds of what is walked; kinds of isinstance -/
inductive Bi where
  | len | abs | int | min | max | sorted | tuple | all | any | str | sum | set | dict
inductive Sk where
  | val | range | zip | enumerate
inductive Ty where
  | int | bool | str | list | tuple
inductive Mth where
  | index | count | join | split | replace
inductive Tg where
  | one (i : Nat) | many (is : List Nat)

inductive E where
  | var (i : Nat) | cst (d : D) | glo (g : G) | fnv (f : F)
  | bin (op : Operator) (a b : E) | neg (a : E) | not (a : E) | and (a b : E) | or (a b : E)
  | cmp (op : CmpOp) (a b : E) | chn (op op' : CmpOp) (a b c : E) | chn3 (op op' op'' : CmpOp) (a b c d : E)
  | ite (c a b : E) | tup (es : List E) | lst (es : List E) | lstC (es : List E)
  | idx (a i : E) | sli (a : E) (lo hi : List E) | rev (a : E)
  | call (f : F) (es : List E) | callk (f : F) (es ks : List E) | callv (i : Nat) (es : List E)
  | bi (b : Bi) (es : List E) | isi (a : E) (ts : List Ty) (many : Bool) | isx (a : E)
  | lc (elt : E) (tg : Tg) (k : Sk) (src : List E) (cond : List E) (own : List Nat)
  | listV (k : Sk) (src : List E) | listC (k : Sk) (src : List E)
  | mth (m : Mth) (o : E) (es : List E) | pop (o i : E)

inductive S where
  | asg (i : Nat) (e : E) | unp (is : List Nat) (e : E) | par (is : List Nat) (es : List E)
  | sub (o i e : E) | aug (i : Nat) (op : Operator) (e : E) | app (o e : E) | ext (o e : E)
  | ret (e : E) | retN | ife (c : E) (a b : List S) | fr (tg : Tg) (k : Sk) (src : List E) (body : List S) | wh (c : E) (body : List S)
  | brk | cnt | pas | drop (e : E) | rse (c : Xc) (es : List E) | tri (body : List S) (c : Xc) (i : Nat) (h : List S)

/-- np parameters, ns names in all; raw: a list of its own that it hands back may be changed by others -/
structure Fn where
  np : Nat
  ns : Nat
  raw : Bool
  body : List S

end Py
namespace Py
def G.val : G → D
  | .MOST_WIDTH => .int 64
def b_is_number : List S := [.ret (.and (.isi (.var 0) [.int] false) (.not (.isi (.var 0) [.bool] false)))]
def b_is_within : List S := [.ret (.and (.call .is_number [.var 0]) (.chn .LtE .LtE (.var 1) (.var 0) (.var 2)))]
def b_sure_within : List S := [.ife (.not (.call .is_within [.var 0, .var 1, .var 2])) [.rse .Unfit []] [],
  .ret (.var 0)]
def b_sure_width : List S := [.ret (.call .sure_within [.var 0, .cst (.int 1), .glo .MOST_WIDTH])]
def b_top_in : List S := [.ret (.bin .Sub (.bin .LShift (.cst (.int 1)) (.var 0)) (.cst (.int 1)))]
def b_sure_word : List S := [.ret (.call .sure_within [.var 1, .cst (.int 0), .call .top_in [.var 0]])]
def b_sure_divisor : List S := [.ret (.call .sure_within [.var 1, .cst (.int 1), .call .top_in [.var 0]])]
def b_l_box : List S := [.asg 2 (.ite (.cmp .Lt (.var 1) (.bi .len [.var 0])) (.idx (.var 0) (.var 1)) (.cst (.int 0))),
  .ret (.lstC [.bin .Mult (.bi .abs [.var 2]) (.bi .int [.cmp .GtE (.bi .abs [.var 2]) (.bin .Pow (.cst (.int 10)) (.cst (.int 18)))]), .bin .Add (.bin .Add (.bin .Mod (.bi .int [.var 2]) (.cst (.int 2305843009213693951))) (.bin .Mult (.cst (.int 39373)) (.var 1))) (.cst (.int 263000)), .cst (.int 0)])]
def b_l_take : List S := [.ife (.cmp .Gt (.idx (.var 0) (.cst (.int 0))) (.cst (.int 0))) [.asg 2 (.bin .Mod (.bi .int [.idx (.var 0) (.cst (.int 0))]) (.var 1)),
  .sub (.var 0) (.cst (.int 0)) (.bin .FloorDiv (.idx (.var 0) (.cst (.int 0))) (.var 1)),
  .ret (.var 2)] [],
  .sub (.var 0) (.cst (.int 2)) (.bin .Add (.idx (.var 0) (.cst (.int 2))) (.cst (.int 1))),
  .asg 3 (.bin .Mod (.bi .int [.bin .Mult (.bin .Add (.idx (.var 0) (.cst (.int 1))) (.bin .Mult (.cst (.int 48271)) (.idx (.var 0) (.cst (.int 2))))) (.bin .Add (.cst (.int 39373)) (.idx (.var 0) (.cst (.int 2))))]) (.cst (.int 2147483647))),
  .asg 4 (.bin .Add (.bin .Mod (.bi .int [.var 3]) (.cst (.int 40009))) (.cst (.int 7))),
  .asg 5 (.bin .Mod (.bi .int [.bin .Mult (.bin .Add (.bin .Add (.var 3) (.idx (.var 0) (.cst (.int 2)))) (.bin .FloorDiv (.idx (.var 0) (.cst (.int 1))) (.cst (.int 1000003)))) (.var 4)]) (.cst (.int 2147483629))),
  .ret (.bin .Mod (.bi .int [.bin .FloorDiv (.bin .Mod (.bi .int [.bin .Add (.bin .Mult (.var 5) (.cst (.int 48271))) (.var 3)]) (.cst (.int 2147483587))) (.cst (.int 64))]) (.var 1))]
def b_l_cells : List S := [.asg 2 (.or (.listC .val [.sli (.var 0) [] [.var 1]]) (.lstC [.cst (.int 0)])),
  .fr (.many [3, 4]) (.enumerate) [.sli (.var 0) [.var 1] [.cst (.int 63)]] [.asg 5 (.bin .Mod (.bi .int [.var 3]) (.var 1)),
  .sub (.var 2) (.var 5) (.bin .Add (.idx (.var 2) (.var 5)) (.bin .Mult (.var 4) (.bin .Add (.var 3) (.cst (.int 2)))))],
  .ret (.var 2)]
def b_l_of : List S := [.ret (.idx (.var 1) (.call .l_take [.var 0, .bi .len [.var 1]]))]
def b_l_same : List S := [.ife (.isi (.var 1) [.list, .tuple] true) [.ife (.or (.cmp .NotEq (.isi (.var 0) [.list] false) (.isi (.var 1) [.list] false)) (.cmp .NotEq (.isi (.var 0) [.tuple] false) (.isi (.var 1) [.tuple] false))) [.ret (.cst (.bl false))] [],
  .ret (.and (.cmp .Eq (.bi .len [.var 0]) (.bi .len [.var 1])) (.bi .all [.lc (.call .l_same [.var 2, .var 3]) (.many [2, 3]) (.zip) [.var 0, .var 1] [] [2, 3]]))] [],
  .ife (.cmp .Is (.var 1) (.cst .non)) [.ret (.cmp .Is (.var 0) (.cst .non))] [],
  .ife (.isi (.var 1) [.bool, .str] true) [.ret (.and (.cmp .Eq (.isi (.var 0) [.bool] false) (.isi (.var 1) [.bool] false)) (.and (.cmp .Eq (.isi (.var 0) [.str] false) (.isi (.var 1) [.str] false)) (.cmp .Eq (.var 0) (.var 1))))] [],
  .ret (.and (.isi (.var 0) [.int] false) (.and (.not (.isi (.var 0) [.bool] false)) (.cmp .Eq (.var 0) (.var 1))))]
def b_l_two : List S := [.ret (.bin .LShift (.cst (.int 1)) (.var 0))]
def b_l_divisor : List S := [.asg 2 (.bin .Sub (.call .l_two [.var 1]) (.cst (.int 1))),
  .asg 3 (.call .l_of [.var 0, .lst [.bin .Add (.cst (.int 1)) (.call .l_take [.var 0, .cst (.int 20)]), .bin .Add (.cst (.int 1)) (.call .l_take [.var 0, .var 2]), .bin .Sub (.var 2) (.call .l_take [.var 0, .cst (.int 10)]), .bin .Sub (.bin .Add (.call .l_two [.call .l_take [.var 0, .var 1]]) (.call .l_take [.var 0, .cst (.int 3)])) (.cst (.int 1)), .bin .Add (.cst (.int 1)) (.call .l_take [.var 0, .cst (.int 1000)])]]),
  .ret (.bi .max [.cst (.int 1), .bi .min [.var 3, .var 2]])]
def b_law_k08 : List S := [.asg 1 (.call .l_box [.call .l_cells [.var 0, .cst (.int 1)], .cst (.int 0)]),
  .asg 2 (.bin .Add (.cst (.int 1)) (.call .l_take [.var 1, .cst (.int 9)])),
  .unp [3, 4] (.tup [.call .l_divisor [.var 1, .var 2], .call .l_two [.var 2]]),
  .unp [5, 6] (.call .l_twos [.var 3]),
  .asg 7 (.bin .FloorDiv (.bin .Sub (.var 4) (.cst (.int 1))) (.var 3)),
  .ife (.not (.call .l_same [.callk .multiple_test [] [.var 2, .var 3], .tup [.call .l_inverse [.var 2, .var 6], .var 5, .var 7]])) [.ret (.cst (.bl false))] [],
  .asg 8 (.lc (.callk .led_to [] [.var 2, .var 3, .var 12]) (.one 12) (.range) [.var 4] [] [12]),
  .ife (.or (.cmp .NotEq (.bi .sorted [.var 8]) (.listV (.range) [.var 4])) (.cmp .NotEq (.lc (.var 12) (.one 12) (.range) [.var 4] [.or (.cmp .NotEq (.cmp .LtE (.idx (.var 8) (.var 12)) (.var 7)) (.cmp .Eq (.bin .Mod (.var 12) (.var 3)) (.cst (.int 0)))) (.and (.cmp .Eq (.bin .Mod (.var 12) (.var 3)) (.cst (.int 0))) (.cmp .NotEq (.idx (.var 8) (.var 12)) (.bin .FloorDiv (.var 12) (.var 3))))] [12]) (.lst []))) [.ret (.cst (.bl false))] [],
  .ife (.cmp .NotEq (.lc (.var 12) (.one 12) (.range) [.var 4] [.cmp .NotEq (.callk .is_multiple [] [.var 2, .var 3, .var 12]) (.cmp .Eq (.bin .Mod (.var 12) (.var 3)) (.cst (.int 0)))] [12]) (.lst [])) [.ret (.cst (.bl false))] [],
  .asg 9 (.call .l_take [.var 1, .var 3]),
  .ife (.cmp .NotEq (.lc (.var 12) (.one 12) (.range) [.var 4] [.cmp .NotEq (.callk .leaves [] [.var 2, .var 3, .var 9, .var 12]) (.cmp .Eq (.bin .Mod (.var 12) (.var 3)) (.var 9))] [12]) (.lst [])) [.ret (.cst (.bl false))] [],
  .fr (.one 10) (.range) [.cst (.int 4)] [.asg 2 (.call .l_wide [.var 1]),
  .unp [3, 4] (.tup [.call .l_divisor [.var 1, .var 2], .call .l_two [.var 2]]),
  .unp [5, 6] (.call .l_twos [.var 3]),
  .asg 7 (.bin .FloorDiv (.bin .Sub (.var 4) (.cst (.int 1))) (.var 3)),
  .asg 11 (.call .l_take [.var 1, .bin .Add (.var 7) (.cst (.int 1))]),
  .fr (.one 12) .val [.bin .Add (.lc (.call .l_take [.var 1, .var 4]) (.one 15) (.range) [.cst (.int 4)] [] [15]) (.lst [.bin .Mult (.var 11) (.var 3), .bi .min [.bin .Sub (.var 4) (.cst (.int 1)), .bin .Add (.bin .Mult (.var 11) (.var 3)) (.cst (.int 1))], .bin .Sub (.var 4) (.cst (.int 1)), .cst (.int 0)])] [.asg 13 (.call .l_led [.var 2, .var 3, .var 12]),
  .asg 14 (.lst [.callk .led_to [] [.var 2, .var 3, .var 12], .callk .led_back [] [.var 2, .var 3, .var 13], .callk .is_multiple [] [.var 2, .var 3, .var 12]]),
  .ife (.or (.not (.call .l_same [.var 14, .lst [.var 13, .var 12, .cmp .Eq (.bin .Mod (.var 12) (.var 3)) (.cst (.int 0))]])) (.cmp .NotEq (.cmp .LtE (.var 13) (.var 7)) (.cmp .Eq (.bin .Mod (.var 12) (.var 3)) (.cst (.int 0))))) [.ret (.cst (.bl false))] [],
  .asg 9 (.call .l_of [.var 1, .lst [.bin .Mod (.var 12) (.var 3), .call .l_take [.var 1, .var 3]]]),
  .ife (.not (.call .l_same [.callk .leaves [] [.var 2, .var 3, .var 9, .var 12], .cmp .Eq (.bin .Mod (.var 12) (.var 3)) (.var 9)])) [.ret (.cst (.bl false))] []],
  .ife (.not (.call .l_same [.lst [.call .led_to [.var 2, .var 3, .bin .Mult (.var 11) (.var 3)], .callk .multiple_at [] [.var 2, .var 3, .var 11], .call .multiple_test [.var 2, .var 3]], .lst [.var 11, .bin .Mult (.var 11) (.var 3), .tup [.call .l_inverse [.var 2, .var 6], .var 5, .var 7]]])) [.ret (.cst (.bl false))] [],
  .ife (.not (.call .l_same [.call .led_to [.var 2, .var 3, .call .led_back [.var 2, .var 3, .bin .Sub (.var 4) (.cst (.int 1))]], .bin .Sub (.var 4) (.cst (.int 1))])) [.ret (.cst (.bl false))] []],
  .ret (.cst (.bl true))]
def b_l_wide : List S := [.ret (.call .l_of [.var 0, .lst [.cst (.int 8), .cst (.int 16), .cst (.int 32), .cst (.int 64), .bin .Add (.cst (.int 1)) (.call .l_take [.var 0, .cst (.int 64)]), .bin .Add (.cst (.int 1)) (.call .l_take [.var 0, .cst (.int 12)])]])]
def b_l_twos : List S := [.asg 1 (.cst (.int 0)),
  .fr (.one 2) (.range) [.cst (.int 70)] [.ife (.cmp .Eq (.bin .Mod (.var 0) (.cst (.int 2))) (.cst (.int 1))) [.brk] [],
  .par [0, 1] [.bin .FloorDiv (.var 0) (.cst (.int 2)), .bin .Add (.var 1) (.cst (.int 1))]],
  .ret (.tup [.var 1, .var 0])]
def b_turned_in : List S := [.asg 3 (.bin .Mod (.var 2) (.var 0)),
  .ret (.bin .BitOr (.bin .RShift (.var 1) (.var 3)) (.bin .BitAnd (.bin .LShift (.var 1) (.bin .Sub (.var 0) (.var 3))) (.call .top_in [.var 0])))]
def b_twos_in : List S := [.par [1, 2] [.cst (.int 0), .var 0],
  .wh (.cmp .Eq (.bin .Mod (.var 2) (.cst (.int 2))) (.cst (.int 0))) [.par [1, 2] [.bin .Add (.var 1) (.cst (.int 1)), .bin .FloorDiv (.var 2) (.cst (.int 2))]],
  .ret (.tup [.var 1, .var 2])]
def b_steps_in : List S := [.par [2, 3] [.lstC [.cst (.int 1)], .cst (.int 1)],
  .wh (.cmp .Lt (.var 3) (.var 0)) [.asg 3 (.bi .min [.bin .Mult (.cst (.int 2)) (.var 3), .var 0]),
  .app (.var 2) (.bin .Mod (.bin .Mult (.idx (.var 2) (.neg (.cst (.int 1)))) (.bin .Sub (.cst (.int 2)) (.bin .Mult (.var 1) (.idx (.var 2) (.neg (.cst (.int 1))))))) (.bin .LShift (.cst (.int 1)) (.var 3)))],
  .ret (.var 2)]
def b_inverse_in : List S := [.ret (.idx (.call .steps_in [.var 0, .var 1]) (.neg (.cst (.int 1))))]
def b_l_inverse : List S := [.asg 2 (.cst (.int 0)),
  .fr (.one 3) (.range) [.var 0] [.ife (.cmp .NotEq (.bin .Mod (.bin .RShift (.bin .Mult (.var 2) (.var 1)) (.var 3)) (.cst (.int 2))) (.ite (.cmp .Eq (.var 3) (.cst (.int 0))) (.cst (.int 1)) (.cst (.int 0)))) [.asg 2 (.bin .Add (.var 2) (.call .l_two [.var 3]))] []],
  .ret (.bin .Mod (.var 2) (.call .l_two [.var 0]))]
def b_l_rolled : List S := [.asg 3 (.cst (.int 0)),
  .fr (.one 4) (.range) [.var 0] [.asg 3 (.bin .Add (.var 3) (.bin .Mult (.bin .BitAnd (.bin .RShift (.var 1) (.bin .Mod (.bin .Add (.var 4) (.var 2)) (.var 0))) (.cst (.int 1))) (.call .l_two [.var 4])))],
  .ret (.var 3)]
def b_test_in : List S := [.unp [2, 3] (.call .twos_in [.var 1]),
  .ret (.tup [.call .inverse_in [.var 0, .var 3], .var 2, .bin .FloorDiv (.call .top_in [.var 0]) (.var 1)])]
def b_product_in : List S := [.unp [3, 4, 5] (.call .test_in [.var 0, .var 1]),
  .ret (.call .turned_in [.var 0, .bin .BitAnd (.bin .Mult (.var 2) (.var 3)) (.call .top_in [.var 0]), .var 4])]
def b_back_in : List S := [.unp [3, 4] (.call .twos_in [.var 1]),
  .ret (.bin .BitAnd (.bin .Mult (.call .turned_in [.var 0, .var 2, .bin .Sub (.var 0) (.var 3)]) (.var 4)) (.call .top_in [.var 0]))]
def b_sure_both : List S := [.asg 3 (.call .sure_width [.var 0]),
  .asg 4 (.call .sure_divisor [.var 3, .var 1]),
  .ret (.tup [.var 3, .var 4, .call .sure_word [.var 3, .var 2]])]
def b_multiple_test : List S := [.asg 2 (.call .sure_width [.var 0]),
  .ret (.call .test_in [.var 2, .call .sure_divisor [.var 2, .var 1]])]
def b_led_to : List S := [.unp [3, 4, 5] (.call .sure_both [.var 0, .var 1, .var 2]),
  .ret (.call .product_in [.var 3, .var 4, .var 5])]
def b_led_back : List S := [.unp [3, 4, 5] (.call .sure_both [.var 0, .var 1, .var 2]),
  .ret (.call .back_in [.var 3, .var 4, .var 5])]
def b_is_multiple : List S := [.unp [3, 4, 5] (.call .sure_both [.var 0, .var 1, .var 2]),
  .ret (.cmp .LtE (.call .product_in [.var 3, .var 4, .var 5]) (.idx (.call .test_in [.var 3, .var 4]) (.cst (.int 2))))]
def b_leaves : List S := [.asg 4 (.call .sure_width [.var 0]),
  .asg 5 (.call .sure_divisor [.var 4, .var 1]),
  .asg 6 (.call .sure_within [.var 2, .cst (.int 0), .bin .Sub (.var 5) (.cst (.int 1))]),
  .asg 7 (.call .sure_word [.var 4, .var 3]),
  .ife (.cmp .Lt (.var 7) (.var 6)) [.ret (.cst (.bl false))] [],
  .ret (.cmp .LtE (.call .product_in [.var 4, .var 5, .bin .Sub (.var 7) (.var 6)]) (.bin .FloorDiv (.call .top_in [.var 4]) (.var 5)))]
def b_multiple_at : List S := [.asg 3 (.call .sure_width [.var 0]),
  .asg 4 (.call .sure_divisor [.var 3, .var 1]),
  .ret (.call .back_in [.var 3, .var 4, .call .sure_within [.var 2, .cst (.int 0), .bin .FloorDiv (.call .top_in [.var 3]) (.var 4)]])]
def b_l_led : List S := [.unp [3, 4] (.call .l_twos [.var 1]),
  .ret (.call .l_rolled [.var 0, .bin .Mod (.bin .Mult (.var 2) (.call .l_inverse [.var 0, .var 4])) (.call .l_two [.var 0]), .var 3])]
def tbl : F → Fn
  | .is_number => ⟨1, 1, false, b_is_number⟩
  | .is_within => ⟨3, 3, false, b_is_within⟩
  | .sure_within => ⟨3, 3, false, b_sure_within⟩
  | .sure_width => ⟨1, 1, false, b_sure_width⟩
  | .top_in => ⟨1, 1, false, b_top_in⟩
  | .sure_word => ⟨2, 2, false, b_sure_word⟩
  | .sure_divisor => ⟨2, 2, false, b_sure_divisor⟩
  | .l_box => ⟨2, 3, true, b_l_box⟩
  | .l_take => ⟨2, 6, false, b_l_take⟩
  | .l_cells => ⟨2, 6, false, b_l_cells⟩
  | .l_of => ⟨2, 2, false, b_l_of⟩
  | .l_same => ⟨2, 4, false, b_l_same⟩
  | .l_two => ⟨1, 1, false, b_l_two⟩
  | .l_divisor => ⟨2, 4, false, b_l_divisor⟩
  | .law_k08 => ⟨1, 16, false, b_law_k08⟩
  | .l_wide => ⟨1, 1, false, b_l_wide⟩
  | .l_twos => ⟨1, 3, false, b_l_twos⟩
  | .turned_in => ⟨3, 4, false, b_turned_in⟩
  | .twos_in => ⟨1, 3, false, b_twos_in⟩
  | .steps_in => ⟨2, 4, false, b_steps_in⟩
  | .inverse_in => ⟨2, 2, false, b_inverse_in⟩
  | .l_inverse => ⟨2, 4, false, b_l_inverse⟩
  | .l_rolled => ⟨3, 5, false, b_l_rolled⟩
  | .test_in => ⟨2, 4, false, b_test_in⟩
  | .product_in => ⟨3, 6, false, b_product_in⟩
  | .back_in => ⟨3, 5, false, b_back_in⟩
  | .sure_both => ⟨3, 5, false, b_sure_both⟩
  | .multiple_test => ⟨2, 3, false, b_multiple_test⟩
  | .led_to => ⟨3, 6, false, b_led_to⟩
  | .led_back => ⟨3, 6, false, b_led_back⟩
  | .is_multiple => ⟨3, 6, false, b_is_multiple⟩
  | .leaves => ⟨4, 8, false, b_leaves⟩
  | .multiple_at => ⟨3, 5, false, b_multiple_at⟩
  | .l_led => ⟨3, 5, false, b_l_led⟩
end Py
namespace Py
open PySem (Operator CmpOp)
/-! ### answers -/
inductive R (α : Type) where
  | ok (a : α) (st : Store) | exc (c : Xc) (xs : List D) (st : Store) | no
namespace R
def bind {α β : Type} : R α → (α → Store → R β) → R β
  | .ok a st, f => f a st
  | .exc c xs st, _ => .exc c xs st
  | .no, _ => .no
def opt {α : Type} (o : Option α) (st : Store) : R α := match o with
  | some a => .ok a st
  | none => .no
end R
/-- where nothing may be raised -/
def R.calm {α : Type} : R α → R α
  | .ok a st => .ok a st
  | _ => .no
def brR {α : Type} (o : Option Bool) (x y : R α) : R α := match o with
  | some b => if b then x else y
  | none => .no
inductive X where
  | nx (ρ : Fr) (st : Store) | ret (d : D) (st : Store) | brk (ρ : Fr) (st : Store) | cnt (ρ : Fr) (st : Store) | exc (c : Xc) (xs : List D) (ρ : Fr) (st : Store) | no

/-! ### frames -/
def getS : Fr → Nat → Option D
  | [], _ => none
  | x :: _, 0 => x
  | _ :: r, n + 1 => getS r n
def setS : Fr → Nat → D → Fr
  | [], _, _ => []
  | _ :: r, 0, d => some d :: r
  | x :: r, n + 1, d => x :: setS r n d
def delS : Fr → Nat → Fr
  | [], _ => []
  | _ :: r, 0 => none :: r
  | x :: r, n + 1 => x :: delS r n
def wipeS (ρ : Fr) : List Nat → Fr
  | [] => ρ
  | v :: vs => delS (wipeS ρ vs) v
def setMany : Fr → List Nat → List D → Option Fr
  | ρ, [], [] => some ρ
  | ρ, i :: is, d :: ds => setMany (setS ρ i d) is ds
  | _, _, _ => none
def bindT (ρ : Fr) : Tg → D → Option Fr
  | .one i, d => some (setS ρ i d)
  | .many is, .tup ds => setMany ρ is ds
  | .many _, _ => none

/-! ### data -/
/-- plain data (no cell, nothing of the other kinds): what may stand in a list, a tuple -/
def isP : D → Bool
  | .non => true
  | .bl _ => true
  | .int _ => true
  | .str _ => true
  | .tup _ => true
  | .lst _ => true
  | .fn _ => true
  | _ => false
/-- a list that may be read -/
def lstOf (st : Store) : D → Option (List D)
  | .lst xs => some xs
  | .cell k => some (st.getD k [])
  | _ => none
def seqOf (st : Store) : D → Option (List D)
  | .lst xs => some xs
  | .tup xs => some xs
  | .cell k => some (st.getD k [])
  | .ro ns => some (ns.map .int)
  | _ => none
mutual
/-- data of none, bools, ints, texts, lists, tuples, not deeper than n -/
def okd : Nat → D → Bool
  | _, .non => true
  | _, .bl _ => true
  | _, .int _ => true
  | _, .str x => x.all (· < 1114112)
  | 0, .lst _ => false
  | 0, .tup _ => false
  | n + 1, .lst xs => okds n xs
  | n + 1, .tup xs => okds n xs
  | _, _ => false
def okds : Nat → List D → Bool
  | _, [] => true
  | n, x :: xs => okd n x && okds n xs
end
mutual
def eqd : D → D → Bool
  | .non, .non => true
  | .bl a, .bl b => a == b
  | .bl a, .int j => decide ((if a then 1 else 0) = j)
  | .int i, .bl b => decide (i = (if b then 1 else 0))
  | .int i, .int j => decide (i = j)
  | .str x, .str y => decide (x = y)
  | .lst xs, .lst ys => eqds xs ys
  | .tup xs, .tup ys => eqds xs ys
  | _, _ => false
def eqds : List D → List D → Bool
  | [], [] => true
  | x :: xs, y :: ys => eqd x y && eqds xs ys
  | _, _ => false
end
def plain (st : Store) : D → D
  | .cell k => .lst (st.getD k [])
  | d => d
def eqS (st : Store) (x y : D) : Option Bool :=
  if okd 20 (plain st x) && okd 20 (plain st y) then some (eqd (plain st x) (plain st y)) else none
def isS : D → D → Option Bool
  | .bl a, .bl b => some (a == b)
  | .bl _, .non => some false
  | .int _, .non => some false
  | .str _, .non => some false
  | .tup _, .non => some false
  | .lst _, .non => some false
  | .cell _, .non => some false
  | .non, .non => some true
  | _, _ => none
def flatD : D → Bool
  | .non => true
  | .bl _ => true
  | .int _ => true
  | .str x => x.all (· < 1114112)
  | _ => false
def strD : D → Option (List Nat)
  | .str x => some x
  | _ => none
def inS (st : Store) (x : D) : D → Option Bool
  | .tup ys => if flatD x && ys.all flatD then some (ys.any fun y => eqd y x) else none
  | .lst ys => if okd 19 x && okds 19 ys then some (ys.any fun y => eqd y x) else none
  | .cell k => if okd 19 x && okds 19 (st.getD k []) then some ((st.getD k []).any fun y => eqd y x) else none
  | .dic ks _ => match x with
    | .str c => some (ks.any fun k => eqd k (.str c))
    | _ => none
  | _ => none
def ltS : D → D → Option Bool
  | .int i, .int j => some (decide (i < j))
  | _, _ => none
def leS : D → D → Option Bool
  | .int i, .int j => some (decide (i ≤ j))
  | _, _ => none
def cmpS (st : Store) : CmpOp → D → D → Option Bool
  | .Eq, x, y => eqS st x y
  | .NotEq, x, y => (eqS st x y).map (!·)
  | .Lt, x, y => ltS x y
  | .LtE, x, y => leS x y
  | .Gt, x, y => ltS y x
  | .GtE, x, y => leS y x
  | .Is, x, y => isS x y
  | .IsNot, x, y => (isS x y).map (!·)
  | .In, x, y => inS st x y
  | .NotIn, x, y => (inS st x y).map (!·)
def truth (st : Store) : D → Option Bool
  | .non => some false
  | .bl b => some b
  | .int i => some (decide (i ≠ 0))
  | .tup xs => some (!xs.isEmpty)
  | .lst xs => some (!xs.isEmpty)
  | .cell k => some (!(st.getD k []).isEmpty)
  | _ => none

def addL (xs ys : List D) : Option D := if xs.length + ys.length ≤ 1000000 then some (.lst (xs ++ ys)) else none
def addS (st : Store) : D → D → Option D
  | .int i, .int j => some (.int (i + j))
  | .str x, .str y => if x.length + y.length ≤ 1000000 then some (.str (x ++ y)) else none
  | .tup xs, .tup ys => if xs.length + ys.length ≤ 1000000 then some (.tup (xs ++ ys)) else none
  | .lst xs, .lst ys => addL xs ys
  | .cell k, .lst ys => addL (st.getD k []) ys
  | .lst xs, .cell j => addL xs (st.getD j [])
  | .cell k, .cell j => addL (st.getD k []) (st.getD j [])
  | _, _ => none
def mulI (i j : Int) : Option D :=
  if (-18446744073709551616 < i ∧ i < 18446744073709551616) ∨ (-18446744073709551616 < j ∧ j < 18446744073709551616) ∨
    (-115792089237316195423570985008687907853269984665640564039457584007913129639936 < i ∧ i < 115792089237316195423570985008687907853269984665640564039457584007913129639936 ∧
     -115792089237316195423570985008687907853269984665640564039457584007913129639936 < j ∧ j < 115792089237316195423570985008687907853269984665640564039457584007913129639936)
  then some (.int (i * j)) else none
def mulS : D → D → Option D
  | .int i, .int j => mulI i j
  | _, _ => none
def divI (i j : Int) : Option D :=
  if 0 < j ∧ j < 115792089237316195423570985008687907853269984665640564039457584007913129639936 then some (.int (i / j)) else none
def modI (i j : Int) : Option D := if 0 < j then some (.int (i % j)) else none
def shlI (i j : Int) : Option D := if 0 ≤ j ∧ j ≤ 1000000 ∧ -18446744073709551616 < i ∧ i < 18446744073709551616 then some (.int (i * 2 ^ j.toNat)) else none
def shrI (i j : Int) : Option D := if 0 ≤ j then some (.int (i / 2 ^ j.toNat)) else none
def powI (i j : Int) : Option D := if 0 ≤ j ∧ j ≤ 1000000 ∧ -18446744073709551616 < i ∧ i < 18446744073709551616 then some (.int (i ^ j.toNat)) else none
def binI (f : Int → Int → Option D) : D → D → Option D
  | .int i, .int j => f i j
  | _, _ => none
def binS (st : Store) : Operator → D → D → Option D
  | .Add, x, y => addS st x y
  | .Sub, x, y => binI (fun i j => some (.int (i - j))) x y
  | .Mult, x, y => mulS x y
  | .FloorDiv, x, y => binI divI x y
  | .Mod, x, y => binI modI x y
  | .LShift, x, y => binI shlI x y
  | .RShift, x, y => binI shrI x y
  | .BitAnd, x, y => binI (fun i j => some (.int (PySem.Builtin.bitAnd i j))) x y
  | .BitOr, x, y => binI (fun i j => some (.int (PySem.Builtin.bitOr i j))) x y
  | .Pow, x, y => binI powI x y
  | _, _, _ => none
def negS : D → Option D
  | .int i => some (.int (-i))
  | _ => none

def atD {α : Type} (xs : List α) (i : Int) : Option α :=
  if 0 ≤ i then xs[i.toNat]? else if -(xs.length : Int) ≤ i then xs[(i + xs.length).toNat]? else none
def idxS (st : Store) : D → D → Option D
  | .lst xs, .int i => atD xs i
  | .tup xs, .int i => atD xs i
  | .cell k, .int i => atD (st.getD k []) i
  | .ro ns, .int i => (atD ns i).map .int
  | .dic ks vs, .str c => ((ks.zip vs).find? fun p => eqd p.1 (.str c)).map (·.2)
  | _, _ => none
def sIx (n d : Nat) : Option Int → Nat
  | none => d
  | some v => if v < 0 then (v + (n : Int)).toNat else min v.toNat n
def cut {α : Type} (xs : List α) (lo hi : Option Int) : List α := (xs.drop (sIx xs.length 0 lo)).take (sIx xs.length xs.length hi - sIx xs.length 0 lo)
def sliS (st : Store) (lo hi : Option Int) : D → Option D
  | .lst xs => some (.lst (cut xs lo hi))
  | .cell k => some (.lst (cut (st.getD k []) lo hi))
  | .ro ns => some (.lst (cut (ns.map .int) lo hi))
  | .tup xs => some (.tup (cut xs lo hi))
  | _ => none
def revS (st : Store) : D → Option D
  | .lst xs => some (.lst xs.reverse)
  | .cell k => some (.lst (st.getD k []).reverse)
  | _ => none
def partI : List D → Option (Option Int)
  | [] => some none
  | [.int i] => some (some i)
  | _ => none

def isTy : D → Ty → Bool
  | .int _, .int => true
  | .bl _, .int => true
  | .bl _, .bool => true
  | .str _, .str => true
  | .lst _, .list => true
  | .cell _, .list => true
  | .ro _, .list => true
  | .tup _, .tuple => true
  | _, _ => false
def tyOk : D → Bool
  | .fn _ => false
  | .dic _ _ => false
  | .dks _ => false
  | .set _ => false
  | .exc _ _ => false
  | _ => true

def ins (x : Int) : List Int → List Int
  | [] => [x]
  | y :: ys => if x ≤ y then x :: y :: ys else y :: ins x ys
def srt : List Int → List Int
  | [] => []
  | x :: xs => ins x (srt xs)
/-- sorted, no two alike -/
def insU (x : Int) : List Int → List Int
  | [] => [x]
  | y :: ys => if x < y then x :: y :: ys else if x = y then y :: ys else y :: insU x ys
def srtU : List Int → List Int
  | [] => []
  | x :: xs => insU x (srtU xs)
def intsOf : List D → Option (List Int)
  | [] => some []
  | .int i :: r => (intsOf r).map (i :: ·)
  | _ :: _ => none
def blsOf : List D → Option (List Bool)
  | [] => some []
  | .bl b :: r => (blsOf r).map (b :: ·)
  | _ :: _ => none
/-- keys in the order in which they come -/
def keysOf (ns : List Int) : List Int := ns.foldl (fun acc n => if acc.contains n then acc else acc ++ [n]) []
/-- pairs (an int, an int) -/
def pairsOf : List D → Option (List Int)
  | [] => some []
  | .tup [.int i, .int _] :: r => (pairsOf r).map (i :: ·)
  | _ :: _ => none
def biS (st : Store) : Bi → List D → Option D
  | .len, [d] => (seqOf st d).map fun xs => .int xs.length
  | .abs, [.int i] => some (.int (i.natAbs : Int))
  | .int, [.int i] => some (.int i)
  | .int, [.bl b] => some (.int (if b then 1 else 0))
  | .min, [.int i, .int j] => some (.int (min i j))
  | .max, [.int i, .int j] => some (.int (max i j))
  | .min, [.int i, .int j, .int k] => some (.int (min i (min j k)))
  | .max, [d] => (lstOf st d).bind fun xs => (intsOf xs).bind fun ns => match ns with
    | [] => none
    | n :: ns => some (.int (ns.foldl max n))
  | .sum, [d] => (lstOf st d).bind fun xs => (intsOf xs).map fun ns => .int ns.sum
  | .all, [d] => (lstOf st d).bind fun xs => (blsOf xs).map fun bs => .bl (bs.all id)
  | .any, [d] => (lstOf st d).bind fun xs => (blsOf xs).map fun bs => .bl (bs.any id)
  | .tuple, [.tup xs] => some (.tup xs)
  | .tuple, [d] => (lstOf st d).map .tup
  | .sorted, [.set ks] => if ks.length < 64 then some (.lst (ks.map .int)) else none
  | .sorted, [.dks ks] => if ks.length < 64 then some (.lst ((srt ks).map .int)) else none
  | .sorted, [d] => (lstOf st d).bind fun xs => (intsOf xs).map fun ns => .lst ((srt ns).map .int)
  | .set, [d] => (lstOf st d).bind fun xs => if xs.length < 64 then (intsOf xs).map fun ns => .set (srtU ns) else none
  | .dict, [d] => (lstOf st d).bind fun xs => if xs.length < 64 then (pairsOf xs).map fun ns => .dks (keysOf ns) else none
  | _, _ => none

/-! ### what is walked -/
inductive Sv where
  | l (xs : List D) | c (k : Nat) | z (a b : Sv) | en (a : Sv)
def Sv.at (st : Store) : Sv → Nat → Option D
  | .l xs, i => xs[i]?
  | .c k, i => (st.getD k [])[i]?
  | .z a b, i => match a.at st i, b.at st i with
    | some x, some y => some (.tup [x, y])
    | _, _ => none
  | .en a, i => (a.at st i).map fun x => .tup [.int i, x]
def svOf : D → Option Sv
  | .lst xs => some (.l xs)
  | .tup xs => some (.l xs)
  | .ro ns => some (.l (ns.map .int))
  | .cell k => some (.c k)
  | _ => none
/-- zip's, enumerate's arguments: lists | tuples -/
def zipS : D → D → Option Sv
  | .lst xs, .lst ys => some (.l (List.zipWith (fun x y => .tup [x, y]) xs ys))
  | .tup xs, .tup ys => some (.l (List.zipWith (fun x y => .tup [x, y]) xs ys))
  | .cell k, .lst ys => some (.z (.c k) (.l ys))
  | .lst xs, .cell j => some (.z (.l xs) (.c j))
  | .cell k, .cell j => some (.z (.c k) (.c j))
  | _, _ => none
def enumFrom (n : Nat) : List D → List D
  | [] => []
  | x :: xs => .tup [.int n, x] :: enumFrom (n + 1) xs
def rangeL (a : Int) (n : Nat) : List D := (List.range n).map fun (i : Nat) => .int (a + (i : Int))
def rangeC (a c : Int) (n : Nat) : List D := (List.range n).map fun (i : Nat) => .int (a + (i : Int) * c)
def srcS (st : Store) : Sk → List D → Option Sv
  | .val, [d] => svOf d
  | .range, [.int b] => if -1000000 ≤ b ∧ b ≤ 1000000 then some (.l (rangeL 0 b.toNat)) else none
  | .range, [.int a, .int b] => if -1000000000000000000 ≤ a ∧ a ≤ 1000000000000000000 ∧ b ≤ a + 1000000 ∧ -1000000000000000000 ≤ b then some (.l (rangeL a (b - a).toNat)) else none
  | .range, [.int a, .int b, .int c] => if -1000000000 ≤ a ∧ a ≤ b ∧ b ≤ a + 1000000 ∧ b ≤ 1000000000 ∧ 0 < c ∧ c ≤ 1000000000 then some (.l (rangeC a c ((b - a + c - 1) / c).toNat)) else none
  | .zip, [x, y] => zipS x y
  | .enumerate, [.lst xs] => some (.l (enumFrom 0 xs))
  | .enumerate, [.cell k] => some (.en (.c k))
  | _, _ => none

def svL (st : Store) : Sv → Option (List D)
  | .l xs => if xs.length ≤ 1000000 then some xs else none
  | .c j => some (st.getD j [])
  | _ => none
/-! ### loops -/
def forL (f : D → Fr → Store → X) : List D → Fr → Store → X
  | [], ρ, st => .nx ρ st
  | d :: ds, ρ, st => match f d ρ st with
    | .nx ρ' st' => forL f ds ρ' st'
    | .cnt ρ' st' => forL f ds ρ' st'
    | .brk ρ' st' => .nx ρ' st'
    | r => r
def forG (f : D → Fr → Store → X) (sv : Sv) : Nat → Nat → Fr → Store → X
  | 0, _, _, _ => .no
  | n + 1, i, ρ, st => match sv.at st i with
    | none => .nx ρ st
    | some d => match f d ρ st with
      | .nx ρ' st' => forG f sv n (i + 1) ρ' st'
      | .cnt ρ' st' => forG f sv n (i + 1) ρ' st'
      | .brk ρ' st' => .nx ρ' st'
      | r => r
def forS (f : D → Fr → Store → X) (ρ : Fr) (st : Store) : Sv → X
  | .l xs => forL f xs ρ st
  | sv => forG f sv 1000001 0 ρ st
/-- a comprehension's own list stands in the store's place n while it is made -/
def lcP (n : Nat) (o : Option D) (st : Store) (f : Store → R (List D)) : R (List D) := match o with
  | some y => if (st.getD n []).length < 1000000 then f (st.set n (st.getD n [] ++ [y])) else .no
  | none => f st
def lcL (f : D → Store → R (Option D)) (n : Nat) : List D → Store → R (List D)
  | [], st => .ok (st.getD n []) (st.take n)
  | d :: ds, st => (f d st).bind fun o st' => lcP n o st' (lcL f n ds)
def lcG (f : D → Store → R (Option D)) (n : Nat) (sv : Sv) : Nat → Nat → Store → R (List D)
  | 0, _, _ => .no
  | j + 1, i, st => match sv.at st i with
    | none => .ok (st.getD n []) (st.take n)
    | some d => (f d st).bind fun o st' => lcP n o st' (lcG f n sv j (i + 1))
def lcS (f : D → Store → R (Option D)) (st : Store) : Sv → R (List D)
  | .l xs => lcL f st.length xs (st ++ [[]])
  | sv => lcG f st.length sv 1000001 0 (st ++ [[]])
def whG (c : Fr → Store → R Bool) (f : Fr → Store → X) : Nat → Fr → Store → X
  | 0, _, _ => .no
  | n + 1, ρ, st => match c ρ st with
    | .ok true st' => match f ρ st' with
      | .nx ρ' st'' => whG c f n ρ' st''
      | .cnt ρ' st'' => whG c f n ρ' st''
      | .brk ρ' st'' => .nx ρ' st''
      | r => r
    | .ok false st' => .nx ρ st'
    | .exc e xs st' => .exc e xs ρ st'
    | .no => .no

/-! ### expressions -/
def tsts (ds : List D) : Option Bool := match ds with
  | [] => some true
  | [.bl b] => some b
  | _ => none
mutual
def ev (C : F → List D → Store → R D) : E → Fr → Store → R D
  | .var i, ρ, st => .opt (getS ρ i) st
  | .cst d, _, st => .ok d st
  | .glo g, _, st => .ok g.val st
  | .fnv f, _, st => .ok (.fn f) st
  | .bin op a b, ρ, st => (ev C a ρ st).bind fun x s1 => (ev C b ρ s1).bind fun y s2 => .opt (binS s2 op x y) s2
  | .neg a, ρ, st => (ev C a ρ st).bind fun x s1 => .opt (negS x) s1
  | .not a, ρ, st => (ev C a ρ st).bind fun x s1 => .opt ((truth s1 x).map fun b => .bl (!b)) s1
  | .and a b, ρ, st => (ev C a ρ st).bind fun x s1 => brR (truth s1 x) (ev C b ρ s1) (.ok x s1)
  | .or a b, ρ, st => (ev C a ρ st).bind fun x s1 => brR (truth s1 x) (.ok x s1) (ev C b ρ s1)
  | .cmp op a b, ρ, st => (ev C a ρ st).bind fun x s1 => (ev C b ρ s1).bind fun y s2 => .opt ((cmpS s2 op x y).map .bl) s2
  | .chn op op' a b c, ρ, st => (ev C a ρ st).bind fun x s1 => (ev C b ρ s1).bind fun y s2 =>
    brR (cmpS s2 op x y) ((ev C c ρ s2).bind fun z s3 => .opt ((cmpS s3 op' y z).map .bl) s3) (.ok (.bl false) s2)
  | .chn3 op op' op'' a b c d, ρ, st => (ev C a ρ st).bind fun x s1 => (ev C b ρ s1).bind fun y s2 =>
    brR (cmpS s2 op x y) ((ev C c ρ s2).bind fun z s3 => brR (cmpS s3 op' y z) ((ev C d ρ s3).bind fun w s4 => .opt ((cmpS s4 op'' z w).map .bl) s4) (.ok (.bl false) s3)) (.ok (.bl false) s2)
  | .ite c a b, ρ, st => (ev C c ρ st).bind fun x s1 => brR (truth s1 x) (ev C a ρ s1) (ev C b ρ s1)
  | .tup es, ρ, st => (evs C es ρ st).bind fun ds s1 => if ds.all isP then .ok (.tup ds) s1 else .no
  | .lst es, ρ, st => (evs C es ρ st).bind fun ds s1 => if ds.all isP then .ok (.lst ds) s1 else .no
  | .lstC es, ρ, st => (evs C es ρ st).bind fun ds s1 => if ds.all isP then .ok (.cell s1.length) (s1 ++ [ds]) else .no
  | .idx a i, ρ, st => (ev C a ρ st).bind fun x s1 => (ev C i ρ s1).bind fun y s2 => .opt (idxS s2 x y) s2
  | .sli a lo hi, ρ, st => (ev C a ρ st).bind fun x s1 => ((evs C lo ρ s1).bind fun l s => .opt (partI l) s).bind fun lo s2 => ((evs C hi ρ s2).bind fun h s => .opt (partI h) s).bind fun hi s3 =>
    .opt (sliS s3 lo hi x) s3
  | .rev a, ρ, st => (ev C a ρ st).bind fun x s1 => .opt (revS s1 x) s1
  | .call f es, ρ, st => (evs C es ρ st).bind fun ds s1 => C f ds s1
  | .callk f es ks, ρ, st => (evs C es ρ st).bind fun ds s1 => (evs C ks ρ s1).bind fun zs s2 => C f (ds ++ zs) s2
  | .callv i es, ρ, st => match getS ρ i with
    | some (.fn f) => (evs C es ρ st).bind fun ds s1 => C f ds s1
    | _ => .no
  | .bi b es, ρ, st => (evs C es ρ st).bind fun ds s1 => .opt (biS s1 b ds) s1
  | .isi a ts _, ρ, st => (ev C a ρ st).bind fun x s1 => if tyOk x then .ok (.bl (ts.any (isTy x))) s1 else .no
  | .isx a, ρ, st => (ev C a ρ st).bind fun x s1 => match x with
    | .exc c _ => .ok (.bl (decide (c ≠ .NothingDone))) s1
    | _ => .no
  | .lc elt tg k src cond own, ρ, st => (evs C src ρ st).bind fun ds s1 => (R.opt (srcS s1 k ds) s1).bind fun sv s1 => (lcS (fun d s2 => R.calm ((R.opt (bindT (wipeS ρ own) tg d) s2).bind fun ρ1 s2 => ((evs C cond ρ1 s2).bind fun cs s3 => .opt (tsts cs) s3).bind fun t s3 =>
      if t then (ev C elt ρ1 s3).bind fun y s4 => if isP y then .ok (some y) s4 else .no else .ok none s3)) s1 sv).bind fun ys s5 => .ok (.lst ys) s5
  | .listV k src, ρ, st => (evs C src ρ st).bind fun ds s1 => (R.opt (srcS s1 k ds) s1).bind fun sv s1 => (R.opt (svL s1 sv) s1).bind fun xs s1 => .ok (.lst xs) s1
  | .listC k src, ρ, st => (evs C src ρ st).bind fun ds s1 => (R.opt (srcS s1 k ds) s1).bind fun sv s1 => (R.opt (svL s1 sv) s1).bind fun xs s1 => .ok (.cell s1.length) (s1 ++ [xs])
  | .mth _ _ _, _, _ => .no
  | .pop o i, ρ, st => (ev C o ρ st).bind fun x s1 => match x with
    | .cell k => (ev C i ρ s1).bind fun y s2 => match y with
      | .int j => if 0 ≤ j ∧ j < 1000000 then match (s2.getD k [])[j.toNat]? with
          | some d => .ok d (s2.set k ((s2.getD k []).eraseIdx j.toNat))
          | none => .no
        else .no
      | _ => .no
    | _ => .no
termination_by structural e => e
def evs (C : F → List D → Store → R D) : List E → Fr → Store → R (List D)
  | [], _, st => .ok [] st
  | e :: es, ρ, st => (ev C e ρ st).bind fun d s1 => (evs C es ρ s1).bind fun ds s2 => .ok (d :: ds) s2
termination_by structural e => e
end
def tst (C : F → List D → Store → R D) (e : E) (ρ : Fr) (st : Store) : R Bool := (ev C e ρ st).bind fun x s1 => .opt (truth s1 x) s1

/-! ### statements -/
def R.st {α : Type} (r : R α) (ρ : Fr) (f : α → Store → X) : X := match r with
  | .ok a st => f a st
  | .exc c xs st => .exc c xs ρ st
  | .no => .no
def X.seq (x : X) (f : Fr → Store → X) : X := match x with
  | .nx ρ st => f ρ st
  | x => x
def X.opt {α : Type} (o : Option α) (f : α → X) : X := match o with
  | some a => f a
  | none => .no
mutual
def ex (C : F → List D → Store → R D) : S → Fr → Store → X
  | .asg i e, ρ, st => (ev C e ρ st).st ρ fun d s1 => .nx (setS ρ i d) s1
  | .unp is e, ρ, st => (ev C e ρ st).st ρ fun d s1 => match d with
    | .tup ds => .opt (setMany ρ is ds) fun ρ' => .nx ρ' s1
    | _ => .no
  | .par is es, ρ, st => (evs C es ρ st).st ρ fun ds s1 => .opt (setMany ρ is ds) fun ρ' => .nx ρ' s1
  | .sub o i e, ρ, st => (ev C e ρ st).st ρ fun d s1 => (ev C o ρ s1).st ρ fun x s2 => (ev C i ρ s2).st ρ fun y s3 => match x, y with
    | .cell k, .int j => if isP d then
        if 0 ≤ j then (if j.toNat < (s3.getD k []).length then .nx ρ (s3.set k ((s3.getD k []).set j.toNat d)) else .no)
        else if -((s3.getD k []).length : Int) ≤ j then .nx ρ (s3.set k ((s3.getD k []).set (j + (s3.getD k []).length).toNat d)) else .no
      else .no
    | _, _ => .no
  | .aug i op e, ρ, st => X.opt (getS ρ i) fun x => (ev C e ρ st).st ρ fun y s1 => match op, x, y with
    | .Add, .int a, .int b => .nx (setS ρ i (.int (a + b))) s1
    | .Sub, .int a, .int b => .nx (setS ρ i (.int (a - b))) s1
    | _, _, _ => .no
  | .app o e, ρ, st => (ev C o ρ st).st ρ fun x s1 => match x with
    | .cell k => (ev C e ρ s1).st ρ fun d s2 => if isP d && decide ((s2.getD k []).length < 1000000) then .nx ρ (s2.set k (s2.getD k [] ++ [d])) else .no
    | _ => .no
  | .ext o e, ρ, st => (ev C o ρ st).st ρ fun x s1 => match x with
    | .cell k => (ev C e ρ s1).st ρ fun d s2 => match d with
      | .lst ys => if (s2.getD k []).length + ys.length ≤ 1000000 then .nx ρ (s2.set k (s2.getD k [] ++ ys)) else .no
      | _ => .no
    | _ => .no
  | .ret e, ρ, st => (ev C e ρ st).st ρ fun d s1 => .ret d s1
  | .retN, _, st => .ret .non st
  | .ife c a b, ρ, st => (tst C c ρ st).st ρ fun t s1 => if t then exs C a ρ s1 else exs C b ρ s1
  | .fr tg k src body, ρ, st => (evs C src ρ st).st ρ fun ds s1 => X.opt (srcS s1 k ds) fun sv =>
    forS (fun d ρ1 s2 => X.opt (bindT ρ1 tg d) fun ρ2 => exs C body ρ2 s2) ρ s1 sv
  | .wh c body, ρ, st => whG (fun ρ1 s1 => tst C c ρ1 s1) (fun ρ1 s1 => exs C body ρ1 s1) 1000000 ρ st
  | .brk, ρ, st => .brk ρ st
  | .cnt, ρ, st => .cnt ρ st
  | .pas, ρ, st => .nx ρ st
  | .drop e, ρ, st => (ev C e ρ st).st ρ fun _ s1 => .nx ρ s1
  | .rse c es, ρ, st => (evs C es ρ st).st ρ fun ds s1 => .exc c ds ρ s1
  | .tri body c i h, ρ, st => match exs C body ρ st with
    | .exc c' xs ρ' st' => if c' = c then (match exs C h (setS ρ' i (.exc c' xs)) st' with
        | .nx ρ'' st'' => .nx (delS ρ'' i) st''
        | r => r) else .exc c' xs ρ' st'
    | r => r
termination_by structural s => s
def exs (C : F → List D → Store → R D) : List S → Fr → Store → X
  | [], ρ, st => .nx ρ st
  | s :: r, ρ, st => (ex C s ρ st).seq fun ρ' st' => exs C r ρ' st'
termination_by structural s => s
end

/-! ### calls -/
def frz (n : Nat) (st : Store) : D → D
  | .cell k => if k < n then .cell k else .lst (st.getD k [])
  | d => d
def fin (raw : Bool) (n : Nat) (d : D) (st : Store) : R D :=
  if raw then .ok d st else .ok (frz n st d) (st.take n)
def empties : Nat → Fr
  | 0 => []
  | n + 1 => none :: empties n
def X.fin (raw : Bool) (n : Nat) (x : X) : R D := match x with
  | .ret d st' => Py.fin raw n d st'
  | .nx _ st' => Py.fin raw n .non st'
  | .exc c xs _ st' => .exc c xs (st'.take n)
  | _ => .no
def run (C : F → List D → Store → R D) (f : Fn) (ds : List D) (st : Store) : R D :=
  if ds.length = f.np then (exs C f.body (ds.map some ++ empties (f.ns - f.np)) st).fin f.raw st.length else .no
def call : Nat → F → List D → Store → R D
  | 0, _, _, _ => .no
  | k + 1, f, ds, st => run (call k) (tbl f) ds st
end Py

namespace Py
open PySem (Operator CmpOp)
section
variable {α β : Type} {C : F → List D → Store → R D} {ρ : Fr} {st s1 : Store}
theorem bind_ok (a : α) (f : α → Store → R β) : (R.ok a st).bind f = f a st := rfl
theorem bind_no (f : α → Store → R β) : (R.no : R α).bind f = .no := rfl
theorem bind_exc (c xs) (f : α → Store → R β) : (R.exc c xs st : R α).bind f = .exc c xs st := rfl
theorem opt_some (a : α) : R.opt (some a) st = .ok a st := rfl
theorem st_ok (a : α) (f : α → Store → X) : (R.ok a st).st ρ f = f a st := rfl
theorem st_exc (c xs) (f : α → Store → X) : (R.exc c xs st : R α).st ρ f = .exc c xs ρ st := rfl
theorem xopt_some (a : α) (f : α → X) : X.opt (some a) f = f a := rfl
theorem seq_nx (f : Fr → Store → X) : (X.nx ρ st).seq f = f ρ st := rfl
theorem seq_ret (d : D) (f : Fr → Store → X) : (X.ret d st).seq f = .ret d st := rfl
theorem seq_brk (f : Fr → Store → X) : (X.brk ρ st).seq f = .brk ρ st := rfl
theorem seq_cnt (f : Fr → Store → X) : (X.cnt ρ st).seq f = .cnt ρ st := rfl
theorem seq_exc (c xs) (f : Fr → Store → X) : (X.exc c xs ρ st).seq f = .exc c xs ρ st := rfl
theorem seq_ite {p : Prop} [Decidable p] (x y : X) (f : Fr → Store → X) : (if p then x else y).seq f = if p then x.seq f else y.seq f := by split <;> rfl
theorem brR_some (b : Bool) (x y : R α) : brR (some b) x y = if b = true then x else y := rfl
theorem fin_ret {raw n d} : (X.ret d st).fin raw n = fin raw n d st := rfl
theorem fin_nx {raw n} : (X.nx ρ st).fin raw n = fin raw n .non st := rfl
theorem fin_exc {raw n c xs} : (X.exc c xs ρ st).fin raw n = .exc c xs (st.take n) := rfl
theorem fin_ite {raw n} {p : Prop} [Decidable p] (x y : X) : (if p then x else y).fin raw n = if p then x.fin raw n else y.fin raw n := by split <;> rfl
theorem call_succ (k : Nat) (f : F) (ds : List D) : call (k + 1) f ds st = run (call k) (tbl f) ds st := rfl
theorem run_0 (ns raw body) : run C ⟨0, ns, raw, body⟩ [] st = (exs C body ([] ++ empties (ns - 0)) st).fin raw st.length := rfl
theorem run_1 (ns raw body a0) : run C ⟨1, ns, raw, body⟩ [a0] st = (exs C body ([some a0] ++ empties (ns - 1)) st).fin raw st.length := rfl
theorem run_2 (ns raw body a0 a1) : run C ⟨2, ns, raw, body⟩ [a0, a1] st = (exs C body ([some a0, some a1] ++ empties (ns - 2)) st).fin raw st.length := rfl
theorem run_3 (ns raw body a0 a1 a2) : run C ⟨3, ns, raw, body⟩ [a0, a1, a2] st = (exs C body ([some a0, some a1, some a2] ++ empties (ns - 3)) st).fin raw st.length := rfl
theorem run_4 (ns raw body a0 a1 a2 a3) : run C ⟨4, ns, raw, body⟩ [a0, a1, a2, a3] st = (exs C body ([some a0, some a1, some a2, some a3] ++ empties (ns - 4)) st).fin raw st.length := rfl
theorem run_5 (ns raw body a0 a1 a2 a3 a4) : run C ⟨5, ns, raw, body⟩ [a0, a1, a2, a3, a4] st = (exs C body ([some a0, some a1, some a2, some a3, some a4] ++ empties (ns - 5)) st).fin raw st.length := rfl
theorem run_6 (ns raw body a0 a1 a2 a3 a4 a5) : run C ⟨6, ns, raw, body⟩ [a0, a1, a2, a3, a4, a5] st = (exs C body ([some a0, some a1, some a2, some a3, some a4, some a5] ++ empties (ns - 6)) st).fin raw st.length := rfl
theorem run_7 (ns raw body a0 a1 a2 a3 a4 a5 a6) : run C ⟨7, ns, raw, body⟩ [a0, a1, a2, a3, a4, a5, a6] st = (exs C body ([some a0, some a1, some a2, some a3, some a4, some a5, some a6] ++ empties (ns - 7)) st).fin raw st.length := rfl
theorem fin_raw {n d} : fin true n d st = .ok d st := rfl
theorem take_len : st.take st.length = st := List.take_length
theorem take_app (g : Store) : (st ++ g).take st.length = st := by simp
theorem frz_non {n} : frz n st .non = .non := rfl
theorem frz_bl {n b} : frz n st (.bl b) = .bl b := rfl
theorem frz_int {n i} : frz n st (.int i) = .int i := rfl
theorem frz_str {n x} : frz n st (.str x) = .str x := rfl
theorem frz_tup {n xs} : frz n st (.tup xs) = .tup xs := rfl
theorem frz_lst {n xs} : frz n st (.lst xs) = .lst xs := rfl
theorem frz_nc {n d} (h : isP d = true) : frz n st d = d := by cases d <;> first | rfl | cases h
theorem fin_nc {n d} (h : isP d = true) : fin false n d st = .ok d (st.take n) := by unfold fin; rw [frz_nc h]; rfl
theorem fin_non {n } : fin false n .non st = .ok .non (st.take n) := rfl
theorem fin_bl {n b} : fin false n (.bl b) st = .ok (.bl b) (st.take n) := rfl
theorem fin_int {n i} : fin false n (.int i) st = .ok (.int i) (st.take n) := rfl
theorem fin_str {n x} : fin false n (.str x) st = .ok (.str x) (st.take n) := rfl
theorem fin_tup {n xs} : fin false n (.tup xs) st = .ok (.tup xs) (st.take n) := rfl
theorem fin_lst {n xs} : fin false n (.lst xs) st = .ok (.lst xs) (st.take n) := rfl
theorem fin_cell (g : Store) (xs : List D) : fin false st.length (.cell st.length) (st ++ xs :: g) = .ok (.lst xs) st := by simp [fin, frz]
theorem frz_cell (g : Store) (xs : List D) : frz st.length (st ++ xs :: g) (.cell st.length) = .lst xs := by simp [frz]
theorem setMany_nil : setMany ρ [] [] = some ρ := rfl
theorem setMany_cons (i is d ds) : setMany ρ (i :: is) (d :: ds) = setMany (setS ρ i d) is ds := rfl
theorem bindT_one (i d) : bindT ρ (.one i) d = some (setS ρ i d) := rfl
theorem bindT_many (is ds) : bindT ρ (.many is) (.tup ds) = setMany ρ is ds := rfl
theorem getS_zero (x r) : getS (x :: r) 0 = x := rfl
theorem getS_succ (x r n) : getS (x :: r) (n + 1) = getS r n := rfl
theorem setS_zero (x r d) : setS (x :: r) 0 d = some d :: r := rfl
theorem setS_succ (x r n d) : setS (x :: r) (n + 1) d = x :: setS r n d := rfl
theorem delS_zero (x r) : delS (x :: r) 0 = none :: r := rfl
theorem delS_succ (x r n) : delS (x :: r) (n + 1) = x :: delS r n := rfl
theorem wipe_nil : wipeS ρ [] = ρ := rfl
theorem wipe_cons (v vs) : wipeS ρ (v :: vs) = delS (wipeS ρ vs) v := rfl
theorem emp_zero : empties 0 = [] := rfl
theorem emp_succ (n) : empties (n + 1) = none :: empties n := rfl
/- operators -/
theorem add_int (i j) : binS st .Add (.int i) (.int j) = some (.int (i + j)) := rfl
theorem sub_int (i j) : binS st .Sub (.int i) (.int j) = some (.int (i - j)) := rfl
theorem mul_int (i j : Int) (h : (-18446744073709551616 < i ∧ i < 18446744073709551616) ∨ (-18446744073709551616 < j ∧ j < 18446744073709551616) ∨
    (-115792089237316195423570985008687907853269984665640564039457584007913129639936 < i ∧ i < 115792089237316195423570985008687907853269984665640564039457584007913129639936 ∧
     -115792089237316195423570985008687907853269984665640564039457584007913129639936 < j ∧ j < 115792089237316195423570985008687907853269984665640564039457584007913129639936)) :
    binS st .Mult (.int i) (.int j) = some (.int (i * j)) := if_pos h
theorem div_int (i j : Int) (h : 0 < j) (h2 : j < 115792089237316195423570985008687907853269984665640564039457584007913129639936) : binS st .FloorDiv (.int i) (.int j) = some (.int (i / j)) := if_pos ⟨h, h2⟩
theorem mod_int (i j : Int) (h : 0 < j) : binS st .Mod (.int i) (.int j) = some (.int (i % j)) := if_pos h
theorem shl_int (i j : Int) (h : 0 ≤ j) (h1 : j ≤ 1000000) (h2 : -18446744073709551616 < i) (h3 : i < 18446744073709551616) : binS st .LShift (.int i) (.int j) = some (.int (i * 2 ^ j.toNat)) := if_pos ⟨h, h1, h2, h3⟩
theorem shr_int (i j : Int) (h : 0 ≤ j) : binS st .RShift (.int i) (.int j) = some (.int (i / 2 ^ j.toNat)) := if_pos h
theorem pow_int (i j : Int) (h : 0 ≤ j) (h1 : j ≤ 1000000) (h2 : -18446744073709551616 < i) (h3 : i < 18446744073709551616) : binS st .Pow (.int i) (.int j) = some (.int (i ^ j.toNat)) := if_pos ⟨h, h1, h2, h3⟩
theorem and_int (i j : Int) : binS st .BitAnd (.int i) (.int j) = some (.int (PySem.Builtin.bitAnd i j)) := rfl
theorem or_int (i j : Int) : binS st .BitOr (.int i) (.int j) = some (.int (PySem.Builtin.bitOr i j)) := rfl
theorem neg_int (i : Int) : negS (.int i) = some (.int (-i)) := rfl
theorem one_mul_pow (n : Nat) : (1 : Int) * 2 ^ n = 2 ^ n := Int.one_mul _
theorem add_tup (xs ys) (h : xs.length + ys.length ≤ 1000000) : binS st .Add (.tup xs) (.tup ys) = some (.tup (xs ++ ys)) := if_pos h
theorem add_lst (xs ys) (h : xs.length + ys.length ≤ 1000000) : binS st .Add (.lst xs) (.lst ys) = some (.lst (xs ++ ys)) := if_pos h
/- comparisons -/
theorem lt_int (i j) : cmpS st .Lt (.int i) (.int j) = some (decide (i < j)) := rfl
theorem le_int (i j) : cmpS st .LtE (.int i) (.int j) = some (decide (i ≤ j)) := rfl
theorem gt_int (i j) : cmpS st .Gt (.int i) (.int j) = some (decide (j < i)) := rfl
theorem ge_int (i j) : cmpS st .GtE (.int i) (.int j) = some (decide (j ≤ i)) := rfl
theorem eq_int (i j) : cmpS st .Eq (.int i) (.int j) = some (decide (i = j)) := rfl
theorem ne_int (i j) : cmpS st .NotEq (.int i) (.int j) = some (!decide (i = j)) := rfl
theorem eq_S (x y) : cmpS st .Eq x y = eqS st x y := rfl
theorem ne_S (x y) : cmpS st .NotEq x y = (eqS st x y).map (!·) := rfl
theorem is_S (x y) : cmpS st .Is x y = isS x y := rfl
theorem isn_S (x y) : cmpS st .IsNot x y = (isS x y).map (!·) := rfl
theorem in_S (x y) : cmpS st .In x y = inS st x y := rfl
theorem nin_S (x y) : cmpS st .NotIn x y = (inS st x y).map (!·) := rfl
theorem eqS_ok {x y} (hx : okd 20 (plain st x) = true) (hy : okd 20 (plain st y) = true) : eqS st x y = some (eqd (plain st x) (plain st y)) := by unfold eqS; rw [hx, hy]; rfl
theorem map_some' {f : α → β} (a : α) : (some a).map f = some (f a) := rfl
theorem pl_non : plain st .non = .non := rfl
theorem pl_bl (b) : plain st (.bl b) = .bl b := rfl
theorem pl_int (i) : plain st (.int i) = .int i := rfl
theorem pl_str (x) : plain st (.str x) = .str x := rfl
theorem pl_tup (x) : plain st (.tup x) = .tup x := rfl
theorem pl_lst (x) : plain st (.lst x) = .lst x := rfl
theorem pl_cell (k) : plain st (.cell k) = .lst (st.getD k []) := rfl
theorem okd_tup (n xs) : okd (n + 1) (.tup xs) = okds n xs := by simp only [okd]
theorem okd_lst (n xs) : okd (n + 1) (.lst xs) = okds n xs := by simp only [okd]
theorem okd_non (n) : okd n .non = true := by cases n <;> simp only [okd]
theorem okd_bl (n b) : okd n (.bl b) = true := by cases n <;> simp only [okd]
theorem okd_int (n i) : okd n (.int i) = true := by cases n <;> simp only [okd]
theorem okd_str (n x) : okd n (.str x) = x.all (· < 1114112) := by cases n <;> simp only [okd]
theorem okds_nil (n) : okds n [] = true := by simp only [okds]
theorem okds_cons (n x xs) : okds n (x :: xs) = (okd n x && okds n xs) := by simp only [okds]
theorem okds_ints (n) (ns : List Int) : okds n (ns.map .int) = true := by
  induction ns with
  | nil => exact okds_nil n
  | cons i ns ih => rw [List.map_cons, okds_cons, okd_int, ih]; rfl
theorem tru_non : truth st .non = some false := rfl
theorem tru_bl (b) : truth st (.bl b) = some b := rfl
theorem tru_int (i : Int) : truth st (.int i) = some (decide (i ≠ 0)) := rfl
theorem tru_tup (xs) : truth st (.tup xs) = some (!xs.isEmpty) := rfl
theorem tru_lst (xs) : truth st (.lst xs) = some (!xs.isEmpty) := rfl
theorem tru_cell (k) : truth st (.cell k) = some (!(st.getD k []).isEmpty) := rfl
/- subscripts -/
theorem ix_lst (xs i) : idxS st (.lst xs) (.int i) = atD xs i := rfl
theorem ix_tup (xs i) : idxS st (.tup xs) (.int i) = atD xs i := rfl
theorem ix_cell (k i) : idxS st (.cell k) (.int i) = atD (st.getD k []) i := rfl
theorem ix_ro (ns i) : idxS st (.ro ns) (.int i) = (atD ns i).map .int := rfl
theorem atD_0 (xs : List α) : atD xs 0 = xs[0]? := by unfold atD; rw [if_pos (by decide)]; rfl
theorem atD_1 (xs : List α) : atD xs 1 = xs[1]? := by unfold atD; rw [if_pos (by decide)]; rfl
theorem atD_2 (xs : List α) : atD xs 2 = xs[2]? := by unfold atD; rw [if_pos (by decide)]; rfl
theorem atD_3 (xs : List α) : atD xs 3 = xs[3]? := by unfold atD; rw [if_pos (by decide)]; rfl
theorem atD_4 (xs : List α) : atD xs 4 = xs[4]? := by unfold atD; rw [if_pos (by decide)]; rfl
theorem atD_5 (xs : List α) : atD xs 5 = xs[5]? := by unfold atD; rw [if_pos (by decide)]; rfl
theorem atD_6 (xs : List α) : atD xs 6 = xs[6]? := by unfold atD; rw [if_pos (by decide)]; rfl
theorem atD_7 (xs : List α) : atD xs 7 = xs[7]? := by unfold atD; rw [if_pos (by decide)]; rfl
theorem atD_m1 (xs : List α) : atD xs (-1) = xs[xs.length - 1]? := by
  unfold atD
  rw [if_neg (by decide)]
  cases xs with
  | nil => rfl
  | cons x xs =>
    rw [if_pos (by simp only [List.length_cons]; omega)]
    congr 1
    simp only [List.length_cons]
    omega
theorem atD_nat (xs : List α) (n : Nat) : atD xs (n : Int) = xs[n]? := by
  unfold atD; rw [if_pos (by omega)]; simp
end
end Py
namespace Py.Q
open PySem (Operator CmpOp)
/-! ### draws -/
/-- the state of the draws: a, b, c, with room for n more -/
def Tin (n : Nat) (t : List D) : Prop := ∃ a b c : Int, t = [.int a, .int b, .int c] ∧ 0 ≤ a ∧ 0 ≤ b ∧ b < 4611686018427387904 ∧ 0 ≤ c ∧ c + n ≤ 1152921504606846976
theorem sub_cell {C : F → List D → Store → R D} {ρ : Fr} {st : Store} {o i e : E} {d : D} {k : Nat} {s1 s2 s3 : Store} {j : Nat} (h1 : ev C e ρ st = .ok d s1) (h2 : ev C o ρ s1 = .ok (.cell k) s2) (h3 : ev C i ρ s2 = .ok (.int j) s3) (hd : isP d = true) (hl : j < (s3.getD k []).length) :
    ex C (.sub o i e) ρ st = .nx ρ (s3.set k ((s3.getD k []).set j d)) := by
  simp only [ex, h1, h2, h3, st_ok, hd, if_true, Int.toNat_natCast, hl]
  exact if_pos (by omega)
theorem bi_abs (st : Store) (i : Int) : biS st .abs [.int i] = some (.int (i.natAbs : Int)) := rfl
theorem bi_int (st : Store) (i : Int) : biS st .int [.int i] = some (.int i) := rfl
theorem bi_intb (st : Store) (b : Bool) : biS st .int [.bl b] = some (.int (if b then 1 else 0)) := rfl
def onceV (b c : Int) : Int := (b + 48271 * c) * (39373 + c) % 2147483647
def drawV (b c : Int) : Int := ((onceV b c + c + b / 1000003) * (onceV b c % 40009 + 7) % 2147483629 * 48271 + onceV b c) % 2147483587 / 64
theorem c_take (k m : Nat) (n : Int) (g : Store) (t : List D) (h : Tin (m + 1) t) (hn : 0 < n) (hn2 : n < 115792089237316195423570985008687907853269984665640564039457584007913129639936) :
    ∃ i t', 0 ≤ i ∧ i < n ∧ Tin m t' ∧ call (k + 1) .l_take [.cell 0, .int n] (t :: g) = .ok (.int i) (t' :: g) := by
  obtain ⟨a, b, c, rfl, ha, hb, hb2, hc, hc2⟩ := h
  by_cases h0 : 0 < a
  · refine ⟨a % n, [.int (a / n), .int b, .int c], Int.emod_nonneg _ (by omega), Int.emod_lt_of_pos _ hn, ⟨_, _, _, rfl, Int.ediv_nonneg ha (by omega), hb, hb2, hc, by omega⟩, ?_⟩
    simp only [call_succ, tbl, b_l_take, run_2]
    have e1 : decide (0 < a) = true := decide_eq_true h0
    simp (disch := omega) only [exs, ex, ev, evs, tst, bind_ok, opt_some, st_ok, seq_nx, seq_ret, getS_zero, getS_succ, setS_zero, setS_succ, ix_cell, List.getD_cons_zero, atD_0, List.getElem?_cons_zero, gt_int, map_some', e1, tru_bl, if_true, bi_int, mod_int, div_int, emp_succ, emp_zero, List.cons_append, List.nil_append, isP, fin_ret, fin_int, Int.reduceLE, Int.reduceToNat, Nat.reduceAdd, Nat.reduceLT, Nat.zero_add, if_true, Int.le_refl, Int.toNat_zero, List.length_cons, List.set_cons_zero, List.length_nil, List.take_succ_cons, List.take_length]
  · have e0 : a = 0 := by omega
    subst e0
    have e1 : decide ((0 : Int) < 0) = false := rfl
    have hq := Int.emod_nonneg ((b + 48271 * (c + 1)) * (39373 + (c + 1))) (show (2147483647 : Int) ≠ 0 by decide)
    have hq2 := Int.emod_lt_of_pos ((b + 48271 * (c + 1)) * (39373 + (c + 1))) (show (0 : Int) < 2147483647 by decide)
    have key : ∃ y : Int, call (k + 1) .l_take [.cell 0, .int n] ([.int 0, .int b, .int c] :: g) = .ok (.int (y % n)) ([.int 0, .int b, .int (c + 1)] :: g) := by
      refine ⟨drawV b (c + 1), ?_⟩
      unfold drawV onceV
      simp only [call_succ, tbl, b_l_take, run_2]
      simp (disch := omega) only [exs, ex, ev, evs, tst, bind_ok, opt_some, st_ok, seq_nx, seq_ret, getS_zero, getS_succ, setS_zero, setS_succ, ix_cell, List.getD_cons_zero, atD_0, atD_1, atD_2, List.getElem?_cons_zero, List.getElem?_cons_succ, gt_int, map_some', e1, tru_bl, if_true, if_false, Bool.false_eq_true, bi_int, mod_int, div_int, add_int, mul_int, emp_succ, emp_zero, List.cons_append, List.nil_append, isP, fin_ret, fin_int, Int.reduceLE, Int.reduceToNat, Nat.reduceAdd, Nat.reduceLT, Nat.zero_add, Int.le_refl, Int.toNat_zero, List.length_cons, List.set_cons_zero, List.set_cons_succ, List.length_nil, List.take_succ_cons, List.take_length]
    obtain ⟨y, key⟩ := key
    exact ⟨y % n, _, Int.emod_nonneg _ (by omega), Int.emod_lt_of_pos _ hn, ⟨_, _, _, rfl, Int.le_refl _, hb, hb2, by omega, by omega⟩, key⟩
theorem bi_len_lst (st : Store) (xs : List D) : biS st .len [.lst xs] = some (.int xs.length) := rfl
theorem bi_len_tup (st : Store) (xs : List D) : biS st .len [.tup xs] = some (.int xs.length) := rfl
theorem bi_len_ro (st : Store) (ns : List Int) : biS st .len [.ro ns] = some (.int ns.length) := by
  show some (D.int ((ns.map D.int).length : Nat)) = _
  rw [List.length_map]
theorem c_of (k m : Nat) (gs : List D) (g : Store) (t : List D) (h : Tin (m + 1) t) (hl : 0 < gs.length) (hl2 : gs.length ≤ 1000000) (hp : gs.all isP = true) :
    ∃ d t', d ∈ gs ∧ Tin m t' ∧ call (k + 2) .l_of [.cell 0, .lst gs] (t :: g) = .ok d (t' :: g) := by
  obtain ⟨i, t', h1, h2, h3, h4⟩ := c_take k m gs.length g t h (by omega) (by omega)
  obtain ⟨n, rfl⟩ := Int.eq_ofNat_of_zero_le h1
  have hn : n < gs.length := by omega
  refine ⟨gs[n], t', List.getElem_mem hn, h3, ?_⟩
  have hq : isP gs[n] = true := List.all_eq_true.mp hp _ (List.getElem_mem hn)
  have hg : gs[n]? = some gs[n] := List.getElem?_eq_getElem hn
  rw [call_succ]
  simp only [tbl, b_l_of, run_2]
  simp (disch := omega) only [exs, ex, ev, evs, bind_ok, opt_some, st_ok, seq_ret, getS_zero, getS_succ, bi_len_lst, h4, ix_lst, emp_zero, List.cons_append, List.nil_append, fin_ret, atD_nat, hg, fin_nc hq, List.length_cons, List.take_succ_cons, List.take_length]
theorem pow18 (st : Store) : binS st .Pow (.int 10) (.int 18) = some (.int 1000000000000000000) := by
  rw [pow_int _ _ (by decide) (by decide) (by decide) (by decide)]
  have e2 : (((10 : Int) ^ (18 : Int).toNat)) = 1000000000000000000 := by simp
  rw [e2]
section
variable {C : F → List D → Store → R D} {ρ : Fr} {st s1 s2 : Store}
theorem v_bin {op : Operator} {a b : E} {x y z : D} (h1 : ev C a ρ st = .ok x s1) (h2 : ev C b ρ s1 = .ok y s2) (h3 : binS s2 op x y = some z) : ev C (.bin op a b) ρ st = .ok z s2 := by
  simp only [ev, h1, bind_ok, h2, h3, opt_some]
theorem v_cmp {op : CmpOp} {a b : E} {x y : D} {z : Bool} (h1 : ev C a ρ st = .ok x s1) (h2 : ev C b ρ s1 = .ok y s2) (h3 : cmpS s2 op x y = some z) : ev C (.cmp op a b) ρ st = .ok (.bl z) s2 := by
  simp only [ev, h1, bind_ok, h2, h3, opt_some, Option.map_some]
theorem v_bi1 {b : Bi} {a : E} {x z : D} (h1 : ev C a ρ st = .ok x s1) (h3 : biS s1 b [x] = some z) : ev C (.bi b [a]) ρ st = .ok z s1 := by
  simp only [ev, evs, h1, bind_ok, h3, opt_some]
theorem v_var {i : Nat} {x : D} (h : getS ρ i = some x) : ev C (.var i) ρ st = .ok x st := by
  simp only [ev, h, opt_some]
theorem v_cst {d : D} : ev C (.cst d) ρ st = .ok d st := by simp only [ev]
theorem v_lstC {es : List E} {ds : List D} (h : evs C es ρ st = .ok ds s1) (hp : ds.all isP = true) : ev C (.lstC es) ρ st = .ok (.cell s1.length) (s1 ++ [ds]) := by
  simp only [ev, h, bind_ok, hp, if_true]
theorem v_nil : evs C [] ρ st = .ok [] st := by simp only [evs]
theorem v_cons {e : E} {es : List E} {d : D} {ds : List D} (h1 : ev C e ρ st = .ok d s1) (h2 : evs C es ρ s1 = .ok ds s2) : evs C (e :: es) ρ st = .ok (d :: ds) s2 := by
  simp only [evs, h1, h2, bind_ok]
end
theorem c_box (k m : Nat) (hm0 : (m : Int) ≤ 1152921504606846976) (x : Int) (st : Store) : ∃ t, Tin m t ∧ call (k + 1) .l_box [.lst [.int x], .int 0] st = .ok (.cell st.length) (st ++ [t]) := by
  have hm := Int.emod_nonneg x (show (2305843009213693951 : Int) ≠ 0 by decide)
  have hm2 := Int.emod_lt_of_pos x (show (0 : Int) < 2305843009213693951 by decide)
  have key : ∀ bb : Bool, decide ((1000000000000000000 : Int) ≤ (x.natAbs : Int)) = bb → ∀ z : Int, (if bb = true then (1 : Int) else 0) = z → (z = 0 ∨ z = 1) →
      call (k + 1) .l_box [.lst [.int x], .int 0] st = .ok (.cell st.length) (st ++ [[.int ((x.natAbs : Int) * z), .int (x % 2305843009213693951 + 39373 * 0 + 263000), .int 0]]) := by
    intro bb hbb z hz h01
    rw [call_succ]
    have ht : tbl .l_box = ⟨2, 3, true, b_l_box⟩ := rfl
    rw [ht, run_2]
    have g : getS [some (.lst [.int x]), some (.int 0), some (.int x)] 2 = some (D.int x) := rfl
    have g1 : getS [some (.lst [.int x]), some (.int 0), some (.int x)] 1 = some (D.int 0) := rfl
    have h1 := v_bi1 (C := call k) (v_var (C := call k) (st := st) g) (bi_abs st x)
    have e1 : ev (call k) (.bin .Mult (.bi .abs [.var 2]) (.bi .int [.cmp .GtE (.bi .abs [.var 2]) (.bin .Pow (.cst (.int 10)) (.cst (.int 18)))])) [some (.lst [.int x]), some (.int 0), some (.int x)] st = .ok (.int ((x.natAbs : Int) * z)) st :=
      v_bin h1 (v_bi1 (v_cmp h1 (v_bin v_cst v_cst (pow18 st)) ((ge_int _ _).trans (by rw [hbb]))) ((bi_intb _ _).trans (by rw [hz]))) (mul_int _ _ (by omega))
    have e2 : ev (call k) (.bin .Add (.bin .Add (.bin .Mod (.bi .int [.var 2]) (.cst (.int 2305843009213693951))) (.bin .Mult (.cst (.int 39373)) (.var 1))) (.cst (.int 263000))) [some (.lst [.int x]), some (.int 0), some (.int x)] st = .ok (.int (x % 2305843009213693951 + 39373 * 0 + 263000)) st :=
      v_bin (v_bin (v_bin (v_bi1 (v_var g) (bi_int st x)) v_cst (mod_int _ _ (by omega))) (v_bin v_cst (v_var g1) (mul_int _ _ (by omega))) (add_int _ _)) v_cst (add_int _ _)
    have e3 := v_lstC (C := call k) (v_cons e1 (v_cons e2 (v_cons (v_cst (d := .int 0)) v_nil))) rfl
    have e4 : ex (call k) (.asg 2 (.ite (.cmp .Lt (.var 1) (.bi .len [.var 0])) (.idx (.var 0) (.var 1)) (.cst (.int 0)))) [some (.lst [.int x]), some (.int 0), none] st = .nx [some (.lst [.int x]), some (.int 0), some (.int x)] st := rfl
    show X.fin true st.length (exs (call k) b_l_box [some (.lst [.int x]), some (.int 0), none] st) = _
    unfold b_l_box
    rw [exs, e4, seq_nx, exs, ex, e3]
    rfl
  have hz0 : ∀ bb : Bool, (if bb = true then (1 : Int) else 0) = 0 ∨ (if bb = true then (1 : Int) else 0) = 1 := by
    intro b; cases b
    · exact .inl rfl
    · exact .inr rfl
  refine ⟨_, ⟨_, _, 0, rfl, ?_, by omega, by omega, Int.le_refl _, by omega⟩, key _ rfl _ rfl (hz0 _)⟩
  rcases hz0 (decide ((1000000000000000000 : Int) ≤ (x.natAbs : Int))) with h | h
  · rw [h]; omega
  · rw [h]; omega
theorem cells_loop {C : F → List D → Store → R D} {pre : Store} {a : D} : ∀ (zs : List Int) (i : Nat) (x : Int) (b c d : Option D), i + zs.length ≤ 1000000 → ∃ y b' c' d',
    forL (fun d ρ1 s2 => X.opt (bindT ρ1 (.many [3, 4]) d) fun ρ2 => exs C [.asg 5 (.bin .Mod (.bi .int [.var 3]) (.var 1)), .sub (.var 2) (.var 5) (.bin .Add (.idx (.var 2) (.var 5)) (.bin .Mult (.var 4) (.bin .Add (.var 3) (.cst (.int 2)))))] ρ2 s2)
      (enumFrom i (zs.map .int)) [some a, some (.int 1), some (.cell pre.length), b, c, d] (pre ++ [[.int x]]) = .nx [some a, some (.int 1), some (.cell pre.length), b', c', d'] (pre ++ [[.int y]])
  | [], i, x, b, c, d, _ => ⟨x, b, c, d, rfl⟩
  | z :: zs, i, x, b, c, d, hi => by
    rw [List.length_cons] at hi
    obtain ⟨y, b', c', d', h⟩ := cells_loop (C := C) (pre := pre) (a := a) zs (i + 1) (x + z * ((i : Int) + 2)) (some (.int i)) (some (.int z)) (some (.int 0)) (by omega)
    refine ⟨y, b', c', d', ?_⟩
    rw [List.map_cons, enumFrom, forL]
    have e1 : ((i : Int)) % 1 = 0 := Int.emod_one _
    have e2 : (pre ++ [[D.int x]]).getD pre.length [] = [D.int x] := by simp
    have e4 : (pre ++ [[D.int x]]).set pre.length [D.int (x + z * ((i : Int) + 2))] = pre ++ [[.int (x + z * ((i : Int) + 2))]] := by
      rw [List.set_append_right _ _ (Nat.le_refl _), Nat.sub_self]; rfl
    simp (disch := omega) only [X.opt, bindT_many, setMany_cons, setMany_nil, exs, ex, ev, evs, bind_ok, opt_some, st_ok, seq_nx, getS_zero, getS_succ, setS_zero, setS_succ, bi_int, mod_int, e1, ix_cell, e2, atD_0, List.getElem?_cons_zero, add_int, mul_int, isP, if_true, Int.le_refl, Int.toNat_zero, List.length_cons, List.length_nil, Nat.zero_add, Nat.reduceLT, List.set_cons_zero, Nat.lt_one_iff, Nat.zero_lt_one, e4]
    exact h

theorem st_nx_ok {α : Type} {ρ : Fr} {st : Store} {r : R α} {a : α} {f : α → Store → X} (h : r = .ok a st) : r.st ρ f = f a st := by rw [h]; rfl
theorem c_cells1 (k : Nat) (ns : List Int) (st : Store) (hn : ns.length ≤ 63) : ∃ x : Int, call (k + 1) .l_cells [.ro ns, .int 1] st = .ok (.lst [.int x]) st := by
  rw [call_succ]
  have ht : tbl .l_cells = ⟨2, 6, false, b_l_cells⟩ := rfl
  rw [ht, run_2]
  have hr : [some (D.ro ns), some (D.int 1)] ++ empties (6 - 2) = [some (.ro ns), some (.int 1), none, none, none, none] := rfl
  rw [hr]
  -- the list's own place
  have rest : ∀ (pre : Store) (x0 : Int), ∃ x, exs (call k) (b_l_cells.drop 1) [some (.ro ns), some (.int 1), some (.cell pre.length), none, none, none] (pre ++ [[.int x0]]) = .ret (.cell pre.length) (pre ++ [[.int x]]) := by
    intro pre x0
    obtain ⟨zs, hzs, hzl⟩ : ∃ zs : List Int, cut (ns.map D.int) (some 1) (some 63) = zs.map .int ∧ zs.length ≤ 63 := by
      refine ⟨cut ns (some 1) (some 63), ?_, ?_⟩
      · unfold cut
        rw [List.length_map, List.map_take, List.map_drop]
      · unfold cut
        rw [List.length_take, List.length_drop]
        omega
    obtain ⟨y, b', c', d', h⟩ := cells_loop (C := call k) (pre := pre) (a := .ro ns) zs 0 x0 none none none (by omega)
    refine ⟨y, ?_⟩
    have hs : evs (call k) [.sli (.var 0) [.var 1] [.cst (.int 63)]] [some (.ro ns), some (.int 1), some (.cell pre.length), none, none, none] (pre ++ [[.int x0]]) = .ok [.lst (zs.map .int)] (pre ++ [[.int x0]]) := by
      rw [← hzs]; rfl
    have hd : b_l_cells.drop 1 = [.fr (.many [3, 4]) .enumerate [.sli (.var 0) [.var 1] [.cst (.int 63)]] [.asg 5 (.bin .Mod (.bi .int [.var 3]) (.var 1)), .sub (.var 2) (.var 5) (.bin .Add (.idx (.var 2) (.var 5)) (.bin .Mult (.var 4) (.bin .Add (.var 3) (.cst (.int 2)))))], .ret (.var 2)] := rfl
    have hsrc : ∀ s, srcS s .enumerate [D.lst (zs.map .int)] = some (.l (enumFrom 0 (zs.map .int))) := fun _ => rfl
    rw [hd, exs, ex, hs, st_ok, hsrc, xopt_some]
    show X.seq (forL _ (enumFrom 0 (zs.map .int)) _ _) _ = _
    rw [h, seq_nx]
    rfl
  have split : exs (call k) b_l_cells [some (.ro ns), some (.int 1), none, none, none, none] st = (ex (call k) (.asg 2 (.or (.listC .val [.sli (.var 0) [] [.var 1]]) (.lstC [.cst (.int 0)]))) [some (.ro ns), some (.int 1), none, none, none, none] st).seq fun ρ' st' => exs (call k) (b_l_cells.drop 1) ρ' st' := rfl
  rw [split]
  cases ns with
  | nil =>
    have e0 : ex (call k) (.asg 2 (.or (.listC .val [.sli (.var 0) [] [.var 1]]) (.lstC [.cst (.int 0)]))) [some (.ro []), some (.int 1), none, none, none, none] st = .nx [some (.ro []), some (.int 1), some (.cell (st ++ [[]]).length), none, none, none] ((st ++ [[]]) ++ [[.int 0]]) := by
      have e1 : ev (call k) (.listC .val [.sli (.var 0) [] [.var 1]]) [some (.ro []), some (.int 1), none, none, none, none] st = .ok (.cell st.length) (st ++ [[]]) := rfl
      rw [ex, ev, e1, bind_ok, tru_cell]
      have e2 : (st ++ [[]]).getD st.length ([] : List D) = [] := by simp
      rw [e2]
      rfl
    rw [e0, seq_nx]
    obtain ⟨x, h⟩ := rest (st ++ [[]]) 0
    refine ⟨x, ?_⟩
    rw [h]
    show R.ok (frz st.length _ (.cell (st ++ [[]]).length)) _ = _
    have e3 : ((st ++ [[]]) ++ [[D.int x]]).take st.length = st := by simp
    rw [e3]
    simp [frz]
  | cons n ns =>
    have e0 : ex (call k) (.asg 2 (.or (.listC .val [.sli (.var 0) [] [.var 1]]) (.lstC [.cst (.int 0)]))) [some (.ro (n :: ns)), some (.int 1), none, none, none, none] st = .nx [some (.ro (n :: ns)), some (.int 1), some (.cell st.length), none, none, none] (st ++ [[.int n]]) := by
      have e1 : ev (call k) (.listC .val [.sli (.var 0) [] [.var 1]]) [some (.ro (n :: ns)), some (.int 1), none, none, none, none] st = .ok (.cell st.length) (st ++ [[.int n]]) := by
        have hcut : cut ((n :: ns).map D.int) none (some 1) = [.int n] := by
          unfold cut sIx
          simp
        have e1 : evs (call k) [.sli (.var 0) [] [.var 1]] [some (.ro (n :: ns)), some (.int 1), none, none, none, none] st = .ok [.lst (cut ((n :: ns).map D.int) none (some 1))] st := rfl
        rw [ev, e1, hcut]
        rfl
      rw [ex, ev, e1, bind_ok, tru_cell]
      have e2 : (st ++ [[D.int n]]).getD st.length ([] : List D) = [.int n] := by simp
      rw [e2]
      rfl
    rw [e0, seq_nx]
    obtain ⟨x, h⟩ := rest st n
    refine ⟨x, ?_⟩
    rw [h]
    show R.ok (frz st.length _ (.cell st.length)) _ = _
    have e3 : (st ++ [[D.int x]]).take st.length = st := by simp
    rw [e3]
    simp [frz]

/-! ### big steps -/
section
variable {C : F → List D → Store → R D} {ρ ρ' : Fr} {st s1 s2 s3 : Store} {a b c : E} {x y z d : D}
theorem v_glo {g : G} {v : D} (h : g.val = v) : ev C (.glo g) ρ st = .ok v st := by subst h; simp only [ev]
theorem v_fnv {f : F} : ev C (.fnv f) ρ st = .ok (.fn f) st := by simp only [ev]
theorem v_neg {i : Int} (h1 : ev C a ρ st = .ok (.int i) s1) : ev C (.neg a) ρ st = .ok (.int (-i)) s1 := by simp only [ev, h1, bind_ok, neg_int, opt_some]
theorem v_not {t : Bool} (h1 : ev C a ρ st = .ok x s1) (h2 : truth s1 x = some t) : ev C (.not a) ρ st = .ok (.bl (!t)) s1 := by simp only [ev, h1, bind_ok, h2, Option.map_some, opt_some]
theorem v_andT (h1 : ev C a ρ st = .ok x s1) (h2 : truth s1 x = some true) (h3 : ev C b ρ s1 = .ok y s2) : ev C (.and a b) ρ st = .ok y s2 := by simp only [ev, h1, bind_ok, h2, brR_some, if_true, h3]
theorem v_andF (h1 : ev C a ρ st = .ok x s1) (h2 : truth s1 x = some false) : ev C (.and a b) ρ st = .ok x s1 := by simp only [ev, h1, bind_ok, h2, brR_some, Bool.false_eq_true, if_false]
theorem v_orT (h1 : ev C a ρ st = .ok x s1) (h2 : truth s1 x = some true) : ev C (.or a b) ρ st = .ok x s1 := by simp only [ev, h1, bind_ok, h2, brR_some, if_true]
theorem v_orF (h1 : ev C a ρ st = .ok x s1) (h2 : truth s1 x = some false) (h3 : ev C b ρ s1 = .ok y s2) : ev C (.or a b) ρ st = .ok y s2 := by simp only [ev, h1, bind_ok, h2, brR_some, Bool.false_eq_true, if_false, h3]
theorem v_chnT {o1 o2 : CmpOp} {t : Bool} (h1 : ev C a ρ st = .ok x s1) (h2 : ev C b ρ s1 = .ok y s2) (h3 : cmpS s2 o1 x y = some true) (h4 : ev C c ρ s2 = .ok z s3) (h5 : cmpS s3 o2 y z = some t) : ev C (.chn o1 o2 a b c) ρ st = .ok (.bl t) s3 := by
  simp only [ev, h1, bind_ok, h2, h3, brR_some, if_true, h4, h5, Option.map_some, opt_some]
theorem v_chnF {o1 o2 : CmpOp} (h1 : ev C a ρ st = .ok x s1) (h2 : ev C b ρ s1 = .ok y s2) (h3 : cmpS s2 o1 x y = some false) : ev C (.chn o1 o2 a b c) ρ st = .ok (.bl false) s2 := by
  simp only [ev, h1, bind_ok, h2, h3, brR_some, Bool.false_eq_true, if_false]
theorem v_iteT (h1 : ev C c ρ st = .ok x s1) (h2 : truth s1 x = some true) (h3 : ev C a ρ s1 = .ok y s2) : ev C (.ite c a b) ρ st = .ok y s2 := by simp only [ev, h1, bind_ok, h2, brR_some, if_true, h3]
theorem v_iteF (h1 : ev C c ρ st = .ok x s1) (h2 : truth s1 x = some false) (h3 : ev C b ρ s1 = .ok y s2) : ev C (.ite c a b) ρ st = .ok y s2 := by simp only [ev, h1, bind_ok, h2, brR_some, Bool.false_eq_true, if_false, h3]
theorem v_tup {es : List E} {ds : List D} (h : evs C es ρ st = .ok ds s1) (hp : ds.all isP = true) : ev C (.tup es) ρ st = .ok (.tup ds) s1 := by simp only [ev, h, bind_ok, hp, if_true]
theorem v_lst {es : List E} {ds : List D} (h : evs C es ρ st = .ok ds s1) (hp : ds.all isP = true) : ev C (.lst es) ρ st = .ok (.lst ds) s1 := by simp only [ev, h, bind_ok, hp, if_true]
theorem v_idx (h1 : ev C a ρ st = .ok x s1) (h2 : ev C b ρ s1 = .ok y s2) (h3 : idxS s2 x y = some z) : ev C (.idx a b) ρ st = .ok z s2 := by simp only [ev, h1, bind_ok, h2, h3, opt_some]
theorem v_call {f : F} {es : List E} {ds : List D} (h : evs C es ρ st = .ok ds s1) (h2 : C f ds s1 = .ok x s2) : ev C (.call f es) ρ st = .ok x s2 := by simp only [ev, h, bind_ok, h2]
theorem v_callk {f : F} {es : List E} {ds : List D} (h : evs C es ρ st = .ok ds s1) (h2 : C f ds s1 = .ok x s2) : ev C (.callk f [] es) ρ st = .ok x s2 := by simp only [ev, evs, h, bind_ok, List.nil_append, h2]
theorem v_bi {bi : Bi} {es : List E} {ds : List D} (h : evs C es ρ st = .ok ds s1) (h2 : biS s1 bi ds = some x) : ev C (.bi bi es) ρ st = .ok x s1 := by simp only [ev, h, bind_ok, h2, opt_some]
theorem v_isi {ts : List Ty} {m : Bool} (h1 : ev C a ρ st = .ok x s1) (h2 : tyOk x = true) : ev C (.isi a ts m) ρ st = .ok (.bl (ts.any (isTy x))) s1 := by simp only [ev, h1, bind_ok, h2, if_true]
/-- statements -/
theorem x_asg {i : Nat} {r : List S} {o : X} (h1 : ev C a ρ st = .ok x s1) (h2 : exs C r (setS ρ i x) s1 = o) : exs C (.asg i a :: r) ρ st = o := by rw [exs, ex, h1, st_ok, seq_nx, h2]
theorem x_ret {r : List S} (h1 : ev C a ρ st = .ok x s1) : exs C (.ret a :: r) ρ st = .ret x s1 := by rw [exs, ex, h1, st_ok, seq_ret]
theorem x_par {is : List Nat} {es : List E} {ds : List D} {r : List S} {o : X} (h1 : evs C es ρ st = .ok ds s1) (h2 : setMany ρ is ds = some ρ') (h3 : exs C r ρ' s1 = o) : exs C (.par is es :: r) ρ st = o := by rw [exs, ex, h1, st_ok, h2, xopt_some, seq_nx, h3]
theorem x_unp {is : List Nat} {ds : List D} {r : List S} {o : X} (h1 : ev C a ρ st = .ok (.tup ds) s1) (h2 : setMany ρ is ds = some ρ') (h3 : exs C r ρ' s1 = o) : exs C (.unp is a :: r) ρ st = o := by
  rw [exs, ex, h1, st_ok]; dsimp only; rw [h2, xopt_some, seq_nx, h3]
theorem tst_ok {t : Bool} (h1 : ev C a ρ st = .ok x s1) (h2 : truth s1 x = some t) : tst C a ρ st = .ok t s1 := by rw [tst, h1, bind_ok, h2, opt_some]
theorem x_ifT {p q r : List S} {o : X} (h1 : tst C c ρ st = .ok true s1) (h2 : (exs C p ρ s1).seq (fun ρ' st' => exs C r ρ' st') = o) : exs C (.ife c p q :: r) ρ st = o := by rw [exs, ex, h1, st_ok, if_pos rfl, h2]
theorem x_ifF {p q r : List S} {o : X} (h1 : tst C c ρ st = .ok false s1) (h2 : (exs C q ρ s1).seq (fun ρ' st' => exs C r ρ' st') = o) : exs C (.ife c p q :: r) ρ st = o := by rw [exs, ex, h1, st_ok, if_neg (by decide), h2]
theorem x_ifF0 {p r : List S} {o : X} (h1 : tst C c ρ st = .ok false s1) (h2 : exs C r ρ s1 = o) : exs C (.ife c p [] :: r) ρ st = o := x_ifF h1 (by rw [exs, seq_nx, h2])
end

/-! ### the walker -/
section
variable {C : F → List D → Store → R D} {ρ ρ' : Fr} {st s1 s2 s3 : Store} {a b c : E} {x y z d : D} {G : Prop}
theorem exs_app : ∀ (p r : List S) (ρ : Fr) (st : Store), exs C (p ++ r) ρ st = (exs C p ρ st).seq fun ρ' st' => exs C r ρ' st'
  | [], r, ρ, st => by rw [exs, seq_nx]; rfl
  | s :: p, r, ρ, st => by
    rw [List.cons_append, exs, exs]
    cases ex C s ρ st <;> first | rfl | exact exs_app p r _ _
theorem w_and {t u : Bool} (h1 : ev C a ρ st = .ok (.bl t) s1) (h2 : t = true → ev C b ρ s1 = .ok (.bl u) s1) : ev C (.and a b) ρ st = .ok (.bl (t && u)) s1 := by
  cases t
  · exact v_andF h1 rfl
  · exact v_andT h1 rfl (h2 rfl)
theorem w_or {t u : Bool} (h1 : ev C a ρ st = .ok (.bl t) s1) (h2 : t = false → ev C b ρ s1 = .ok (.bl u) s1) : ev C (.or a b) ρ st = .ok (.bl (t || u)) s1 := by
  cases t
  · exact v_orF h1 rfl (h2 rfl)
  · exact v_orT h1 rfl
theorem w_iteI {t : Bool} {i j : Int} (h1 : ev C c ρ st = .ok x s1) (h2 : truth s1 x = some t) (h3 : t = true → ev C a ρ s1 = .ok (.int i) s1) (h4 : t = false → ev C b ρ s1 = .ok (.int j) s1) : ev C (.ite c a b) ρ st = .ok (.int (if t = true then i else j)) s1 := by
  cases t
  · exact v_iteF h1 h2 (h4 rfl)
  · exact v_iteT h1 h2 (h3 rfl)
theorem w_ite {t : Bool} (h1 : ev C c ρ st = .ok x s1) (h2 : truth s1 x = some t) (h3 : t = true → ev C a ρ s1 = .ok y s1) (h4 : t = false → ev C b ρ s1 = .ok z s1) : ev C (.ite c a b) ρ st = .ok (if t = true then y else z) s1 := by
  cases t
  · exact v_iteF h1 h2 (h4 rfl)
  · exact v_iteT h1 h2 (h3 rfl)
theorem w_chn {o1 o2 : CmpOp} {t u : Bool} (h1 : ev C a ρ st = .ok x s1) (h2 : ev C b ρ s1 = .ok y s1) (h3 : cmpS s1 o1 x y = some t) (h4 : ev C c ρ s1 = .ok z s1) (h5 : cmpS s1 o2 y z = some u) : ev C (.chn o1 o2 a b c) ρ st = .ok (.bl (t && u)) s1 := by
  cases t
  · exact v_chnF h1 h2 h3
  · exact v_chnT h1 h2 h3 h4 h5
theorem w_callk {f : F} {es ks : List E} {ds es' : List D} (h0 : evs C es ρ st = .ok ds s1) (h : evs C ks ρ s1 = .ok es' s2) (h2 : C f (ds ++ es') s2 = .ok x s3) : ev C (.callk f es ks) ρ st = .ok x s3 := by
  simp only [ev, h0, h, bind_ok, h2]
theorem w_sli {lo hi : List E} {ls hs : List D} {i j : Option Int} (h1 : ev C a ρ st = .ok x st) (h2 : evs C lo ρ st = .ok ls st) (h3 : evs C hi ρ st = .ok hs st) (h4 : partI ls = some i) (h5 : partI hs = some j) (h6 : sliS st i j x = some y) : ev C (.sli a lo hi) ρ st = .ok y st := by
  simp only [ev, h1, h2, h3, bind_ok, h4, h5, opt_some, h6]
theorem w_rev (h1 : ev C a ρ st = .ok x s1) (h2 : revS s1 x = some y) : ev C (.rev a) ρ st = .ok y s1 := by
  simp only [ev, h1, bind_ok, h2, opt_some]
/-- statements -/
theorem w_asg {i : Nat} {r : List S} {o : X} (h1 : ev C a ρ st = .ok x s1) (h : setS ρ i x = ρ') (h2 : exs C r ρ' s1 = o) : exs C (.asg i a :: r) ρ st = o := by subst h; exact x_asg h1 h2
theorem w_ret {r : List S} (h1 : ev C a ρ st = .ok x s1) (h2 : x = y) (h3 : s1 = s2) : exs C (.ret a :: r) ρ st = .ret y s2 := by subst h2 h3; exact x_ret h1
theorem w_if {t : Bool} {p q r : List S} {o : X} (h1 : tst C c ρ st = .ok t s1) (h2 : t = true → exs C (p ++ r) ρ s1 = o) (h3 : t = false → exs C (q ++ r) ρ s1 = o) : exs C (.ife c p q :: r) ρ st = o := by
  cases t
  · exact x_ifF h1 (by rw [← exs_app]; exact h3 rfl)
  · exact x_ifT h1 (by rw [← exs_app]; exact h2 rfl)
theorem w_pass {t : Bool} {p r : List S} {o : X} (h1 : tst C c ρ st = .ok t s1) (ht : t = false) (h : exs C r ρ s1 = o) : exs C (.ife c p [] :: r) ρ st = o := by subst ht; exact x_ifF0 h1 h
theorem g_leN {m n : Nat} (h : m ≤ n) : m ≤ n := h
theorem w_brk {r : List S} : exs C (.brk :: r) ρ st = .brk ρ st := by rw [exs, ex, seq_brk]
theorem w_cnt {r : List S} : exs C (.cnt :: r) ρ st = .cnt ρ st := by rw [exs, ex, seq_cnt]
theorem w_nil : exs C [] ρ st = .nx ρ st := by rw [exs]
theorem w_retN {r : List S} : exs C (.retN :: r) ρ st = .ret .non st := by rw [exs, ex, seq_ret]
theorem w_app {k : Nat} {r : List S} {o : X} {xs : List D} (h1 : ev C a ρ st = .ok (.cell k) s1) (h2 : ev C b ρ s1 = .ok d s2) (h3 : isP d = true) (h4 : s2.getD k [] = xs) (h5 : xs.length < 1000000) (h6 : s2.set k (xs ++ [d]) = s3) (h : exs C r ρ s3 = o) : exs C (.app a b :: r) ρ st = o := by
  subst h4 h6
  rw [exs, ex, h1, st_ok]
  dsimp only
  rw [h2, st_ok, h3, decide_eq_true h5]
  exact h
theorem w_fr {tg : Tg} {kd : Sk} {src : List E} {body r : List S} {ds xs : List D} {o : X} (h1 : evs C src ρ st = .ok ds s1) (h2 : srcS s1 kd ds = some (.l xs))
    (h3 : forL (fun d ρ1 s2 => X.opt (bindT ρ1 tg d) fun ρ2 => exs C body ρ2 s2) xs ρ s1 = .nx ρ' s2) (h : exs C r ρ' s2 = o) : exs C (.fr tg kd src body :: r) ρ st = o := by
  rw [exs, ex, h1, st_ok, h2, xopt_some, forS, h3, seq_nx, h]
theorem w_frX {tg : Tg} {kd : Sk} {src : List E} {body r : List S} {ds xs : List D} {o : X} (h1 : evs C src ρ st = .ok ds s1) (h2 : srcS s1 kd ds = some (.l xs))
    (h3 : (forL (fun d ρ1 s2 => X.opt (bindT ρ1 tg d) fun ρ2 => exs C body ρ2 s2) xs ρ s1).seq (fun ρ' st' => exs C r ρ' st') = o) : exs C (.fr tg kd src body :: r) ρ st = o := by
  rw [exs, ex, h1, st_ok, h2, xopt_some, forS, h3]
/-- the frame of a call -/
theorem w_call {k np ns : Nat} {f : F} {body : List S} {ds : List D} {ρ : Fr} {st : Store} {d : D} (ht : tbl f = ⟨np, ns, false, body⟩) (hl : ds.length = np) (hr : ds.map some ++ empties (ns - np) = ρ) (h : exs (call k) body ρ st = .ret d st) (hp : isP d = true) :
    call (k + 1) f ds st = .ok d st := by
  rw [call_succ, ht]
  unfold run
  rw [if_pos hl]
  dsimp only
  rw [hr, h, fin_ret, fin_nc hp, take_len]
/-- a call that changes the cells of before -/
theorem w_calls {k np ns : Nat} {f : F} {body : List S} {ds : List D} {ρ : Fr} {st st' : Store} {d : D} (g : Store) (ht : tbl f = ⟨np, ns, false, body⟩) (hl : ds.length = np) (hr : ds.map some ++ empties (ns - np) = ρ) (h : exs (call k) body ρ st = .ret d (st' ++ g)) (hp : isP d = true) (hs : st'.length = st.length) :
    call (k + 1) f ds st = .ok d st' := by
  rw [call_succ, ht]
  unfold run
  rw [if_pos hl]
  dsimp only
  rw [hr, h, fin_ret, fin_nc hp, ← hs, take_app]
theorem c_rets {k np ns : Nat} {f : F} {body : List S} {ds : List D} {ρ : Fr} {st st' : Store} {d : D} (ht : tbl f = ⟨np, ns, false, body⟩) (hl : ds.length = np) (hr : ds.map some ++ empties (ns - np) = ρ) (h : exs (call k) body ρ st = .ret d st') (hp : isP d = true) (hs : st'.length = st.length) :
    call (k + 1) f ds st = .ok d st' := w_calls [] ht hl hr (by rw [h, List.append_nil]) hp hs
theorem of_call {k : Nat} {f : F} {ds : List D} {r : R D} (h : call k f ds st = r) : call k f ds st = r := h
theorem br_dT {p : Prop} [Decidable p] (h : p → G) : decide p = true → G := fun e => h (of_decide_eq_true e)
theorem br_dF {p : Prop} [Decidable p] (h : ¬p → G) : decide p = false → G := fun e => h (of_decide_eq_false e)
theorem br_nT {t : Bool} (h : t = false → G) : (!t) = true → G := fun e => h (by cases t; rfl; cases e)
theorem br_nF {t : Bool} (h : t = true → G) : (!t) = false → G := fun e => h (by cases t; cases e; rfl)
theorem br_aT {t u : Bool} (h : t = true → u = true → G) : (t && u) = true → G := fun e => by cases t <;> cases u <;> first | exact h rfl rfl | cases e
theorem br_oF {t u : Bool} (h : t = false → u = false → G) : (t || u) = false → G := fun e => by cases t <;> cases u <;> first | exact h rfl rfl | cases e
theorem br_aF {t u : Bool} (h : t = false → G) (h2 : t = true → u = false → G) : (t && u) = false → G := fun e => by cases t <;> cases u <;> first | exact h rfl | exact h2 rfl rfl | cases e
theorem br_oT {t u : Bool} (h : t = true → G) (h2 : t = false → u = true → G) : (t || u) = true → G := fun e => by cases t <;> cases u <;> first | exact h rfl | exact h2 rfl rfl | cases e
theorem and_tt {t u : Bool} (h : t = true) (h2 : u = true) : (t && u) = true := by rw [h, h2]; rfl
theorem dec_tt {p : Prop} [Decidable p] (h : p) : decide p = true := decide_eq_true h
theorem dec_ff {p : Prop} [Decidable p] (h : ¬p) : decide p = false := decide_eq_false h
theorem d_int {i j : Int} (h : i = j) : D.int i = D.int j := by rw [h]
theorem d_bl {i j : Bool} (h : i = j) : D.bl i = D.bl j := by rw [h]
theorem shl_one (j : Int) (h : 0 ≤ j) (h1 : j ≤ 1000000) : binS st .LShift (.int 1) (.int j) = some (.int (2 ^ j.toNat)) := by
  rw [shl_int _ _ h h1 (by omega) (by omega), one_mul_pow]
theorem br_red {t : Bool} {b : Bool} (_ : t = b) (h : G) : t = b → G := fun _ => h
theorem br_absT {t : Bool} (h : t = false) : t = true → G := fun e => by rw [h] at e; cases e
theorem br_absF {t : Bool} (h : t = true) : t = false → G := fun e => by rw [h] at e; cases e
theorem g_ite {r : R D} (h : ev C (.ite c a b) ρ st = r) : ev C (.ite c a b) ρ st = r := h
theorem g_getS {i : Nat} {o : Option D} (h : getS ρ i = o) : getS ρ i = o := h
theorem g_truth {o : Option Bool} (h : truth st x = o) : truth st x = o := h
theorem g_idx {o : Option D} (h : idxS st x y = o) : idxS st x y = o := h
theorem g_bi {bi : Bi} {ds : List D} {o : Option D} (h : biS st bi ds = o) : biS st bi ds = o := h
theorem g_bin {op : Operator} {o : Option D} (h : binS st op x y = o) : binS st op x y = o := h
theorem g_cmp {op : CmpOp} {o : Option Bool} (h : cmpS st op x y = o) : cmpS st op x y = o := h
theorem g_ty {t : Bool} (h : tyOk x = t) : tyOk x = t := h
theorem g_isP {t : Bool} (h : isP x = t) : isP x = t := h
theorem g_all {f : D → Bool} {ds : List D} {t : Bool} (h : ds.all f = t) : ds.all f = t := h
theorem g_val {g : _root_.Py.G} {v : D} (h : g.val = v) : g.val = v := h
theorem g_part {ls : List D} {o} (h : partI ls = o) : partI ls = o := h
theorem g_sli {i j : Option Int} {o} (h : sliS st i j x = o) : sliS st i j x = o := h
theorem g_rev {o} (h : revS st x = o) : revS st x = o := h
theorem g_src {kd : Sk} {ds : List D} {o} (h : srcS st kd ds = o) : srcS st kd ds = o := h
theorem g_setM {is : List Nat} {ds : List D} {o} (h : setMany ρ is ds = o) : setMany ρ is ds = o := h
theorem g_eqD (h : x = y) : x = y := h
theorem g_eqS {s t : Store} (h : s = t) : s = t := h
theorem g_eqF (h : ρ = ρ') : ρ = ρ' := h
end
local macro_rules | `(tactic| decreasing_trivial_pre_omega) => `(tactic| ((with_reducible apply_assumption -exfalso -symm); done))
local macro_rules | `(tactic| get_elem_tactic_trivial) => `(tactic| first
  | ((with_reducible refine g_getS ?_); rfl)
  | with_reducible exact v_nil
  | ((with_reducible refine of_call ?_); decreasing_trivial_pre_omega)
  | ((with_reducible apply v_cons) <;> try get_elem_tactic_trivial)
  | ((with_reducible apply v_var) <;> try get_elem_tactic_trivial)
  | with_reducible exact v_cst
  | ((with_reducible apply v_glo) <;> try get_elem_tactic_trivial)
  | with_reducible exact v_fnv
  | ((with_reducible apply v_bin) <;> try get_elem_tactic_trivial)
  | ((with_reducible apply v_cmp) <;> try get_elem_tactic_trivial)
  | ((with_reducible apply v_idx) <;> try get_elem_tactic_trivial)
  | ((with_reducible apply v_call) <;> try get_elem_tactic_trivial)
  | ((with_reducible apply v_callk) <;> try get_elem_tactic_trivial)
  | ((with_reducible apply w_callk) <;> try get_elem_tactic_trivial)
  | ((with_reducible apply v_bi) <;> try get_elem_tactic_trivial)
  | ((with_reducible apply v_tup) <;> try get_elem_tactic_trivial)
  | ((with_reducible apply v_lst) <;> try get_elem_tactic_trivial)
  | ((with_reducible apply v_neg) <;> try get_elem_tactic_trivial)
  | ((with_reducible apply v_not) <;> try get_elem_tactic_trivial)
  | ((with_reducible apply v_isi) <;> try get_elem_tactic_trivial)
  | ((with_reducible apply w_and) <;> try get_elem_tactic_trivial)
  | ((with_reducible apply w_or) <;> try get_elem_tactic_trivial)
  | ((with_reducible apply w_chn) <;> try get_elem_tactic_trivial)
  | ((with_reducible apply w_sli) <;> try get_elem_tactic_trivial)
  | ((with_reducible apply w_rev) <;> try get_elem_tactic_trivial)
  | ((with_reducible refine g_ite ?_); first
    | exact v_iteT (by get_elem_tactic_trivial) (by get_elem_tactic_trivial) (by get_elem_tactic_trivial)
    | exact v_iteF (by get_elem_tactic_trivial) (by get_elem_tactic_trivial) (by get_elem_tactic_trivial)
    | exact w_iteI (by get_elem_tactic_trivial) (by get_elem_tactic_trivial) (by get_elem_tactic_trivial) (by get_elem_tactic_trivial)
    | exact w_ite (by get_elem_tactic_trivial) (by get_elem_tactic_trivial) (by get_elem_tactic_trivial) (by get_elem_tactic_trivial)
    | ((with_reducible apply w_iteI) <;> try get_elem_tactic_trivial)
    | ((with_reducible apply w_ite) <;> try get_elem_tactic_trivial))
  | ((with_reducible apply w_asg) <;> try get_elem_tactic_trivial)
  | ((with_reducible apply x_par) <;> try get_elem_tactic_trivial)
  | ((with_reducible apply x_unp) <;> try get_elem_tactic_trivial)
  | ((with_reducible apply w_ret) <;> try get_elem_tactic_trivial)
  | with_reducible exact w_nil
  | ((with_reducible refine g_leN ?_); first | omega | (simp only [List.length_cons, List.length_nil, List.length_map]; omega))
  | with_reducible exact w_cnt
  | with_reducible exact w_brk
  | ((with_reducible apply w_if) <;> try get_elem_tactic_trivial)
  | ((with_reducible apply tst_ok) <;> try get_elem_tactic_trivial)
  | ((fail_if_success (refine br_red rfl ?_)); exact br_absT rfl)
  | ((fail_if_success (refine br_red rfl ?_)); exact br_absF rfl)
  | ((fail_if_success (exact br_absT rfl)); (fail_if_success (exact br_absF rfl)); refine br_red rfl ?_; try get_elem_tactic_trivial)
  | ((with_reducible refine br_dT ?_); try get_elem_tactic_trivial)
  | ((with_reducible refine br_dF ?_); try get_elem_tactic_trivial)
  | ((with_reducible refine br_nT ?_); try get_elem_tactic_trivial)
  | ((with_reducible refine br_nF ?_); try get_elem_tactic_trivial)
  | ((with_reducible refine br_aT ?_); try get_elem_tactic_trivial)
  | ((with_reducible refine br_oF ?_); try get_elem_tactic_trivial)
  | ((with_reducible refine br_aF ?_ ?_) <;> try get_elem_tactic_trivial)
  | ((with_reducible refine br_oT ?_ ?_) <;> try get_elem_tactic_trivial)
  | ((with_reducible refine g_bin ?_); first
    | with_reducible exact add_int _ _
    | with_reducible exact sub_int _ _
    | ((with_reducible refine mul_int _ _ ?_) <;> (try omega))
    | ((with_reducible refine mod_int _ _ ?_) <;> (try omega))
    | ((with_reducible refine div_int _ _ ?_ ?_) <;> (try omega))
    | ((with_reducible refine shl_one _ ?_ ?_) <;> (try omega))
    | ((with_reducible refine shl_int _ _ ?_ ?_ ?_ ?_) <;> (try omega))
    | ((with_reducible refine shr_int _ _ ?_) <;> (try omega))
    | with_reducible exact and_int _ _
    | with_reducible exact or_int _ _
    | rfl)
  | ((with_reducible refine g_cmp ?_); first
    | with_reducible exact eq_int _ _
    | with_reducible exact ne_int _ _
    | with_reducible exact lt_int _ _
    | with_reducible exact le_int _ _
    | with_reducible exact gt_int _ _
    | with_reducible exact ge_int _ _
    | rfl)
  | with_reducible exact neg_int _
  | ((with_reducible refine and_tt ?_ ?_) <;> first | (get_elem_tactic_trivial; done) | rfl | skip)
  | ((with_reducible refine dec_tt ?_); first | omega | assumption)
  | ((with_reducible refine dec_ff ?_); first | omega | assumption)
  | ((with_reducible refine g_truth ?_); rfl)
  | ((with_reducible refine g_idx ?_); rfl)
  | ((with_reducible refine g_bi ?_); rfl)
  | ((with_reducible refine g_ty ?_); rfl)
  | ((with_reducible refine g_isP ?_); rfl)
  | ((with_reducible refine g_all ?_); rfl)
  | ((with_reducible apply g_val) <;> first | exact (rfl : _ = D.int _) | exact (rfl : _ = D.tup _) | exact (rfl : _ = D.lst _) | rfl)
  | ((with_reducible refine g_part ?_); rfl)
  | ((with_reducible refine g_sli ?_); rfl)
  | ((with_reducible refine g_rev ?_); rfl)
  | ((with_reducible refine g_src ?_); rfl)
  | ((with_reducible apply g_eqD) <;> first
    | with_reducible rfl
    | ((with_reducible refine d_int ?_); first | with_reducible rfl | omega)
    | ((with_reducible refine d_bl ?_); first | rfl | get_elem_tactic_trivial | (simp; done)))
  | ((with_reducible apply g_eqS) <;> with_reducible rfl)
  | ((dsimp only [List.cons_append, List.nil_append, setS_zero, setS_succ, setMany_cons, setMany_nil]) <;> first | with_reducible rfl | (try get_elem_tactic_trivial))
  | (intro _; first | (exfalso; omega; done) | (try get_elem_tactic_trivial)))

/-! ### calls of the program's smallest defs -/
theorem c_ret {k np ns : Nat} {f : F} {body : List S} {ds : List D} {ρ : Fr} {st : Store} {d : D} (g : Store) (ht : tbl f = ⟨np, ns, false, body⟩) (hl : ds.length = np) (hr : ds.map some ++ empties (ns - np) = ρ) (h : exs (call k) body ρ st = .ret d (st ++ g)) (hp : isP d = true) :
    call (k + 1) f ds st = .ok d st := by
  rw [call_succ, ht]
  unfold run
  rw [if_pos hl]
  dsimp only
  rw [hr, h, fin_ret, fin_nc hp, take_app]
theorem c_ret0 {k np ns : Nat} {f : F} {body : List S} {ds : List D} {ρ : Fr} {st : Store} {d : D} (ht : tbl f = ⟨np, ns, false, body⟩) (hl : ds.length = np) (hr : ds.map some ++ empties (ns - np) = ρ) (h : exs (call k) body ρ st = .ret d st) (hp : isP d = true) :
    call (k + 1) f ds st = .ok d st := c_ret [] ht hl hr (by rw [h, List.append_nil]) hp
theorem c_is_number (k : Nat) (i : Int) (st : Store) : call (k + 1) .is_number [.int i] st = .ok (.bl true) st := c_ret0 (np := 1) (ns := 1) rfl rfl rfl rfl rfl
theorem c_is_within (k : Nat) (i a b : Int) (st : Store) : call (k + 2) .is_within [.int i, .int a, .int b] st = .ok (.bl (decide (a ≤ i) && decide (i ≤ b))) st := by
  refine c_ret0 (np := 3) (ns := 3) rfl rfl rfl (x_ret (v_andT (v_call (v_cons (v_var rfl) v_nil) (c_is_number k i st)) rfl ?_)) rfl
  by_cases h : a ≤ i
  · rw [decide_eq_true h, Bool.true_and]
    exact v_chnT (v_var rfl) (v_var rfl) (by rw [le_int, decide_eq_true h]) (v_var rfl) rfl
  · rw [decide_eq_false h, Bool.false_and]
    exact v_chnF (v_var rfl) (v_var rfl) (by rw [le_int, decide_eq_false h])
theorem c_sure_within (k : Nat) (i a b : Int) (st : Store) (h : a ≤ i) (h2 : i ≤ b) : call (k + 3) .sure_within [.int i, .int a, .int b] st = .ok (.int i) st := by
  have e := c_is_within k i a b st
  rw [decide_eq_true h, decide_eq_true h2] at e
  exact c_ret0 (np := 3) (ns := 3) rfl rfl rfl (x_ifF0 (tst_ok (v_not (v_call (v_cons (v_var rfl) (v_cons (v_var rfl) (v_cons (v_var rfl) v_nil))) e) rfl) rfl) (x_ret (v_var rfl))) rfl
theorem c_sure_width (k : Nat) (w : Int) (st : Store) (h : 1 ≤ w) (h2 : w ≤ 64) : call (k + 4) .sure_width [.int w] st = .ok (.int w) st :=
  c_ret0 (np := 1) (ns := 1) rfl rfl rfl (x_ret (v_call (v_cons (v_var rfl) (v_cons v_cst (v_cons (v_glo rfl) v_nil))) (c_sure_within k w 1 64 st h h2))) rfl
theorem c_top_in (k : Nat) (w : Int) (st : Store) (h : 0 ≤ w) (h2 : w ≤ 1000000) : call (k + 1) .top_in [.int w] st = .ok (.int (2 ^ w.toNat - 1)) st := by
  refine c_ret0 (np := 1) (ns := 1) rfl rfl rfl (x_ret (v_bin (v_bin v_cst (v_var rfl) (shl_int _ _ h h2 (by omega) (by omega))) v_cst ?_)) rfl
  rw [sub_int, one_mul_pow]
theorem c_sure_word (k : Nat) (w n : Int) (st : Store) (h : 0 ≤ w) (h2 : w ≤ 64) (hn : 0 ≤ n) (hn2 : n < 2 ^ w.toNat) : call (k + 4) .sure_word [.int w, .int n] st = .ok (.int n) st :=
  c_ret0 (np := 2) (ns := 2) rfl rfl rfl (x_ret (v_call (v_cons (v_var rfl) (v_cons v_cst (v_cons (v_call (v_cons (v_var rfl) v_nil) (c_top_in (k + 2) w st h (by omega))) v_nil))) (c_sure_within k n 0 _ st hn (by omega)))) rfl
theorem c_two (k : Nat) (w : Int) (st : Store) (h : 0 ≤ w) (h2 : w ≤ 1000000) : call (k + 1) .l_two [.int w] st = .ok (.int (2 ^ w.toNat)) st := by
  refine c_ret0 (np := 1) (ns := 1) rfl rfl rfl (x_ret (v_bin v_cst (v_var rfl) ?_)) rfl
  rw [shl_int _ _ h h2 (by omega) (by omega), one_mul_pow]
local macro_rules | `(tactic| decreasing_trivial_pre_omega) => `(tactic| ((with_reducible refine c_is_number _ _ _) <;> first | omega | rfl | assumption | (try get_elem_tactic_trivial)))
local macro_rules | `(tactic| decreasing_trivial_pre_omega) => `(tactic| ((with_reducible refine c_is_within _ _ _ _ _) <;> first | omega | rfl | assumption | (try get_elem_tactic_trivial)))
local macro_rules | `(tactic| decreasing_trivial_pre_omega) => `(tactic| ((with_reducible refine c_sure_within _ _ _ _ _ ?_ ?_) <;> first | omega | rfl | assumption | (try get_elem_tactic_trivial)))
local macro_rules | `(tactic| decreasing_trivial_pre_omega) => `(tactic| ((with_reducible refine c_sure_width _ _ _ ?_ ?_) <;> first | omega | rfl | assumption | (try get_elem_tactic_trivial)))
local macro_rules | `(tactic| decreasing_trivial_pre_omega) => `(tactic| ((with_reducible refine c_top_in _ _ _ ?_ ?_) <;> first | omega | rfl | assumption | (try get_elem_tactic_trivial)))
local macro_rules | `(tactic| decreasing_trivial_pre_omega) => `(tactic| ((with_reducible refine c_sure_word _ _ _ _ ?_ ?_ ?_ ?_) <;> first | omega | rfl | assumption | (try get_elem_tactic_trivial)))
local macro_rules | `(tactic| decreasing_trivial_pre_omega) => `(tactic| ((with_reducible refine c_two _ _ _ ?_ ?_) <;> first | omega | rfl | assumption | (try get_elem_tactic_trivial)))

/-! ### comprehensions, lists -/
theorem lcL_map {f : D → Store → R (Option D)} {g : D → D} {st : Store} : ∀ (xs acc : List D), (∀ d ∈ xs, ∀ acc : List D, f d (st ++ [acc]) = .ok (some (g d)) (st ++ [acc])) → acc.length + xs.length ≤ 1000000 →
    lcL f st.length xs (st ++ [acc]) = .ok (acc ++ xs.map g) st
  | [], acc, _, _ => by
    rw [lcL]
    have e1 : (st ++ [acc]).getD st.length [] = acc := by simp
    rw [e1, take_app, List.map_nil, List.append_nil]
  | d :: ds, acc, h, hl => by
    rw [List.length_cons] at hl
    rw [lcL, h d List.mem_cons_self acc, bind_ok, lcP]
    have e1 : (st ++ [acc]).getD st.length [] = acc := by simp
    rw [e1, if_pos (by omega)]
    have e2 : (st ++ [acc]).set st.length (acc ++ [g d]) = st ++ [acc ++ [g d]] := by
      rw [List.set_append_right _ _ (Nat.le_refl _), Nat.sub_self]; rfl
    rw [e2, lcL_map ds (acc ++ [g d]) (fun x hx => h x (List.mem_cons_of_mem _ hx)) (by rw [List.length_append, List.length_singleton]; omega)]
    rw [List.append_assoc, List.map_cons]
    rfl
theorem v_lcMap {C : F → List D → Store → R D} {ρ : Fr} {st s1 : Store} {elt : E} {tg : Tg} {kd : Sk} {src : List E} {own : List Nat} {ds xs : List D} {g : D → D} (h1 : evs C src ρ st = .ok ds s1) (h2 : srcS s1 kd ds = some (.l xs)) (hl : xs.length ≤ 1000000)
    (h3 : ∀ d ∈ xs, ∃ ρ1, bindT (wipeS ρ own) tg d = some ρ1 ∧ ∀ acc : List D, ev C elt ρ1 (s1 ++ [acc]) = .ok (g d) (s1 ++ [acc]) ∧ isP (g d) = true) : ev C (.lc elt tg kd src [] own) ρ st = .ok (.lst (xs.map g)) s1 := by
  rw [ev, h1, bind_ok, h2, opt_some, bind_ok, lcS, lcL_map xs [] (fun d hd acc => ?_) (by simpa using hl), bind_ok, List.nil_append]
  obtain ⟨ρ1, h4, h5⟩ := h3 d hd
  obtain ⟨h6, h7⟩ := h5 acc
  rw [h4, opt_some, bind_ok, evs, bind_ok]
  show R.calm (((ev C elt ρ1 (s1 ++ [acc])).bind fun y s4 => if isP y then .ok (some y) s4 else .no)) = _
  rw [h6, bind_ok, if_pos h7]
  rfl
theorem zipD (xs : List D) : List.zipWith (fun x y => D.tup [x, y]) xs xs = xs.map fun x => D.tup [x, x] := by
  induction xs with
  | nil => rfl
  | cons x xs ih => rw [List.zipWith_cons_cons, ih]; rfl
theorem okd_isP : ∀ {n : Nat} {d : D}, okd n d = true → isP d = true := by
  intro n d h
  cases d <;> first | rfl | (cases n <;> (simp only [okd] at h; cases h))
theorem okds_all {n : Nat} : ∀ {xs : List D}, okds n xs = true → ∀ x ∈ xs, okd n x = true
  | [], _, x, hx => by cases hx
  | y :: ys, h, x, hx => by
    simp only [okds, Bool.and_eq_true] at h
    rcases List.mem_cons.mp hx with rfl | hx
    · exact h.1
    · exact okds_all h.2 x hx
/-- lists not longer than a million within -/
def shortD : D → Prop
  | .lst xs => xs.length ≤ 1000000
  | .tup xs => xs.length ≤ 1000000
  | _ => True
theorem eqd_refl_int (i : Int) : eqd (.int i) (.int i) = true := by simp [eqd]
theorem eqd_refl_str (x : List Nat) : eqd (.str x) (.str x) = true := by simp [eqd]
theorem eqd_refl_bl (b : Bool) : eqd (.bl b) (.bl b) = true := by simp [eqd]
mutual
/-- every list within is at most a million long -/
def shrt : D → Bool
  | .lst xs => decide (xs.length ≤ 1000000) && shrts xs
  | .tup xs => decide (xs.length ≤ 1000000) && shrts xs
  | _ => true
def shrts : List D → Bool
  | [] => true
  | x :: xs => shrt x && shrts xs
end
theorem shrts_all : ∀ {xs : List D}, shrts xs = true → ∀ x ∈ xs, shrt x = true
  | [], _, x, hx => by cases hx
  | y :: ys, h, x, hx => by
    simp only [shrts, Bool.and_eq_true] at h
    rcases List.mem_cons.mp hx with rfl | hx
    · exact h.1
    · exact shrts_all h.2 x hx
theorem bls_all (n : Nat) : blsOf (List.replicate n (D.bl true)) = some (List.replicate n true) := by
  induction n with
  | zero => rfl
  | succ n ih => rw [List.replicate_succ, blsOf, ih]; rfl
theorem all_true (st : Store) (xs : List D) : biS st .all [.lst (xs.map fun _ => D.bl true)] = some (.bl true) := by
  show ((lstOf st (.lst _)).bind fun xs => (blsOf xs).map fun bs => D.bl (bs.all id)) = _
  show ((blsOf _).map fun bs => D.bl (bs.all id)) = _
  have e : xs.map (fun _ => D.bl true) = List.replicate xs.length (D.bl true) := List.map_const' ..
  rw [e, bls_all, Option.map_some]
  simp
theorem c_same : ∀ (n k : Nat) (d : D) (st : Store), okd n d = true → shrt d = true → call (k + n + 1) .l_same [d, d] st = .ok (.bl true) st
  | n, k, .non, st, _, _ => c_ret0 (np := 2) (ns := 4) rfl rfl rfl rfl rfl
  | n, k, .bl b, st, _, _ => by
    have e : ∀ st, cmpS st .Eq (.bl b) (.bl b) = some true := fun st => by cases b <;> rfl
    refine c_ret0 (np := 2) (ns := 4) rfl rfl rfl (x_ifF0 rfl (x_ifF0 rfl (x_ifT rfl ?_))) rfl
    rw [x_ret (v_andT (x := .bl true) rfl rfl (v_andT (x := .bl true) rfl rfl (v_cmp (z := true) (v_var rfl) (v_var rfl) (e _))))]
    rfl
  | n, k, .int i, st, _, _ => by
    refine c_ret0 (np := 2) (ns := 4) rfl rfl rfl (x_ifF0 rfl (x_ifF0 rfl (x_ifF0 rfl ?_))) rfl
    exact x_ret (v_andT (x := .bl true) rfl rfl (v_andT (x := .bl true) rfl rfl (v_cmp (v_var rfl) (v_var rfl) (by rw [eq_int, decide_eq_true rfl]))))
  | n, k, .str z, st, h, _ => by
    have ho : okd 20 (.str z) = true := by rw [okd_str]; rw [okd_str] at h; exact h
    have e : ∀ st, cmpS st .Eq (.str z) (.str z) = some true := fun st => by
      show (if (okd 20 (.str z) && okd 20 (.str z)) = true then some (eqd (.str z) (.str z)) else none) = _
      rw [ho, eqd_refl_str]; rfl
    refine c_ret0 (np := 2) (ns := 4) rfl rfl rfl (x_ifF0 rfl (x_ifF0 rfl (x_ifT rfl ?_))) rfl
    rw [x_ret (v_andT (x := .bl true) rfl rfl (v_andT (x := .bl true) rfl rfl (v_cmp (z := true) (v_var rfl) (v_var rfl) (e _))))]
    rfl
  | 0, k, .lst xs, st, h, _ => by simp only [okd] at h; cases h
  | 0, k, .tup xs, st, h, _ => by simp only [okd] at h; cases h
  | n + 1, k, .lst xs, st, h, hs => by
    simp only [okd] at h
    simp only [shrt, Bool.and_eq_true, decide_eq_true_eq] at hs
    refine c_ret0 (np := 2) (ns := 4) rfl rfl rfl (x_ifT rfl ?_) rfl
    rw [x_ifF0 rfl (x_ret (v_andT (x := .bl true) (v_cmp (v_bi (v_cons (v_var rfl) v_nil) rfl) (v_bi (v_cons (v_var rfl) v_nil) rfl) (by rw [eq_int, decide_eq_true rfl])) rfl
      (v_bi (v_cons (v_lcMap (g := fun _ => .bl true) (xs := List.zipWith (fun x y => D.tup [x, y]) xs xs) (v_cons (v_var rfl) (v_cons (v_var rfl) v_nil)) rfl (by rw [zipD, List.length_map]; exact hs.1) ?_) v_nil) (all_true _ _))))]
    · rfl
    · intro d hd
      rw [zipD] at hd
      obtain ⟨x, hx, rfl⟩ := List.mem_map.mp hd
      exact ⟨_, rfl, fun acc => ⟨v_call (v_cons (v_var rfl) (v_cons (v_var rfl) v_nil)) (c_same n k x _ (okds_all h x hx) (shrts_all hs.2 x hx)), rfl⟩⟩
  | n + 1, k, .tup xs, st, h, hs => by
    simp only [okd] at h
    simp only [shrt, Bool.and_eq_true, decide_eq_true_eq] at hs
    refine c_ret0 (np := 2) (ns := 4) rfl rfl rfl (x_ifT rfl ?_) rfl
    rw [x_ifF0 rfl (x_ret (v_andT (x := .bl true) (v_cmp (v_bi (v_cons (v_var rfl) v_nil) rfl) (v_bi (v_cons (v_var rfl) v_nil) rfl) (by rw [eq_int, decide_eq_true rfl])) rfl
      (v_bi (v_cons (v_lcMap (g := fun _ => .bl true) (xs := List.zipWith (fun x y => D.tup [x, y]) xs xs) (v_cons (v_var rfl) (v_cons (v_var rfl) v_nil)) rfl (by rw [zipD, List.length_map]; exact hs.1) ?_) v_nil) (all_true _ _))))]
    · rfl
    · intro d hd
      rw [zipD] at hd
      obtain ⟨x, hx, rfl⟩ := List.mem_map.mp hd
      exact ⟨_, rfl, fun acc => ⟨v_call (v_cons (v_var rfl) (v_cons (v_var rfl) v_nil)) (c_same n k x _ (okds_all h x hx) (shrts_all hs.2 x hx)), rfl⟩⟩
  | n, k, .ro _, st, h, _ => by cases n <;> (simp only [okd] at h; cases h)
  | n, k, .cell _, st, h, _ => by cases n <;> (simp only [okd] at h; cases h)
  | n, k, .fn _, st, h, _ => by cases n <;> (simp only [okd] at h; cases h)
  | n, k, .dic _ _, st, h, _ => by cases n <;> (simp only [okd] at h; cases h)
  | n, k, .dks _, st, h, _ => by cases n <;> (simp only [okd] at h; cases h)
  | n, k, .set _, st, h, _ => by cases n <;> (simp only [okd] at h; cases h)
  | n, k, .exc _ _, st, h, _ => by cases n <;> (simp only [okd] at h; cases h)

mutual
/-- no list within -/
def noL : D → Bool
  | .lst _ => false
  | .tup xs => noLs xs
  | _ => true
def noLs : List D → Bool
  | [] => true
  | x :: xs => noL x && noLs xs
end
theorem noLs_all : ∀ {xs : List D}, noLs xs = true → ∀ x ∈ xs, noL x = true
  | [], _, x, hx => by cases hx
  | y :: ys, h, x, hx => by
    simp only [noLs, Bool.and_eq_true] at h
    rcases List.mem_cons.mp hx with rfl | hx
    · exact h.1
    · exact noLs_all h.2 x hx
/-! ### draws as functions -/
def takeV : List D → Int → Int
  | [.int a, .int b, .int c], n => if 0 < a then a % n else drawV b (c + 1) % n
  | _, _ => 0
def takeS : List D → Int → List D
  | [.int a, .int b, .int c], n => if 0 < a then [.int (a / n), .int b, .int c] else [.int a, .int b, .int (c + 1)]
  | t, _ => t
theorem takeV_bd (t : List D) (n : Int) (hn : 0 < n) : 0 ≤ takeV t n ∧ takeV t n < n := by
  unfold takeV
  split
  · split
    · exact ⟨Int.emod_nonneg _ (by omega), Int.emod_lt_of_pos _ hn⟩
    · exact ⟨Int.emod_nonneg _ (by omega), Int.emod_lt_of_pos _ hn⟩
  · omega
theorem Tin_take {m : Nat} {t : List D} {n : Int} (h : Tin (m + 1) t) (hn : 0 < n) : Tin m (takeS t n) := by
  obtain ⟨a, b, c, rfl, ha, hb, hb2, hc, hc2⟩ := h
  by_cases h0 : 0 < a
  · rw [takeS, if_pos h0]
    exact ⟨_, _, _, rfl, Int.ediv_nonneg ha (by omega), hb, hb2, hc, by omega⟩
  · rw [takeS, if_neg h0]
    exact ⟨_, _, _, rfl, ha, hb, hb2, by omega, by omega⟩
theorem Tin_le {m m' : Nat} {t : List D} (h : Tin m t) (hm : m' ≤ m) : Tin m' t := by
  obtain ⟨a, b, c, e, ha, hb, hb2, hc, hc2⟩ := h
  exact ⟨a, b, c, e, ha, hb, hb2, hc, by omega⟩
theorem c_takeF (k m : Nat) (n : Int) (g : Store) (t : List D) (h : Tin (m + 1) t) (hn : 0 < n) (hn2 : n < 115792089237316195423570985008687907853269984665640564039457584007913129639936) :
    call (k + 1) .l_take [.cell 0, .int n] (t :: g) = .ok (.int (takeV t n)) (takeS t n :: g) := by
  obtain ⟨a, b, c, rfl, ha, hb, hb2, hc, hc2⟩ := h
  rw [takeV, takeS]
  by_cases h0 : 0 < a
  · rw [if_pos h0, if_pos h0]
    simp only [call_succ, tbl, b_l_take, run_2]
    have e1 : decide (0 < a) = true := decide_eq_true h0
    simp (disch := omega) only [exs, ex, ev, evs, tst, bind_ok, opt_some, st_ok, seq_nx, seq_ret, getS_zero, getS_succ, setS_zero, setS_succ, ix_cell, List.getD_cons_zero, atD_0, List.getElem?_cons_zero, gt_int, map_some', e1, tru_bl, if_true, bi_int, mod_int, div_int, emp_succ, emp_zero, List.cons_append, List.nil_append, isP, fin_ret, fin_int, Int.reduceLE, Int.reduceToNat, Nat.reduceAdd, Nat.reduceLT, Nat.zero_add, if_true, Int.le_refl, Int.toNat_zero, List.length_cons, List.set_cons_zero, List.length_nil, List.take_succ_cons, List.take_length]
  · have e0 : a = 0 := by omega
    subst e0
    rw [if_neg h0, if_neg h0]
    have e1 : decide ((0 : Int) < 0) = false := rfl
    have hq := Int.emod_nonneg ((b + 48271 * (c + 1)) * (39373 + (c + 1))) (show (2147483647 : Int) ≠ 0 by decide)
    have hq2 := Int.emod_lt_of_pos ((b + 48271 * (c + 1)) * (39373 + (c + 1))) (show (0 : Int) < 2147483647 by decide)
    unfold drawV onceV
    simp only [call_succ, tbl, b_l_take, run_2]
    simp (disch := omega) only [exs, ex, ev, evs, tst, bind_ok, opt_some, st_ok, seq_nx, seq_ret, getS_zero, getS_succ, setS_zero, setS_succ, ix_cell, List.getD_cons_zero, atD_0, atD_1, atD_2, List.getElem?_cons_zero, List.getElem?_cons_succ, gt_int, map_some', e1, tru_bl, if_true, if_false, Bool.false_eq_true, bi_int, mod_int, div_int, add_int, mul_int, emp_succ, emp_zero, List.cons_append, List.nil_append, isP, fin_ret, fin_int, Int.reduceLE, Int.reduceToNat, Nat.reduceAdd, Nat.reduceLT, Nat.zero_add, Int.le_refl, Int.toNat_zero, List.length_cons, List.set_cons_zero, List.set_cons_succ, List.length_nil, List.take_succ_cons, List.take_length]
/-- one of a list -/
def ofV (t : List D) (gs : List D) : D := (gs[(takeV t gs.length).toNat]?).getD .non
theorem ofV_mem (t : List D) (gs : List D) (hl : 0 < gs.length) : ofV t gs ∈ gs := by
  have h := takeV_bd t gs.length (by omega)
  unfold ofV
  have h2 : (takeV t gs.length).toNat < gs.length := by omega
  rw [List.getElem?_eq_getElem h2]
  exact List.getElem_mem h2
theorem c_ofF (k m : Nat) (gs : List D) (g : Store) (t : List D) (h : Tin (m + 1) t) (hl : 0 < gs.length) (hl2 : gs.length ≤ 1000000) (hp : gs.all isP = true) :
    call (k + 2) .l_of [.cell 0, .lst gs] (t :: g) = .ok (ofV t gs) (takeS t gs.length :: g) := by
  have h0 := takeV_bd t gs.length (by omega)
  obtain ⟨n, hn⟩ := Int.eq_ofNat_of_zero_le h0.1
  have hn2 : n < gs.length := by omega
  have e : ofV t gs = gs[n] := by unfold ofV; rw [hn, Int.toNat_natCast, List.getElem?_eq_getElem hn2]; rfl
  have hq : isP (ofV t gs) = true := List.all_eq_true.mp hp _ (ofV_mem t gs hl)
  refine c_rets (ds := [_, _]) (ρ := [some _, some _]) rfl rfl rfl (x_ret (v_idx (v_var rfl) (v_call (v_cons (v_var rfl) (v_cons (v_bi (v_cons (v_var rfl) v_nil) (bi_len_lst _ _)) v_nil)) (c_takeF k m gs.length g t h (by omega) (by omega))) ?_)) hq rfl
  rw [ix_lst, hn, atD_nat, e, List.getElem?_eq_getElem hn2]

/-- a drawn WIDTH -/
def wideL (t : List D) : List D := [.int 8, .int 16, .int 32, .int 64, .int (1 + takeV t 64), .int (1 + takeV (takeS t 64) 12)]
def wideV (t : List D) : Int := match ofV (takeS (takeS t 64) 12) (wideL t) with
  | .int w => w
  | _ => 1
def wideS (t : List D) : List D := takeS (takeS (takeS t 64) 12) 6
theorem wide_is (t : List D) : ofV (takeS (takeS t 64) 12) (wideL t) = .int (wideV t) ∧ 1 ≤ wideV t ∧ wideV t ≤ 64 := by
  have h := ofV_mem (takeS (takeS t 64) 12) (wideL t) (show 0 < 6 by decide)
  have h1 := takeV_bd t 64 (by decide)
  have h2 := takeV_bd (takeS t 64) 12 (by decide)
  unfold wideV
  simp only [wideL, List.mem_cons, List.not_mem_nil, or_false] at h
  have e : ∀ w, ofV (takeS (takeS t 64) 12) (wideL t) = .int w → 1 ≤ w → w ≤ 64 → ofV (takeS (takeS t 64) 12) (wideL t) = .int (match ofV (takeS (takeS t 64) 12) (wideL t) with | .int w => w | _ => 1) ∧ 1 ≤ (match ofV (takeS (takeS t 64) 12) (wideL t) with | .int w => w | _ => 1) ∧ (match ofV (takeS (takeS t 64) 12) (wideL t) with | .int w => w | _ => 1) ≤ 64 := by
    intro w hw a b
    rw [hw]
    exact ⟨rfl, a, b⟩
  rcases h with h | h | h | h | h | h <;> exact e _ h (by omega) (by omega)
theorem c_wide (k m : Nat) (g : Store) (t : List D) (h : Tin (m + 3) t) : call (k + 3) .l_wide [.cell 0] (t :: g) = .ok (.int (wideV t)) (wideS t :: g) := by
  have h0 := c_ofF k m (wideL t) g (takeS (takeS t 64) 12) (Tin_take (Tin_take h (by decide)) (by decide)) (show 0 < 6 by decide) (show 6 ≤ 1000000 by decide) rfl
  rw [(wide_is t).1] at h0
  have i1 := Tin_take h (show (0 : Int) < 64 by decide)
  exact c_rets (ds := [_]) (ρ := [some _]) rfl rfl rfl (x_ret (v_call (v_cons (v_var rfl) (v_cons (v_lst (v_cons v_cst (v_cons v_cst (v_cons v_cst (v_cons v_cst (v_cons (v_bin v_cst (v_call (v_cons (v_var rfl) (v_cons v_cst v_nil)) (c_takeF (k + 1) (m + 2) 64 g t h (by decide) (by decide))) (add_int _ _)) (v_cons (v_bin v_cst (v_call (v_cons (v_var rfl) (v_cons v_cst v_nil)) (c_takeF (k + 1) (m + 1) 12 g _ i1 (by decide) (by decide))) (add_int _ _)) v_nil)))))) rfl) v_nil)) h0)) rfl rfl
theorem Tin_wide {m : Nat} {t : List D} (h : Tin (m + 3) t) : Tin m (wideS t) := Tin_take (Tin_take (Tin_take h (by decide)) (by decide)) (by decide)
theorem g_tin1 {m : Nat} {t : List D} {n : Int} (h : Tin m (takeS t n)) : Tin m (takeS t n) := h
theorem g_tin2 {m : Nat} {t : List D} (h : Tin m (wideS t)) : Tin m (wideS t) := h
theorem g_tin {m : Nat} {t : List D} (h : Tin m t) : Tin m t := h
local macro_rules | `(tactic| get_elem_tactic_trivial) => `(tactic| ((with_reducible apply g_tin); first | (with_reducible assumption) | ((with_reducible apply g_tin1); exact Tin_take (by get_elem_tactic_trivial) (by omega)) | ((with_reducible apply g_tin2); exact Tin_wide (by get_elem_tactic_trivial))))
/-- equal things are the same -/
theorem c_same2 (n k : Nat) (d e : D) (st : Store) (h : d = e) (h1 : okd n e = true) (h2 : shrt e = true) : call (k + n + 1) .l_same [d, e] st = .ok (.bl true) st := by
  subst h
  exact c_same n k d st h1 h2

/-! ### powers of 2 -/
theorem pw_pos (n : Nat) : (0 : Int) < 2 ^ n := PyProof.Rows.pow_pos_of (by decide) n
theorem pw_add {a b : Int} (ha : 0 ≤ a) (hb : 0 ≤ b) : (2 : Int) ^ (a + b).toNat = 2 ^ a.toNat * 2 ^ b.toNat := by
  rw [Int.toNat_add ha hb, Int.pow_add]
theorem pw_sub {a b : Int} (ha : 0 ≤ a) (hb : a ≤ b) : (2 : Int) ^ b.toNat = 2 ^ a.toNat * 2 ^ (b - a).toNat := by
  rw [← pw_add ha (by omega)]
  congr 2
  omega
theorem pw_le {a b : Int} (hb : a ≤ b) : (2 : Int) ^ a.toNat ≤ 2 ^ b.toNat := by
  have h : a.toNat ≤ b.toNat := by omega
  obtain ⟨c, hc⟩ := Nat.exists_eq_add_of_le h
  rw [hc, Int.pow_add]
  have h1 := pw_pos a.toNat
  have h2 := pw_pos c
  have := Int.mul_le_mul_of_nonneg_left (show (1 : Int) ≤ 2 ^ c by omega) (Int.le_of_lt h1)
  omega
theorem pw_64 {w : Int} (h : w ≤ 64) : (2 : Int) ^ w.toNat ≤ 18446744073709551616 := pw_le (b := 64) h
theorem pw_128 {w : Int} (h : w ≤ 128) : (2 : Int) ^ w.toNat ≤ 340282366920938463463374607431768211456 := pw_le (b := 128) h
theorem pw_two {w : Int} (h : 1 ≤ w) : (2 : Int) ≤ 2 ^ w.toNat := pw_le (a := 1) h
theorem pw_succ {w : Int} (h : 0 ≤ w) : (2 : Int) ^ (w + 1).toNat = 2 * 2 ^ w.toNat := by
  rw [pw_add h (by decide)]
  show _ * (2 ^ 1 : Int) = _
  omega
theorem pw_half {w : Int} (h : 1 ≤ w) : (2 : Int) ^ w.toNat = 2 * 2 ^ (w - 1).toNat := by
  have := pw_succ (w := w - 1) (by omega)
  rw [Int.sub_add_cancel] at this
  exact this
theorem mask_int (x w : Int) : PySem.Builtin.bitAnd x (2 ^ w.toNat - 1) = x % 2 ^ w.toNat := PySem.W.kbt_mask x _
theorem nat_and_high {a b n : Nat} (h : a < 2 ^ n) : a &&& (b * 2 ^ n) = 0 := by
  apply Nat.eq_of_testBit_eq
  intro i
  rw [Nat.testBit_and, Nat.zero_testBit, Nat.testBit_mul_two_pow]
  by_cases hi : n ≤ i
  · rw [Nat.testBit_lt_two_pow (Nat.lt_of_lt_of_le h (Nat.pow_le_pow_right (by decide) hi))]
    simp
  · simp [hi]
theorem or_high {a b : Int} {n : Nat} (h0 : 0 ≤ a) (h : a < 2 ^ n) (hb : 0 ≤ b) : PySem.Builtin.bitOr a (b * 2 ^ n) = a + b * 2 ^ n := by
  rw [PyProof.Rows.bitOr_and]
  have e : PySem.Builtin.bitAnd a (b * 2 ^ n) = 0 := by
    obtain ⟨x, rfl⟩ := Int.eq_ofNat_of_zero_le h0
    obtain ⟨y, rfl⟩ := Int.eq_ofNat_of_zero_le hb
    have e1 : ((y : Int) * 2 ^ n) = ((y * 2 ^ n : Nat) : Int) := by push_cast; rfl
    rw [e1, PySem.W.os_band, nat_and_high]
    · rfl
    · have : ((x : Int)) < ((2 ^ n : Nat) : Int) := by push_cast; exact h
      omega
  omega
theorem mulmod_high (x : Int) {m w : Int} (hm : 0 ≤ m) (hw : m ≤ w) : x * 2 ^ (w - m).toNat % 2 ^ w.toNat = x % 2 ^ m.toNat * 2 ^ (w - m).toNat := by
  rw [pw_sub hm hw, Int.mul_comm x, Int.mul_comm (2 ^ m.toNat), Int.mul_emod_mul_of_pos _ _ (pw_pos _), Int.mul_comm]
/-- turned right -/
def turnV (w x k : Int) : Int := x / 2 ^ (k % w).toNat + x % 2 ^ (k % w).toNat * 2 ^ (w - k % w).toNat
theorem div_lt_pw {x m w : Int} (h0 : 0 ≤ x) (h : x < 2 ^ w.toNat) (hm : 0 ≤ m) (hw : m ≤ w) : x / 2 ^ m.toNat < 2 ^ (w - m).toNat := by
  rw [pw_sub hm hw, Int.mul_comm] at h
  exact Int.ediv_lt_of_lt_mul (pw_pos _) h
theorem turn_bits {w x k : Int} (hw : 1 ≤ w) (h0 : 0 ≤ x) (h : x < 2 ^ w.toNat) :
    PySem.Builtin.bitOr (x / 2 ^ (k % w).toNat) (PySem.Builtin.bitAnd (x * 2 ^ (w - k % w).toNat) (2 ^ w.toNat - 1)) = turnV w x k := by
  have h1 := Int.emod_nonneg k (show w ≠ 0 by omega)
  have h2 := Int.emod_lt_of_pos k (show 0 < w by omega)
  rw [mask_int, mulmod_high x h1 (by omega), or_high (Int.ediv_nonneg h0 (Int.le_of_lt (pw_pos _))) (div_lt_pw h0 h h1 (by omega)) (Int.emod_nonneg _ (by have := pw_pos (k % w).toNat; omega))]
  rfl
theorem turn_bits' {w x k : Int} (hw : 1 ≤ w) (h0 : 0 ≤ x) (h : x < 2 ^ w.toNat) :
    PySem.Builtin.bitOr (x / 2 ^ (k % w).toNat) (x * 2 ^ (w - k % w).toNat % 2 ^ w.toNat) = turnV w x k := by
  rw [← mask_int]
  exact turn_bits hw h0 h
theorem mul_lt_pw {a b p q : Int} (ha : 0 ≤ a) (h : a < p) (hb : b < q) (hq : 0 < q) : a * q + b < p * q := by
  have := Int.mul_le_mul_of_nonneg_right (show a + 1 ≤ p by omega) (Int.le_of_lt hq)
  rw [Int.add_mul] at this
  omega
theorem turn_bd {w x k : Int} (hw : 1 ≤ w) (h0 : 0 ≤ x) (h : x < 2 ^ w.toNat) : 0 ≤ turnV w x k ∧ turnV w x k < 2 ^ w.toNat := by
  have h1 := Int.emod_nonneg k (show w ≠ 0 by omega)
  have h2 := Int.emod_lt_of_pos k (show 0 < w by omega)
  have h3 := div_lt_pw h0 h h1 (show k % w ≤ w by omega)
  have p1 := pw_pos (k % w).toNat
  have p2 := pw_pos (w - k % w).toNat
  have h4 := Int.emod_nonneg x (show (2 : Int) ^ (k % w).toNat ≠ 0 by omega)
  have h5 := Int.emod_lt_of_pos x p1
  have h6 := Int.ediv_nonneg h0 (Int.le_of_lt p1)
  unfold turnV
  refine ⟨?_, ?_⟩
  · have := Int.mul_nonneg h4 (Int.le_of_lt p2)
    omega
  · have := mul_lt_pw h4 h5 h3 p2
    rw [← pw_sub h1 (show k % w ≤ w by omega)] at this
    omega
/-- there and back -/
theorem turn_back {w x k : Int} (hw : 1 ≤ w) (h0 : 0 ≤ x) (h : x < 2 ^ w.toNat) (hk : 0 ≤ k) (hk2 : k ≤ w) : turnV w (turnV w x k) (w - k) = x := by
  by_cases e : k % w = 0
  · have e2 : (w - k) % w = 0 := by
      rw [Int.sub_emod, Int.emod_self, e]
      simp
    have t : ∀ y, turnV w y k = y := fun y => by
      unfold turnV
      rw [e]
      simp [Int.emod_one]
    have t2 : ∀ y, turnV w y (w - k) = y := fun y => by
      unfold turnV
      rw [e2]
      simp [Int.emod_one]
    rw [t, t2]
  · have hk3 : k < w := by
      rcases Int.lt_or_eq_of_le hk2 with h | h
      · exact h
      · subst h
        exact absurd Int.emod_self e
    have hk4 : 0 < k := by
      rcases Int.lt_or_eq_of_le hk with h | h
      · exact h
      · subst h
        exact absurd (Int.zero_emod w) e
    have e1 : k % w = k := Int.emod_eq_of_lt hk hk3
    have e2 : (w - k) % w = w - k := Int.emod_eq_of_lt (by omega) (by omega)
    have h3 := div_lt_pw h0 h hk hk2
    have p1 := pw_pos k.toNat
    have p2 := pw_pos (w - k).toNat
    have h4 := Int.emod_nonneg x (show (2 : Int) ^ k.toNat ≠ 0 by omega)
    have h6 := Int.ediv_nonneg h0 (Int.le_of_lt p1)
    unfold turnV
    rw [e1, e2]
    have e3 : w - (w - k) = k := by omega
    rw [e3]
    have e4 : (x / 2 ^ k.toNat + x % 2 ^ k.toNat * 2 ^ (w - k).toNat) / 2 ^ (w - k).toNat = x % 2 ^ k.toNat := by
      rw [Int.add_mul_ediv_right _ _ (by omega), Int.ediv_eq_zero_of_lt h6 h3, Int.zero_add]
    have e5 : (x / 2 ^ k.toNat + x % 2 ^ k.toNat * 2 ^ (w - k).toNat) % 2 ^ (w - k).toNat = x / 2 ^ k.toNat := by
      rw [Int.add_mul_emod_self_right, Int.emod_eq_of_lt h6 h3]
    rw [e4, e5]
    have := Int.mul_ediv_add_emod x (2 ^ k.toNat)
    rw [Int.mul_comm] at this
    omega
theorem mask_bin (st : Store) (x w : Int) : binS st .BitAnd (.int x) (.int (2 ^ w.toNat - 1)) = some (.int (x % 2 ^ w.toNat)) := by rw [and_int, mask_int]
local macro_rules | `(tactic| get_elem_tactic_trivial) => `(tactic| with_reducible exact mask_bin _ _ _)

/-! ### loops -/
theorem forL_inv {f : D → Fr → Store → X} {P : List D → Fr → Store → Prop} (hs : ∀ d ds ρ st, P (d :: ds) ρ st → ∃ ρ' st', (f d ρ st = .nx ρ' st' ∨ f d ρ st = .cnt ρ' st') ∧ P ds ρ' st') :
    ∀ ds ρ st, P ds ρ st → ∃ ρ' st', forL f ds ρ st = .nx ρ' st' ∧ P [] ρ' st'
  | [], ρ, st, h => ⟨ρ, st, rfl, h⟩
  | d :: ds, ρ, st, h => by
    obtain ⟨ρ1, s1, h1, h2⟩ := hs d ds ρ st h
    obtain ⟨ρ2, s2, h3, h4⟩ := forL_inv hs ds ρ1 s1 h2
    refine ⟨ρ2, s2, ?_, h4⟩
    rcases h1 with h1 | h1 <;> (rw [forL, h1]; exact h3)
theorem whG_inv {c : Fr → Store → R Bool} {f : Fr → Store → X} {P : Nat → Fr → Store → Prop} {Q : Fr → Store → Prop}
    (hs : ∀ n ρ st, P n ρ st → (c ρ st = .ok false st ∧ Q ρ st) ∨ (∃ m ρ' st', n = m + 1 ∧ c ρ st = .ok true st ∧ (f ρ st = .nx ρ' st' ∨ f ρ st = .cnt ρ' st') ∧ P m ρ' st')) :
    ∀ n k ρ st, n < k → P n ρ st → ∃ ρ' st', whG c f k ρ st = .nx ρ' st' ∧ Q ρ' st'
  | n, 0, ρ, st, h, _ => absurd h (Nat.not_lt_zero _)
  | n, k + 1, ρ, st, h, hp => by
    rcases hs n ρ st hp with ⟨h1, h2⟩ | ⟨m, ρ1, s1, rfl, h1, h2, h3⟩
    · exact ⟨ρ, st, by rw [whG, h1], h2⟩
    · obtain ⟨ρ2, s2, h4, h5⟩ := whG_inv hs m k ρ1 s1 (by omega) h3
      refine ⟨ρ2, s2, ?_, h5⟩
      rcases h2 with h2 | h2 <;> (rw [whG, h1]; dsimp only; rw [h2]; exact h4)
section
variable {C : F → List D → Store → R D} {ρ ρ' : Fr} {st s1 s2 s3 : Store} {a b c : E} {x y z d : D}
theorem w_wh {body r : List S} {o : X} (h3 : whG (fun ρ1 s1 => tst C c ρ1 s1) (fun ρ1 s1 => exs C body ρ1 s1) 1000000 ρ st = .nx ρ' s1) (h : exs C r ρ' s1 = o) : exs C (.wh c body :: r) ρ st = o := by
  rw [exs, ex, h3, seq_nx, h]
theorem w_body {tg : Tg} {body : List S} {o : X} (h1 : bindT ρ tg d = some ρ') (h2 : exs C body ρ' st = o) : X.opt (bindT ρ tg d) (fun ρ2 => exs C body ρ2 st) = o := by rw [h1, xopt_some, h2]
end
theorem getD_end (st : Store) (xs : List D) : (st ++ [xs]).getD st.length [] = xs := by simp
theorem set_end (st : Store) (xs ys : List D) : (st ++ [xs]).set st.length ys = st ++ [ys] := by
  rw [List.set_append_right _ _ (Nat.le_refl _), Nat.sub_self]; rfl
/-- a list of its own handed back -/
theorem w_callL {k np ns : Nat} {f : F} {body : List S} {ds : List D} {ρ : Fr} {st : Store} {xs : List D} (ht : tbl f = ⟨np, ns, false, body⟩) (hl : ds.length = np) (hr : ds.map some ++ empties (ns - np) = ρ) (h : exs (call k) body ρ st = .ret (.cell st.length) (st ++ [xs])) :
    call (k + 1) f ds st = .ok (.lst xs) st := by
  rw [call_succ, ht]
  unfold run
  rw [if_pos hl]
  dsimp only
  rw [hr, h, fin_ret, fin_cell]
theorem w_callG {k np ns : Nat} {f : F} {body : List S} {ds : List D} {ρ : Fr} {st : Store} {d : D} (g : Store) (ht : tbl f = ⟨np, ns, false, body⟩) (hl : ds.length = np) (hr : ds.map some ++ empties (ns - np) = ρ) (h : exs (call k) body ρ st = .ret d (st ++ g)) (hp : isP d = true) :
    call (k + 1) f ds st = .ok d st := c_ret g ht hl hr h hp

theorem last_int {xs : List Int} (h : xs ≠ []) : atD (xs.map D.int) (-1) = some (.int (xs.getLastD 0)) := by
  rw [atD_m1, List.getElem?_map, List.length_map, ← List.getLast?_eq_getElem?, List.getLast?_eq_some_getLast h, List.getLastD_eq_getLast?, List.getLast?_eq_some_getLast h]
  rfl
theorem c_sure_divisor (k : Nat) (w n : Int) (st : Store) (h : 0 ≤ w) (h2 : w ≤ 64) (hn : 1 ≤ n) (hn2 : n < 2 ^ w.toNat) : call (k + 4) .sure_divisor [.int w, .int n] st = .ok (.int n) st := by
  refine w_call (ds := [_, _]) (ρ := [some _, some _]) (body := b_sure_divisor) rfl rfl rfl ?_ (by rfl); unfold b_sure_divisor
  get_elem_tactic_trivial
local macro_rules | `(tactic| decreasing_trivial_pre_omega) => `(tactic| ((with_reducible refine c_sure_divisor _ _ _ _ ?_ ?_ ?_ ?_) <;> first | omega | rfl | assumption | (try get_elem_tactic_trivial)))
theorem c_turned_in (k : Nat) (w x j : Int) (st : Store) (h : 1 ≤ w) (h2 : w ≤ 64) (h3 : 0 ≤ x) (h4 : x < 2 ^ w.toNat) : call (k + 2) .turned_in [.int w, .int x, .int j] st = .ok (.int (turnV w x j)) st := by
  have h5 := Int.emod_nonneg j (show w ≠ 0 by omega)
  have h6 := Int.emod_lt_of_pos j (show 0 < w by omega)
  have h7 := pw_64 h2
  refine w_call (ds := [_, _, _]) (ρ := [some _, some _, some _, none]) (body := b_turned_in) rfl rfl rfl ?_ (by rfl); unfold b_turned_in
  get_elem_tactic_trivial
  exact congrArg D.int (turn_bits' h h3 h4)
local macro_rules | `(tactic| decreasing_trivial_pre_omega) => `(tactic| ((with_reducible refine c_turned_in _ _ _ _ _ ?_ ?_ ?_ ?_) <;> first | omega | rfl | assumption | (try get_elem_tactic_trivial)))
/-! ### inverses -/
def nwt : Nat → Int → Int → Int → Int → List Int
  | 0, _, _, _, _ => []
  | n + 1, w, o, b, x => if b < w then (x * (2 - o * x) % 2 ^ (min (2 * b) w).toNat) :: nwt n w o (min (2 * b) w) (x * (2 - o * x) % 2 ^ (min (2 * b) w).toNat) else []
/-- the numbers by which an inverse is found -/
def invL (w o : Int) : List Int := 1 :: nwt 7 w o 1 1
def invV (w o : Int) : Int := (invL w o).getLastD 0
theorem nwt_one {o x b : Int} {B : Int} (hB : B ∣ 2 ^ b.toNat * 2 ^ b.toNat) (h : (2 : Int) ^ b.toNat ∣ o * x - 1) : B ∣ o * (x * (2 - o * x) % B) - 1 := by
  obtain ⟨u, hu⟩ := h
  have e1 : o * (x * (2 - o * x)) - 1 = -(2 ^ b.toNat * 2 ^ b.toNat * (u * u)) := by
    have e2 : o * x = 2 ^ b.toNat * u + 1 := by omega
    have e3 : o * (x * (2 - o * x)) = (o * x) * (2 - o * x) := by rw [Int.mul_assoc]
    rw [e3, e2]
    generalize (2 : Int) ^ b.toNat = p
    have : (p * u + 1) * (2 - (p * u + 1)) = 1 - (p * u) * (p * u) := by
      have : (p * u + 1) * (2 - (p * u + 1)) = (p * u + 1) * (1 - p * u) := by congr 1; omega
      rw [this, Int.add_mul, Int.mul_sub, Int.one_mul, Int.mul_one]
      omega
    rw [this]
    have e4 : p * u * (p * u) = p * p * (u * u) := by
      rw [Int.mul_assoc, Int.mul_assoc, ← Int.mul_assoc u p u, Int.mul_comm u p, Int.mul_assoc p u u]
    omega
  have e2 : B ∣ o * (x * (2 - o * x)) - 1 := by
    rw [e1]
    exact Int.dvd_neg.mpr (Int.dvd_trans hB (Int.dvd_mul_right _ _))
  have e5 : o * (x * (2 - o * x) % B) - 1 = (o * (x * (2 - o * x)) - 1) - B * (o * (x * (2 - o * x) / B)) := by
    have := Int.emod_def (x * (2 - o * x)) B
    rw [this, Int.mul_sub, ← Int.mul_assoc o B, Int.mul_comm o B, Int.mul_assoc]
    omega
  rw [e5]
  exact Int.dvd_sub e2 (Int.dvd_mul_right _ _)
theorem pw_dvd {a b : Int} (hb : a ≤ b) : (2 : Int) ^ a.toNat ∣ 2 ^ b.toNat := by
  have h : a.toNat ≤ b.toNat := by omega
  obtain ⟨c, hc⟩ := Nat.exists_eq_add_of_le h
  rw [hc, Int.pow_add]
  exact Int.dvd_mul_right _ _
/-- what holds of each: right for b bits -/
def invOk (o b x : Int) : Prop := (2 : Int) ^ b.toNat ∣ o * x - 1 ∧ 0 ≤ x ∧ x < 2 ^ b.toNat
theorem nwt_step {w o b x : Int} (hb : 1 ≤ b) (hw : b < w) (h : invOk o b x) : invOk o (min (2 * b) w) (x * (2 - o * x) % 2 ^ (min (2 * b) w).toNat) := by
  have hp := pw_pos (min (2 * b) w).toNat
  refine ⟨nwt_one (b := b) ?_ h.1, Int.emod_nonneg _ (by omega), Int.emod_lt_of_pos _ hp⟩
  rw [← pw_add (by omega) (by omega)]
  exact pw_dvd (by omega)
theorem nwt_last {w o : Int} : ∀ (n : Nat) (b x : Int), 1 ≤ b → b ≤ w → w ≤ b * 2 ^ n → invOk o b x → invOk o w ((x :: nwt n w o b x).getLastD 0)
  | 0, b, x, h1, h2, h3, h => by
    have : b = w := by omega
    subst this
    exact h
  | n + 1, b, x, h1, h2, h3, h => by
    rw [nwt]
    split
    · rename_i hw
      have h4 := nwt_step h1 hw h
      have h5 : w ≤ min (2 * b) w * 2 ^ n := by
        by_cases hm : 2 * b ≤ w
        · rw [Int.min_eq_left hm]
          rw [Int.pow_succ] at h3
          have : b * (2 ^ n * 2) = 2 * b * 2 ^ n := by rw [Int.mul_comm (2 ^ n), ← Int.mul_assoc, Int.mul_comm b 2]
          omega
        · rw [Int.min_eq_right (by omega)]
          have := pw_pos n
          have := Int.mul_le_mul_of_nonneg_left (show (1 : Int) ≤ 2 ^ n by omega) (show 0 ≤ w by omega)
          omega
      have := nwt_last n (min (2 * b) w) _ (by omega) (by omega) h5 h4
      rw [List.getLastD_cons] at this ⊢
      rw [List.getLastD_cons]
      exact this
    · have : b = w := by omega
      subst this
      exact h
theorem inv_ok {w o : Int} (h1 : 1 ≤ w) (h2 : w ≤ 64) (ho : o % 2 = 1) : invOk o w (invV w o) := by
  refine nwt_last 7 1 1 (by decide) h1 (by omega) ⟨?_, by decide, by decide⟩
  show (2 : Int) ∣ _
  omega
theorem inv_mul {w o : Int} (h1 : 1 ≤ w) (h2 : w ≤ 64) (ho : o % 2 = 1) : o * invV w o % 2 ^ w.toNat = 1 := by
  have h := (inv_ok h1 h2 ho).1
  have h3 := pw_two h1
  have e := Int.emod_emod_of_dvd (o * invV w o - 1) (Int.dvd_refl (2 ^ w.toNat))
  have e2 : (o * invV w o - 1) % 2 ^ w.toNat = 0 := Int.emod_eq_zero_of_dvd h
  have e3 : o * invV w o % 2 ^ w.toNat = 1 % 2 ^ w.toNat := Int.emod_eq_emod_iff_emod_sub_eq_zero.mpr e2
  rw [e3]
  exact Int.emod_eq_of_lt (by decide) (by omega)
theorem c_steps_in (k : Nat) (w o : Int) (st : Store) (h : 1 ≤ w) (h2 : w ≤ 64) (h3 : 0 ≤ o) (h4 : o < 2 ^ w.toNat) (h5 : o % 2 = 1) : call (k + 1) .steps_in [.int w, .int o] st = .ok (.lst ((invL w o).map .int)) st := by
  have hw := pw_64 h2
  refine w_callL (ds := [_, _]) (ρ := [some _, some _, none, none]) (body := b_steps_in) rfl rfl rfl ?_; unfold b_steps_in
  refine x_par (v_cons (v_lstC (v_cons v_cst v_nil) rfl) (v_cons v_cst v_nil)) rfl ?_
  have key := whG_inv (c := fun ρ1 s1 => tst (call k) (.cmp .Lt (.var 3) (.var 0)) ρ1 s1)
    (f := fun ρ1 s1 => exs (call k) [.asg 3 (.bi .min [.bin .Mult (.cst (.int 2)) (.var 3), .var 0]), .app (.var 2) (.bin .Mod (.bin .Mult (.idx (.var 2) (.neg (.cst (.int 1)))) (.bin .Sub (.cst (.int 2)) (.bin .Mult (.var 1) (.idx (.var 2) (.neg (.cst (.int 1))))))) (.bin .LShift (.cst (.int 1)) (.var 3)))] ρ1 s1)
    (P := fun n ρ s => ∃ b x acc, 1 ≤ b ∧ b ≤ w ∧ w ≤ b * 2 ^ n ∧ acc.length + n ≤ 7 ∧ invOk o b x ∧ ρ = [some (.int w), some (.int o), some (.cell st.length), some (.int b)] ∧ s = st ++ [(acc ++ [x]).map .int] ∧ acc ++ x :: nwt n w o b x = invL w o)
    (Q := fun ρ s => ∃ b, ρ = [some (.int w), some (.int o), some (.cell st.length), some (.int b)] ∧ s = st ++ [(invL w o).map .int]) ?_ 7 1000000 _ _ (by decide) ⟨1, 1, [], by decide, h, by omega, by decide, ⟨⟨o * 1 / 2, by show o * 1 - 1 = 2 * _; omega⟩, by decide, by decide⟩, rfl, rfl, rfl⟩
  · obtain ⟨ρ', s1, e1, b, rfl, rfl⟩ := key
    exact w_wh e1 (x_ret (v_var rfl))
  · rintro n ρ s ⟨b, x, acc, b1, b2, b3, n7, hi, rfl, rfl, ht⟩
    have hg : (st ++ [(acc ++ [x]).map D.int]).getD st.length [] = (acc ++ [x]).map .int := getD_end _ _
    have hl : atD ((acc ++ [x]).map D.int) (-1) = some (.int x) := by
      rw [atD_m1]
      simp
    by_cases hb : b < w
    · cases n with
      | zero => omega
      | succ n =>
        right
        have hx := hi.2.2
        have hx0 := hi.2.1
        have hp := pw_64 (show b ≤ 64 by omega)
        have hq := pw_pos (min (2 * b) w).toNat
        have hox : o * x < 340282366920938463463374607431768211456 := by
          have h1 := Int.mul_le_mul (show o ≤ 18446744073709551616 by omega) (show x ≤ 18446744073709551616 by omega) hx0 (by decide)
          have h2 : (18446744073709551616 * 18446744073709551616 : Int) = 340282366920938463463374607431768211456 := by decide
          have h3 : o * x ≠ 340282366920938463463374607431768211456 := by
            intro e
            have h4 : o * x ≤ 18446744073709551615 * x := Int.mul_le_mul_of_nonneg_right (by omega) hx0
            omega
          omega
        have hox0 : 0 ≤ o * x := Int.mul_nonneg h3 hx0
        refine ⟨n, [some (.int w), some (.int o), some (.cell st.length), some (.int (min (2 * b) w))], st ++ [(acc ++ [x] ++ [x * (2 - o * x) % 2 ^ (min (2 * b) w).toNat]).map .int], rfl, ?_, .inl ?_, min (2 * b) w, x * (2 - o * x) % 2 ^ (min (2 * b) w).toNat, acc ++ [x], ?_, ?_, ?_, ?_, nwt_step b1 hb hi, rfl, rfl, ?_⟩
        · refine tst_ok (v_cmp (v_var rfl) (v_var rfl) (lt_int _ _)) ?_
          rw [decide_eq_true hb]
          rfl
        · refine w_asg (v_bi (v_cons (v_bin v_cst (v_var rfl) (mul_int _ _ (by omega))) (v_cons (v_var rfl) v_nil)) rfl) rfl ?_
          have hm : ev (call k) (.idx (.var 2) (.neg (.cst (.int 1)))) [some (.int w), some (.int o), some (.cell st.length), some (.int (min (2 * b) w))] (st ++ [(acc ++ [x]).map .int]) = .ok (.int x) (st ++ [(acc ++ [x]).map .int]) :=
            v_idx (v_var rfl) (v_neg v_cst) (by rw [ix_cell, hg]; exact hl)
          refine w_app (v_var rfl) (v_bin (v_bin hm (v_bin v_cst (v_bin (v_var rfl) hm (mul_int _ _ (by omega))) (sub_int _ _)) (mul_int _ _ (by omega))) (v_bin v_cst (v_var rfl) (shl_one _ (by omega) (by omega))) (mod_int _ _ hq)) rfl hg ?_ ?_ w_nil
          · simp
            omega
          · rw [set_end]
            simp
        · omega
        · omega
        · by_cases hm : 2 * b ≤ w
          · rw [Int.min_eq_left hm]
            rw [Int.pow_succ] at b3
            have : b * (2 ^ n * 2) = 2 * b * 2 ^ n := by rw [Int.mul_comm (2 ^ n), ← Int.mul_assoc, Int.mul_comm b 2]
            omega
          · rw [Int.min_eq_right (by omega)]
            have := pw_pos n
            have := Int.mul_le_mul_of_nonneg_left (show (1 : Int) ≤ 2 ^ n by omega) (show 0 ≤ w by omega)
            omega
        · rw [List.length_append]
          show acc.length + 1 + n ≤ 7
          omega
        · rw [← ht, nwt, if_pos hb, List.append_assoc]
          rfl
    · left
      have e : b = w := by omega
      have e2 : nwt n w o b x = [] := by cases n <;> simp [nwt, hb]
      refine ⟨tst_ok (v_cmp (v_var rfl) (v_var rfl) (lt_int _ _)) ?_, b, rfl, ?_⟩
      · rw [decide_eq_false hb]
        rfl
      · rw [← ht, e2]
local macro_rules | `(tactic| decreasing_trivial_pre_omega) => `(tactic| ((with_reducible refine c_steps_in _ _ _ _ ?_ ?_ ?_ ?_ ?_) <;> first | omega | rfl | assumption | (try get_elem_tactic_trivial)))
theorem c_inverse_in (k : Nat) (w o : Int) (st : Store) (h : 1 ≤ w) (h2 : w ≤ 64) (h3 : 0 ≤ o) (h4 : o < 2 ^ w.toNat) (h5 : o % 2 = 1) : call (k + 2) .inverse_in [.int w, .int o] st = .ok (.int (invV w o)) st := by
  refine w_call (ds := [_, _]) (ρ := [some _, some _]) (body := b_inverse_in) rfl rfl rfl ?_ (by rfl); unfold b_inverse_in
  refine x_ret (v_idx (v_call (v_cons (v_var rfl) (v_cons (v_var rfl) v_nil)) (c_steps_in k w o st h h2 h3 h4 h5)) (v_neg v_cst) ?_)
  exact last_int (by unfold invL; simp)
local macro_rules | `(tactic| decreasing_trivial_pre_omega) => `(tactic| ((with_reducible refine c_inverse_in _ _ _ _ ?_ ?_ ?_ ?_ ?_) <;> first | omega | rfl | assumption | (try get_elem_tactic_trivial)))
/-! ### steps -/
inductive St where
  | mean | times (x : Int) | high (x : Int) | add (x : Int) | below (x : Int) | shift (x : Int) | turn (x : Int)
def St.d : St → D
  | .mean => .tup [.str [109, 101, 97, 110]]
  | .times x => .tup [.str [116, 105, 109, 101, 115], .int x]
  | .high x => .tup [.str [104, 105, 103, 104], .int x]
  | .add x => .tup [.str [97, 100, 100], .int x]
  | .below x => .tup [.str [98, 101, 108, 111, 119], .int x]
  | .shift x => .tup [.str [115, 104, 105, 102, 116], .int x]
  | .turn x => .tup [.str [116, 117, 114, 110], .int x]
def St.ok (w : Int) : St → Prop
  | .mean => True
  | .times x => 0 ≤ x ∧ x < 2 ^ w.toNat
  | .high x => 0 ≤ x ∧ x < 2 ^ w.toNat
  | .add x => 0 ≤ x ∧ x < 2 ^ w.toNat
  | .below x => 0 ≤ x ∧ x < 2 ^ w.toNat
  | .shift x => 0 ≤ x ∧ x ≤ w
  | .turn x => 0 ≤ x ∧ x ≤ w
def St.run (w : Int) (s : St) (y n : Int) : Int := match s with
  | .mean => (y + n) / 2
  | .times x => y * x % 2 ^ w.toNat
  | .high x => y * x / 2 ^ w.toNat
  | .add x => (y + x) % 2 ^ w.toNat
  | .below x => if y ≤ x then 1 else 0
  | .shift x => y / 2 ^ x.toNat
  | .turn x => turnV w y x
theorem div_le_self' {a b : Int} (ha : 0 ≤ a) (hb : 0 < b) : a / b ≤ a := Int.ediv_le_self _ ha
theorem St.run_bd {w : Int} (h1 : 1 ≤ w) (s : St) (y n : Int) (hs : s.ok w) (hy : 0 ≤ y) (hy2 : y < 2 ^ w.toNat) (hn : 0 ≤ n) (hn2 : n < 2 ^ w.toNat) : 0 ≤ s.run w y n ∧ s.run w y n < 2 ^ w.toNat := by
  have hp := pw_pos w.toNat
  have hp2 := pw_two h1
  cases s with
  | mean =>
    show 0 ≤ (y + n) / 2 ∧ (y + n) / 2 < _
    omega
  | times x => exact ⟨Int.emod_nonneg _ (by omega), Int.emod_lt_of_pos _ hp⟩
  | high x =>
    obtain ⟨h2, h3⟩ := hs
    refine ⟨Int.ediv_nonneg (Int.mul_nonneg hy h2) (by omega), Int.ediv_lt_of_lt_mul hp ?_⟩
    have h4 : y * x ≤ y * 2 ^ w.toNat := Int.mul_le_mul_of_nonneg_left (by omega) hy
    have h5 : y * 2 ^ w.toNat < 2 ^ w.toNat * 2 ^ w.toNat := Int.mul_lt_mul_of_pos_right hy2 hp
    omega
  | add x => exact ⟨Int.emod_nonneg _ (by omega), Int.emod_lt_of_pos _ hp⟩
  | below x =>
    show 0 ≤ (if y ≤ x then (1 : Int) else 0) ∧ (if y ≤ x then (1 : Int) else 0) < _
    split <;> omega
  | shift x =>
    have := pw_pos x.toNat
    exact ⟨Int.ediv_nonneg hy (by omega), Int.lt_of_le_of_lt (div_le_self' hy this) hy2⟩
  | turn x => exact turn_bd h1 hy hy2
/-- the register at first and behind each step -/
def runL (w : Int) : List St → Int → Int → List Int
  | [], y, _ => [y]
  | s :: ss, y, n => y :: runL w ss (s.run w y n) n
def tellV (w : Int) (ss : List St) (n : Int) : Int := (runL w ss n n).getLastD 0
theorem runL_ne (w : Int) (ss : List St) (y n : Int) : runL w ss y n ≠ [] := by cases ss <;> simp [runL]
theorem St.d_ok (s : St) : okd 1 s.d = true := by cases s <;> rfl
theorem St.d_shrt (s : St) : shrt s.d = true := by cases s <;> rfl
theorem St.d_noL (s : St) : noL s.d = true := by cases s <;> rfl
theorem steps_ok (ss : List St) : okd 2 (.tup (ss.map St.d)) = true := by
  rw [okd_tup]
  induction ss with
  | nil => rfl
  | cons s ss ih => rw [List.map_cons, okds_cons, ih, St.d_ok]; rfl
theorem steps_shrts (ss : List St) : shrts (ss.map St.d) = true := by
  induction ss with
  | nil => rfl
  | cons s ss ih => rw [List.map_cons, shrts, ih, St.d_shrt]; rfl
theorem steps_noL (ss : List St) : noL (.tup (ss.map St.d)) = true := by
  rw [noL]
  induction ss with
  | nil => rfl
  | cons s ss ih => rw [List.map_cons, noLs, ih, St.d_noL]; rfl
theorem all_bl (st : Store) (ss : List St) : biS st .all [.lst ((ss.map St.d).map fun _ => D.bl true)] = some (.bl true) := all_true st _
/-! ### what runs tell -/
theorem runL_len (w : Int) : ∀ (ss : List St) (y n : Int), (runL w ss y n).length = ss.length + 1
  | [], _, _ => rfl
  | s :: ss, y, n => by rw [runL, List.length_cons, runL_len w ss, List.length_cons]
theorem runL_last_bd {w : Int} (h : 1 ≤ w) : ∀ (ss : List St) (y n : Int), (∀ s ∈ ss, s.ok w) → 0 ≤ y → y < 2 ^ w.toNat → 0 ≤ n → n < 2 ^ w.toNat → 0 ≤ (runL w ss y n).getLastD 0 ∧ (runL w ss y n).getLastD 0 < 2 ^ w.toNat
  | [], y, n, _, h1, h2, _, _ => ⟨h1, h2⟩
  | s :: ss, y, n, hs, h1, h2, h3, h4 => by
    have hb := St.run_bd h s y n (hs s List.mem_cons_self) h1 h2 h3 h4
    have := runL_last_bd h ss (s.run w y n) n (fun s hh => hs s (List.mem_cons_of_mem _ hh)) hb.1 hb.2 h3 h4
    rw [runL]
    cases hr : runL w ss (s.run w y n) n with
    | nil => exact absurd hr (runL_ne _ _ _ _)
    | cons z zs =>
      rw [hr] at this
      exact this
theorem tell_bd {w : Int} (h : 1 ≤ w) (ss : List St) (n : Int) (hs : ∀ s ∈ ss, s.ok w) (h3 : 0 ≤ n) (h4 : n < 2 ^ w.toNat) : 0 ≤ tellV w ss n ∧ tellV w ss n < 2 ^ w.toNat := runL_last_bd h ss n n hs h3 h4 h3 h4
theorem last_cons {y : Int} {zs : List Int} (h : zs ≠ []) : (y :: zs).getLastD 0 = zs.getLastD 0 := by
  cases zs with
  | nil => exact absurd rfl h
  | cons z zs => rfl
theorem runL_take (w : Int) (us : List St) : ∀ (ss : List St) (y n : Int), (runL w (ss ++ us) y n).take (ss.length + 1) = runL w ss y n
  | [], y, n => by cases us <;> rfl
  | s :: ss, y, n => by
    rw [List.cons_append, runL, List.length_cons, List.take_succ_cons, runL_take w us ss, runL]
theorem runL_drop (w : Int) (us : List St) : ∀ (ss : List St) (y n : Int), (runL w (ss ++ us) y n).drop ss.length = runL w us ((runL w ss y n).getLastD 0) n
  | [], y, n => rfl
  | s :: ss, y, n => by
    rw [List.cons_append, runL, List.length_cons, List.drop_succ_cons, runL_drop w us ss, runL, last_cons (runL_ne _ _ _ _)]
theorem last_drop {xs : List Int} : ∀ (k : Nat), k < xs.length → (xs.drop k).getLastD 0 = xs.getLastD 0 := by
  intro k h
  rw [List.getLastD_eq_getLast?, List.getLastD_eq_getLast?, List.getLast?_drop, if_neg (by omega)]
theorem run_word {w : Int} (s : St) (y n n' : Int) (h : s ≠ .mean) : s.run w y n = s.run w y n' := by cases s <;> first | rfl | exact absurd rfl h
theorem runL_word {w : Int} : ∀ (ss : List St) (y n n' : Int), (∀ s ∈ ss, s ≠ .mean) → runL w ss y n = runL w ss y n'
  | [], _, _, _, _ => rfl
  | s :: ss, y, n, n', h => by
    rw [runL, runL, run_word s y n n' (h s List.mem_cons_self), runL_word ss _ n n' fun s hh => h s (List.mem_cons_of_mem _ hh)]
theorem cut_map {α β : Type} (f : α → β) (xs : List α) (a b : Option Int) : cut (xs.map f) a b = (cut xs a b).map f := by
  unfold cut
  rw [List.length_map, List.map_take, List.map_drop]
theorem cut_take {α : Type} (xs : List α) (k : Nat) (h : k ≤ xs.length) : cut xs none (some (k : Int)) = xs.take k := by
  unfold cut sIx
  dsimp only
  rw [if_neg (by omega), Int.toNat_natCast, Nat.min_eq_left h]
  rfl
theorem cut_drop {α : Type} (xs : List α) (k : Nat) (h : k ≤ xs.length) : cut xs (some (k : Int)) none = xs.drop k := by
  unfold cut sIx
  dsimp only
  rw [if_neg (by omega), Int.toNat_natCast, Nat.min_eq_left h]
  rw [← List.length_drop, List.take_length]
/-- runs put together -/
theorem run_app {w : Int} (ss us : List St) (n : Int) (hu : ∀ s ∈ us, s ≠ .mean) : cut (runL w (ss ++ us) n n) none (some ((ss.length : Int) + 1)) = runL w ss n n ∧ cut (runL w (ss ++ us) n n) (some (ss.length : Int)) none = runL w us (tellV w ss n) (tellV w ss n) ∧
    tellV w (ss ++ us) n = tellV w us (tellV w ss n) := by
  have e : ((ss.length : Int) + 1) = ((ss.length + 1 : Nat) : Int) := by omega
  have d := runL_drop w us ss n n
  have e3 := runL_word us (tellV w ss n) n (tellV w ss n) (w := w) hu
  refine ⟨?_, ?_, ?_⟩
  · rw [e, cut_take _ _ (by rw [runL_len, List.length_append]; omega), runL_take]
  · rw [cut_drop _ _ (by rw [runL_len, List.length_append]; omega), d]
    exact e3
  · unfold tellV at e3 ⊢
    rw [← e3, ← d, last_drop _ (by rw [runL_len, List.length_append]; omega)]

/-! ### drawn steps -/
def wordsL : List D := [.str [116, 105, 109, 101, 115], .str [104, 105, 103, 104], .str [97, 100, 100], .str [98, 101, 108, 111, 119], .str [115, 104, 105, 102, 116], .str [116, 117, 114, 110]]
def someB : List S := [.asg 5 (.call .l_of [.var 0, .lst [.cst (.str [116, 105, 109, 101, 115]), .cst (.str [104, 105, 103, 104]), .cst (.str [97, 100, 100]), .cst (.str [98, 101, 108, 111, 119]), .cst (.str [115, 104, 105, 102, 116]), .cst (.str [116, 117, 114, 110])]]),
  .app (.var 3) (.tup [.var 5, .ite (.cmp .In (.var 5) (.tup [.cst (.str [115, 104, 105, 102, 116]), .cst (.str [116, 117, 114, 110])])) (.call .l_take [.var 0, .bin .Add (.var 1) (.cst (.int 1))]) (.call .l_take [.var 0, .call .l_two [.var 1]])])]
theorem getD_end1 (t : List D) (g : Store) (xs : List D) : (t :: (g ++ [xs])).getD (g.length + 1) [] = xs := getD_end (t :: g) xs
theorem set_end1 (t : List D) (g : Store) (xs ys : List D) : (t :: (g ++ [xs])).set (g.length + 1) ys = t :: (g ++ [ys]) := set_end (t :: g) xs ys
theorem some_step (w : Int) (h1 : 1 ≤ w) (h2 : w ≤ 64) (m : Nat) (t : List D) (ht : Tin (m + 2) t) : ∃ (s : St) (t' : List D), Tin m t' ∧ (s.ok w ∧ s ≠ .mean) ∧
    ∀ (k : Nat) (g : Store) (acc : List D) (x2 x4 x5 : Option D), acc.length < 1000 → ∃ y5, exs (call (k + 2)) someB [some (.cell 0), some (.int w), x2, some (.cell (g.length + 1)), x4, x5] (t :: (g ++ [acc])) = .nx [some (.cell 0), some (.int w), x2, some (.cell (g.length + 1)), x4, y5] (t' :: (g ++ [acc ++ [s.d]])) := by
  have hp := pw_64 h2
  have hq := pw_pos w.toNat
  have hm := ofV_mem t wordsL (show 0 < 6 by decide)
  have ho : ∀ k g, call (k + 2) .l_of [.cell 0, .lst wordsL] (t :: g) = .ok (ofV t wordsL) (takeS t 6 :: g) := fun k g => c_ofF k (m + 1) wordsL g t ht (show 0 < 6 by decide) (show 6 ≤ 1000000 by decide) rfl
  have ht1 : Tin (m + 1) (takeS t 6) := Tin_take ht (by decide)
  have b1 := takeV_bd (takeS t 6) (w + 1) (by omega)
  have b2 := takeV_bd (takeS t 6) (2 ^ w.toNat) hq
  have g1 : ∀ k g, call (k + 1) .l_take [.cell 0, .int (w + 1)] (takeS t 6 :: g) = .ok (.int (takeV (takeS t 6) (w + 1))) (takeS (takeS t 6) (w + 1) :: g) := fun k g => c_takeF k m _ g _ ht1 (by omega) (by omega)
  have g2 : ∀ k g, call (k + 1) .l_take [.cell 0, .int (2 ^ w.toNat)] (takeS t 6 :: g) = .ok (.int (takeV (takeS t 6) (2 ^ w.toNat))) (takeS (takeS t 6) (2 ^ w.toNat) :: g) := fun k g => c_takeF k m _ g _ ht1 hq (by omega)
  have i1 : Tin m (takeS (takeS t 6) (w + 1)) := Tin_take ht1 (by omega)
  have i2 : Tin m (takeS (takeS t 6) (2 ^ w.toNat)) := Tin_take ht1 hq
  have words : ∀ (C : F → List D → Store → R D) (ρ : Fr) (st : Store), evs C [.cst (.str [116, 105, 109, 101, 115]), .cst (.str [104, 105, 103, 104]), .cst (.str [97, 100, 100]), .cst (.str [98, 101, 108, 111, 119]), .cst (.str [115, 104, 105, 102, 116]), .cst (.str [116, 117, 114, 110])] ρ st = .ok wordsL st :=
    fun C ρ st => v_cons v_cst (v_cons v_cst (v_cons v_cst (v_cons v_cst (v_cons v_cst (v_cons v_cst v_nil)))))
  -- shift, turn
  have caseA : ∀ (z : List Nat) (s : St), ofV t wordsL = .str z → inS [] (.str z) (.tup [.str [115, 104, 105, 102, 116], .str [116, 117, 114, 110]]) = some true → s.d = .tup [.str z, .int (takeV (takeS t 6) (w + 1))] →
      ∀ (k : Nat) (g : Store) (acc : List D) (x2 x4 x5 : Option D), acc.length < 1000 → ∃ y5, exs (call (k + 2)) someB [some (.cell 0), some (.int w), x2, some (.cell (g.length + 1)), x4, x5] (t :: (g ++ [acc])) = .nx [some (.cell 0), some (.int w), x2, some (.cell (g.length + 1)), x4, y5] (takeS (takeS t 6) (w + 1) :: (g ++ [acc ++ [s.d]])) := by
    intro z s e1 e2 e3 k g acc x2 x4 x5 hl
    refine ⟨some (.str z), ?_⟩
    rw [e3]
    unfold someB
    refine w_asg (v_call (v_cons (v_var rfl) (v_cons (v_lst (words _ _ _) rfl) v_nil)) (ho k _)) rfl ?_
    rw [e1]
    exact w_app (v_var rfl) (v_tup (v_cons (v_var rfl) (v_cons (v_iteT (v_cmp (v_var rfl) (v_tup (v_cons v_cst (v_cons v_cst v_nil)) rfl) e2) rfl (v_call (v_cons (v_var rfl) (v_cons (v_bin (v_var rfl) v_cst (add_int _ _)) v_nil)) (g1 (k + 1) _))) v_nil)) rfl) rfl (getD_end1 _ _ _) (by omega) (set_end1 _ _ _ _) w_nil
  have caseB : ∀ (z : List Nat) (s : St), ofV t wordsL = .str z → inS [] (.str z) (.tup [.str [115, 104, 105, 102, 116], .str [116, 117, 114, 110]]) = some false → s.d = .tup [.str z, .int (takeV (takeS t 6) (2 ^ w.toNat))] →
      ∀ (k : Nat) (g : Store) (acc : List D) (x2 x4 x5 : Option D), acc.length < 1000 → ∃ y5, exs (call (k + 2)) someB [some (.cell 0), some (.int w), x2, some (.cell (g.length + 1)), x4, x5] (t :: (g ++ [acc])) = .nx [some (.cell 0), some (.int w), x2, some (.cell (g.length + 1)), x4, y5] (takeS (takeS t 6) (2 ^ w.toNat) :: (g ++ [acc ++ [s.d]])) := by
    intro z s e1 e2 e3 k g acc x2 x4 x5 hl
    refine ⟨some (.str z), ?_⟩
    rw [e3]
    unfold someB
    refine w_asg (v_call (v_cons (v_var rfl) (v_cons (v_lst (words _ _ _) rfl) v_nil)) (ho k _)) rfl ?_
    rw [e1]
    exact w_app (v_var rfl) (v_tup (v_cons (v_var rfl) (v_cons (v_iteF (v_cmp (v_var rfl) (v_tup (v_cons v_cst (v_cons v_cst v_nil)) rfl) e2) rfl (v_call (v_cons (v_var rfl) (v_cons (v_call (v_cons (v_var rfl) v_nil) (c_two (k + 1) w _ (by omega) (by omega))) v_nil)) (g2 (k + 1) _))) v_nil)) rfl) rfl (getD_end1 _ _ _) (by omega) (set_end1 _ _ _ _) w_nil
  simp only [wordsL, List.mem_cons, List.not_mem_nil, or_false] at hm
  rcases hm with e | e | e | e | e | e
  · exact ⟨.times (takeV (takeS t 6) (2 ^ w.toNat)), _, i2, ⟨b2, fun h => by cases h⟩, caseB _ _ e rfl rfl⟩
  · exact ⟨.high (takeV (takeS t 6) (2 ^ w.toNat)), _, i2, ⟨b2, fun h => by cases h⟩, caseB _ _ e rfl rfl⟩
  · exact ⟨.add (takeV (takeS t 6) (2 ^ w.toNat)), _, i2, ⟨b2, fun h => by cases h⟩, caseB _ _ e rfl rfl⟩
  · exact ⟨.below (takeV (takeS t 6) (2 ^ w.toNat)), _, i2, ⟨b2, fun h => by cases h⟩, caseB _ _ e rfl rfl⟩
  · exact ⟨.shift (takeV (takeS t 6) (w + 1)), _, i1, ⟨⟨b1.1, by omega⟩, fun h => by cases h⟩, caseA _ _ e rfl rfl⟩
  · exact ⟨.turn (takeV (takeS t 6) (w + 1)), _, i1, ⟨⟨b1.1, by omega⟩, fun h => by cases h⟩, caseA _ _ e rfl rfl⟩
theorem some_loop (w : Int) (h1 : 1 ≤ w) (h2 : w ≤ 64) : ∀ (i m : Nat) (t : List D), Tin (m + 2 * i) t → ∃ (ss : List St) (t' : List D), Tin m t' ∧ (∀ s ∈ ss, s.ok w ∧ s ≠ .mean) ∧ ss.length = i ∧
    ∀ (k : Nat) (g : Store) (acc ds : List D) (x2 x4 x5 : Option D), acc.length + i ≤ 1000 → ds.length = i → ∃ y4 y5, forL (fun d ρ1 s2 => X.opt (bindT ρ1 (.one 4) d) fun ρ2 => exs (call (k + 2)) someB ρ2 s2) ds [some (.cell 0), some (.int w), x2, some (.cell (g.length + 1)), x4, x5] (t :: (g ++ [acc])) = .nx [some (.cell 0), some (.int w), x2, some (.cell (g.length + 1)), y4, y5] (t' :: (g ++ [acc ++ ss.map St.d]))
  | 0, m, t, ht => ⟨[], t, ht, (fun s h => by cases h), rfl, fun k g acc ds x2 x4 x5 _ hd => by
      cases ds with
      | nil => exact ⟨x4, x5, by rw [forL, List.map_nil, List.append_nil]⟩
      | cons d ds => cases hd⟩
  | i + 1, m, t, ht => by
    obtain ⟨s, t1, ht1, hs, hr⟩ := some_step w h1 h2 (m + 2 * i) t ht
    obtain ⟨ss, t2, ht2, hss, hl, hrs⟩ := some_loop w h1 h2 i m t1 ht1
    refine ⟨s :: ss, t2, ht2, fun x hx => ?_, by rw [List.length_cons, hl], fun k g acc ds x2 x4 x5 ha hd => ?_⟩
    · rcases List.mem_cons.mp hx with rfl | hx
      · exact hs
      · exact hss x hx
    · cases ds with
      | nil => cases hd
      | cons d ds =>
        obtain ⟨y5, e1⟩ := hr k g acc x2 (some d) x5 (by omega)
        obtain ⟨z4, z5, e2⟩ := hrs k g (acc ++ [s.d]) ds x2 (some d) y5 (by rw [List.length_append, List.length_singleton]; omega) (by simpa using hd)
        refine ⟨z4, z5, ?_⟩
        rw [forL]
        have e3 : X.opt (bindT [some (.cell 0), some (.int w), x2, some (.cell (g.length + 1)), x4, x5] (.one 4) d) (fun ρ2 => exs (call (k + 2)) someB ρ2 (t :: (g ++ [acc]))) = .nx [some (.cell 0), some (.int w), x2, some (.cell (g.length + 1)), some d, y5] (t1 :: (g ++ [acc ++ [s.d]])) := w_body rfl e1
        rw [e3]
        dsimp only
        rw [e2, List.append_assoc, List.map_cons]
        rfl
/-! ### the frame of a law: the source of draws, laps -/
theorem law_box {K k : Nat} (hK : K = k + 1) {ns : List Int} (hn : ns.length ≤ 63) (m : Nat) (hm : (m : Int) ≤ 1152921504606846976) {xs : Fr} {r : List S} {P : X → Prop}
    (h : ∀ t, Tin m t → P (exs (call K) r (some (.ro ns) :: some (.cell 0) :: xs) [t])) {x1 : Option D} :
    P (exs (call K) (.asg 1 (.call .l_box [.call .l_cells [.var 0, .cst (.int 1)], .cst (.int 0)]) :: r) (some (.ro ns) :: x1 :: xs) []) := by
  subst hK
  obtain ⟨x, hx⟩ := c_cells1 k ns [] hn
  obtain ⟨t, ht, hb⟩ := c_box k m hm x []
  have e : exs (call (k + 1)) (.asg 1 (.call .l_box [.call .l_cells [.var 0, .cst (.int 1)], .cst (.int 0)]) :: r) (some (.ro ns) :: x1 :: xs) [] = exs (call (k + 1)) r (some (.ro ns) :: some (.cell 0) :: xs) [t] := w_asg (v_call (v_cons (v_call (v_cons (v_var rfl) (v_cons v_cst v_nil)) hx) (v_cons v_cst v_nil)) hb) rfl rfl
  rw [e]
  exact h t ht
/-- what a lap leaves -/
def LapOk (ns : List Int) (z m : Nat) (o : X) : Prop := ∃ (xs : Fr) (t' : List D), xs.length = z ∧ Tin m t' ∧ (o = .nx (some (.ro ns) :: some (.cell 0) :: xs) [t'] ∨ o = .cnt (some (.ro ns) :: some (.cell 0) :: xs) [t'])
theorem lap_nx {ns : List Int} {z m : Nat} {xs : Fr} {t' : List D} (h : xs.length = z) (ht : Tin m t') : LapOk ns z m (.nx (some (.ro ns) :: some (.cell 0) :: xs) [t']) := ⟨xs, t', h, ht, .inl rfl⟩
theorem lap_cnt {ns : List Int} {z m : Nat} {xs : Fr} {t' : List D} (h : xs.length = z) (ht : Tin m t') : LapOk ns z m (.cnt (some (.ro ns) :: some (.cell 0) :: xs) [t']) := ⟨xs, t', h, ht, .inr rfl⟩
theorem lap_in {ns : List Int} {z m : Nat} {o : X} {xs : Fr} {t' : List D} (h : o = .nx (some (.ro ns) :: some (.cell 0) :: xs) [t']) (h1 : xs.length = z) (h2 : Tin m t') : LapOk ns z m o := ⟨xs, t', h1, h2, .inl h⟩
theorem laps {C : F → List D → Store → R D} {ns : List Int} {z c : Nat} {body : List S}
    (hb : ∀ (m : Nat) (t : List D) (i : Int) (xs : Fr), xs.length = z → Tin (m + c) t → 0 ≤ i → i < 1000 → LapOk ns (z + 1) m (exs C body (some (.ro ns) :: some (.cell 0) :: some (.int i) :: xs) [t])) :
    ∀ (n : Nat) (ds : List Int) (m : Nat) (t : List D) (xs : Fr), ds.length = n → (∀ i ∈ ds, 0 ≤ i ∧ i < 1000) → xs.length = z + 1 → Tin (m + c * n) t → ∃ (xs' : Fr) (t' : List D), xs'.length = z + 1 ∧ Tin m t' ∧
      forL (fun d ρ1 s2 => X.opt (bindT ρ1 (.one 2) d) fun ρ2 => exs C body ρ2 s2) (ds.map .int) (some (.ro ns) :: some (.cell 0) :: xs) [t] = .nx (some (.ro ns) :: some (.cell 0) :: xs') [t']
  | 0, ds, m, t, xs, hd, _, hx, ht => by
    cases ds with
    | nil => exact ⟨xs, t, hx, ht, rfl⟩
    | cons d ds => cases hd
  | n + 1, ds, m, t, xs, hd, hi, hx, ht => by
    cases ds with
    | nil => cases hd
    | cons d ds =>
      cases xs with
      | nil => cases hx
      | cons x xs =>
        have h0 := hi d List.mem_cons_self
        obtain ⟨ys, t1, h1, h2, h3⟩ := hb (m + c * n) t d xs (by simpa using hx) (by rw [Nat.add_assoc]; exact ht) h0.1 h0.2
        obtain ⟨zs, t2, h4, h5, h6⟩ := laps hb n ds m t1 ys (by simpa using hd) (fun i hh => hi i (List.mem_cons_of_mem _ hh)) h1 h2
        refine ⟨zs, t2, h4, h5, ?_⟩
        rw [List.map_cons, forL]
        have e : X.opt (bindT (some (.ro ns) :: some (.cell 0) :: x :: xs) (.one 2) (.int d)) (fun ρ2 => exs C body ρ2 [t]) = exs C body (some (.ro ns) :: some (.cell 0) :: some (.int d) :: xs) [t] := rfl
        rw [e]
        rcases h3 with h3 | h3 <;> (rw [h3]; exact h6)
theorem law_laps {C : F → List D → Store → R D} {ns : List Int} {z c n : Nat} {body r : List S} {P : X → Prop}
    (hb : ∀ (m : Nat) (t : List D) (i : Int) (xs : Fr), xs.length = z → Tin (m + c) t → 0 ≤ i → i < 1000 → LapOk ns (z + 1) m (exs C body (some (.ro ns) :: some (.cell 0) :: some (.int i) :: xs) [t]))
    (hn : n ≤ 1000) {m : Nat} {t : List D} (ht : Tin (m + c * n) t) {xs : Fr} (hx : xs.length = z + 1)
    (h : ∀ xs' t', xs'.length = z + 1 → Tin m t' → P (exs C r (some (.ro ns) :: some (.cell 0) :: xs') [t'])) :
    P (exs C (.fr (.one 2) .range [.cst (.int n)] body :: r) (some (.ro ns) :: some (.cell 0) :: xs) [t]) := by
  obtain ⟨ys, t', h1, h2, h3⟩ := laps hb n ((List.range n).map fun (i : Nat) => (i : Int)) m t xs (by simp) (fun i hi => by
    obtain ⟨j, hj, rfl⟩ := List.mem_map.mp hi
    have := List.mem_range.mp hj
    omega) hx ht
  have e := w_fr (r := r) (xs := ((List.range n).map fun (i : Nat) => (i : Int)).map .int) (v_cons v_cst v_nil) (s1 := [t]) (kd := .range) (ds := [.int n]) ?_ h3 rfl
  · rw [e]
    exact h ys t' h1 h2
  show (if -1000000 ≤ (n : Int) ∧ (n : Int) ≤ 1000000 then some (Sv.l (rangeL 0 (n : Int).toNat)) else none) = _
  rw [if_pos (by omega), Int.toNat_natCast, List.map_map]
  unfold rangeL
  congr 2
  apply List.map_congr_left
  intro i _
  show D.int (0 + (i : Int)) = D.int (i : Int)
  rw [Int.zero_add]
/-- a frame of known length -/
def Ends (o : X) : Prop := ∃ t, o = .ret (.bl true) [t]
theorem law_ret {k : Nat} {f : F} {ns : List Int} {z : Nat} {body : List S} (ht : tbl f = ⟨1, z + 2, false, body⟩) (h : Ends (exs (call k) body (some (.ro ns) :: none :: empties z) [])) : call (k + 1) f [.ro ns] [] = .ok (.bl true) [] := by
  obtain ⟨t, h⟩ := h
  refine w_callG [t] (ds := [_]) (ρ := some (.ro ns) :: none :: empties z) ht rfl ?_ h rfl
  show [some (D.ro ns)] ++ empties (z + 2 - 1) = _
  rfl
theorem take_ex {m : Nat} {t : List D} (h : Tin (m + 1) t) (n : Int) (hn : 0 < n) (hn2 : n < 115792089237316195423570985008687907853269984665640564039457584007913129639936) :
    ∃ i t', 0 ≤ i ∧ i < n ∧ Tin m t' ∧ ∀ (k : Nat) (g : Store), call (k + 1) .l_take [.cell 0, .int n] (t :: g) = .ok (.int i) (t' :: g) :=
  ⟨takeV t n, takeS t n, (takeV_bd t n hn).1, (takeV_bd t n hn).2, Tin_take h hn, fun k g => c_takeF k m n g t h hn hn2⟩
theorem wide_ex {m : Nat} {t : List D} (h : Tin (m + 3) t) : ∃ w t', 1 ≤ w ∧ w ≤ 64 ∧ Tin m t' ∧ ∀ (k : Nat) (g : Store), call (k + 3) .l_wide [.cell 0] (t :: g) = .ok (.int w) (t' :: g) :=
  ⟨wideV t, wideS t, (wide_is t).2.1, (wide_is t).2.2, Tin_wide h, fun k g => c_wide k m g t h⟩
theorem of_ex {m : Nat} {t : List D} (h : Tin (m + 1) t) (gs : List D) (hl : 0 < gs.length) (hl2 : gs.length ≤ 1000000) (hp : gs.all isP = true) :
    ∃ d t', d ∈ gs ∧ Tin m t' ∧ ∀ (k : Nat) (g : Store), call (k + 2) .l_of [.cell 0, .lst gs] (t :: g) = .ok d (t' :: g) :=
  ⟨ofV t gs, takeS t gs.length, ofV_mem t gs hl, Tin_take h (by omega), fun k g => c_ofF k m gs g t h hl hl2 hp⟩
theorem g_okd {n : Nat} {d : D} (h : okd n d = true) : okd n d = true := h
theorem g_shrt {d : D} (h : shrt d = true) : shrt d = true := h
theorem g_shrts {d : List D} (h : shrts d = true) : shrts d = true := h
theorem shrts_ints (ns : List Int) : shrts (ns.map .int) = true := by
  induction ns with
  | nil => rfl
  | cons n ns ih => rw [List.map_cons, shrts, ih]; rfl
theorem shrt_ints (ns : List Int) (h : ns.length ≤ 1000000) : shrt (.lst (ns.map .int)) = true := by
  rw [shrt, shrts_ints, List.length_map, decide_eq_true h]; rfl
theorem shrt_lst (xs : List D) (h : xs.length ≤ 1000000) (h2 : shrts xs = true) : shrt (.lst xs) = true := by rw [shrt, h2, decide_eq_true h]; rfl
theorem shrts_cons {x : D} {xs : List D} (h : shrt x = true) (h2 : shrts xs = true) : shrts (x :: xs) = true := by rw [shrts, h, h2]; rfl
local macro_rules | `(tactic| get_elem_tactic_trivial) => `(tactic| first
  | ((with_reducible refine g_okd ?_); first | rfl | (simp only [okd_lst, okd_tup, okds_cons, okds_nil, okd_int, okd_bl, okd_non, okd_str, okds_ints, Bool.and_true, Bool.and_self]; done))
  | ((with_reducible refine g_shrt ?_); first | rfl | ((with_reducible refine shrt_ints _ ?_); try get_elem_tactic_trivial) | ((with_reducible refine shrt_lst _ ?_ ?_) <;> first | (simp; done) | (try get_elem_tactic_trivial)))
  | ((with_reducible refine g_shrts ?_); first | rfl | ((with_reducible refine shrts_cons ?_ ?_) <;> try get_elem_tactic_trivial)))
local macro_rules | `(tactic| decreasing_trivial_pre_omega) => `(tactic| ((with_reducible refine c_same2 3 _ _ _ _ ?_ ?_ ?_) <;> first | with_reducible rfl | (get_elem_tactic_trivial; done) | skip))

/-! ### comprehensions over ranges, with draws -/
theorem lcL_filt {f : D → Store → R (Option D)} {g : D → Option D} {st : Store} : ∀ (xs acc : List D), (∀ d ∈ xs, ∀ acc : List D, f d (st ++ [acc]) = .ok (g d) (st ++ [acc])) → acc.length + xs.length ≤ 1000000 →
    lcL f st.length xs (st ++ [acc]) = .ok (acc ++ xs.filterMap g) st
  | [], acc, _, _ => by
    rw [lcL, getD_end, take_app, List.filterMap_nil, List.append_nil]
  | d :: ds, acc, h, hl => by
    rw [List.length_cons] at hl
    rw [lcL, h d List.mem_cons_self acc, bind_ok]
    cases hg : g d with
    | none =>
      rw [lcP, lcL_filt ds acc (fun x hx => h x (List.mem_cons_of_mem _ hx)) (by omega), List.filterMap_cons, hg]
    | some y =>
      rw [lcP, getD_end, if_pos (by omega), set_end, lcL_filt ds (acc ++ [y]) (fun x hx => h x (List.mem_cons_of_mem _ hx)) (by rw [List.length_append, List.length_singleton]; omega), List.filterMap_cons, hg, List.append_assoc]
      rfl
section
variable {C : F → List D → Store → R D} {ρ : Fr} {st s1 : Store}
theorem v_lcI {elt : E} {v : Nat} {kd : Sk} {src : List E} {own : List Nat} {ds : List D} {is : List Int} {g : Int → D} (h1 : evs C src ρ st = .ok ds s1) (h2 : srcS s1 kd ds = some (.l (is.map .int))) (hl : is.length ≤ 1000000)
    (h3 : ∀ i ∈ is, ∀ acc : List D, ev C elt (setS (wipeS ρ own) v (.int i)) (s1 ++ [acc]) = .ok (g i) (s1 ++ [acc])) (hp : ∀ i ∈ is, isP (g i) = true) : ev C (.lc elt (.one v) kd src [] own) ρ st = .ok (.lst (is.map g)) s1 := by
  have e := v_lcMap (C := C) (ρ := ρ) (st := st) (s1 := s1) (elt := elt) (tg := .one v) (kd := kd) (src := src) (own := own) (ds := ds) (xs := is.map .int) (g := fun d => match d with | .int i => g i | _ => .non) h1 h2 (by rw [List.length_map]; exact hl) (fun d hd => by
    obtain ⟨i, hi, rfl⟩ := List.mem_map.mp hd
    exact ⟨_, rfl, fun acc => ⟨h3 i hi acc, hp i hi⟩⟩)
  rw [e, List.map_map]
  rfl
theorem v_lcF {elt c : E} {v : Nat} {kd : Sk} {src : List E} {own : List Nat} {ds : List D} {is : List Int} {g : Int → D} {p : Int → Bool} (h1 : evs C src ρ st = .ok ds s1) (h2 : srcS s1 kd ds = some (.l (is.map .int))) (hl : is.length ≤ 1000000)
    (h3 : ∀ i ∈ is, ∀ acc : List D, ev C c (setS (wipeS ρ own) v (.int i)) (s1 ++ [acc]) = .ok (.bl (p i)) (s1 ++ [acc]))
    (h4 : ∀ i ∈ is, p i = true → ∀ acc : List D, ev C elt (setS (wipeS ρ own) v (.int i)) (s1 ++ [acc]) = .ok (g i) (s1 ++ [acc])) (hp : ∀ i ∈ is, p i = true → isP (g i) = true) : ev C (.lc elt (.one v) kd src [c] own) ρ st = .ok (.lst ((is.filter p).map g)) s1 := by
  rw [ev, h1, bind_ok, h2, opt_some, bind_ok, lcS, lcL_filt (g := fun d => match d with | .int i => if p i = true then some (g i) else none | _ => none) (is.map .int) [] (fun d hd acc => ?_) (by simpa using hl), bind_ok, List.nil_append]
  · congr 2
    clear h1 h2 hl h3 h4 hp
    induction is with
    | nil => rfl
    | cons i is ih =>
      rw [List.map_cons, List.filterMap_cons, List.filter_cons]
      cases hq : p i with
      | true =>
        simp only [hq, if_true, List.map_cons]
        rw [ih]
      | false =>
        simp only [hq, Bool.false_eq_true, if_false]
        rw [ih]
  · obtain ⟨i, hi, rfl⟩ := List.mem_map.mp hd
    show R.calm ((R.opt (some (setS (wipeS ρ own) v (.int i))) (s1 ++ [acc])).bind _) = _
    rw [opt_some, bind_ok, evs, h3 i hi acc, bind_ok, evs, bind_ok, bind_ok]
    show R.calm ((R.opt (some (p i)) (s1 ++ [acc])).bind _) = _
    rw [opt_some, bind_ok]
    cases hq : p i with
    | true =>
      rw [if_pos rfl, h4 i hi hq acc, bind_ok, if_pos (hp i hi hq)]
      simp only [hq, if_true]
      rfl
    | false =>
      rw [if_neg (by decide)]
      simp only [hq, Bool.false_eq_true, if_false]
      rfl
/-- none is found -/
theorem v_lcN {elt c : E} {v : Nat} {kd : Sk} {src : List E} {own : List Nat} {ds : List D} {is : List Int} (h1 : evs C src ρ st = .ok ds s1) (h2 : srcS s1 kd ds = some (.l (is.map .int))) (hl : is.length ≤ 1000000)
    (h3 : ∀ i ∈ is, ∀ acc : List D, ev C c (setS (wipeS ρ own) v (.int i)) (s1 ++ [acc]) = .ok (.bl false) (s1 ++ [acc])) : ev C (.lc elt (.one v) kd src [c] own) ρ st = .ok (.lst []) s1 := by
  have e := v_lcF (C := C) (ρ := ρ) (st := st) (s1 := s1) (elt := elt) (c := c) (v := v) (kd := kd) (src := src) (own := own) (ds := ds) (is := is) (g := fun _ => .non) (p := fun _ => false) h1 h2 hl h3 (fun _ _ h => by cases h) (fun _ _ h => by cases h)
  rw [e]
  simp
end
/-- a, a + 1 .. -/
def rng (a : Int) (n : Nat) : List Int := (List.range n).map fun (i : Nat) => a + (i : Int)
theorem mem_rng {a i : Int} {n : Nat} : i ∈ rng a n ↔ a ≤ i ∧ i < a + n := by
  unfold rng
  rw [List.mem_map]
  constructor
  · rintro ⟨j, hj, rfl⟩
    have := List.mem_range.mp hj
    omega
  · intro h
    exact ⟨(i - a).toNat, List.mem_range.mpr (by omega), by omega⟩
theorem rng_len (a : Int) (n : Nat) : (rng a n).length = n := by simp [rng]
theorem rangeL_eq (a : Int) (n : Nat) : rangeL a n = (rng a n).map .int := by
  unfold rangeL rng
  rw [List.map_map]
  rfl
theorem src_range (st : Store) (b : Int) (h : 0 ≤ b) (h2 : b ≤ 1000000) : srcS st .range [.int b] = some (.l ((rng 0 b.toNat).map .int)) := by
  show (if _ then some (Sv.l (rangeL 0 b.toNat)) else none) = _
  rw [if_pos (by omega), rangeL_eq]
theorem src_range2 (st : Store) (a b : Int) (h : -1000000000000000000 ≤ a) (h1 : a ≤ 1000000000000000000) (h2 : b ≤ a + 1000000) (h3 : -1000000000000000000 ≤ b) : srcS st .range [.int a, .int b] = some (.l ((rng a (b - a).toNat).map .int)) := by
  show (if _ then some (Sv.l (rangeL a (b - a).toNat)) else none) = _
  rw [if_pos (by omega), rangeL_eq]
/-- draws -/
theorem v_lcT {k : Nat} {ρ : Fr} {e : E} {v : Nat} {own : List Nat} {N c : Int} (hN : 0 < N) (hN2 : N < 115792089237316195423570985008687907853269984665640564039457584007913129639936) (hc : 0 ≤ c) (hc2 : c ≤ 1000) (a : Nat)
    (h1 : ∀ i st, evs (call (k + 1)) [.var a, e] (setS (wipeS ρ own) v (.int i)) st = .ok [.cell 0, .int N] st) {m : Nat} {t : List D} (ht : Tin (m + c.toNat) t) : ∃ (is : List Int) (t' : List D), is.length = c.toNat ∧ (∀ i ∈ is, 0 ≤ i ∧ i < N) ∧ Tin m t' ∧
      ∀ g : Store, ev (call (k + 1)) (.lc (.call .l_take [.var a, e]) (.one v) .range [.cst (.int c)] [] own) ρ (t :: g) = .ok (.lst (is.map .int)) (t' :: g) := by
  have key : ∀ (n m : Nat) (t : List D), Tin (m + n) t → ∃ (is : List Int) (t' : List D), is.length = n ∧ (∀ i ∈ is, 0 ≤ i ∧ i < N) ∧ Tin m t' ∧
      ∀ (ds : List Int) (g : Store) (acc : List D) (f : D → Store → R (Option D)), ds.length = n → acc.length + n ≤ 1000000 → (∀ (i x : Int) (t u : List D) (acc : List D), call (k + 1) .l_take [.cell 0, .int N] (t :: (g ++ [acc])) = .ok (.int x) (u :: (g ++ [acc])) → f (.int i) (t :: (g ++ [acc])) = .ok (some (.int x)) (u :: (g ++ [acc]))) →
        lcL f (g.length + 1) (ds.map .int) (t :: (g ++ [acc])) = .ok (acc ++ is.map .int) (t' :: g) := by
    intro n
    induction n with
    | zero =>
      intro m t ht
      refine ⟨[], t, rfl, (fun i h => by cases h), ht, fun ds g acc f hd ha hf => ?_⟩
      cases ds with
      | nil =>
        rw [List.map_nil, lcL, getD_end1, List.append_nil]
        have : (t :: (g ++ [acc])).take (g.length + 1) = t :: g := by simp
        rw [this]
      | cons d ds => cases hd
    | succ n ih =>
      intro m t ht
      obtain ⟨x, t1, x0, x1, ht1, hx⟩ := take_ex (m := m + n) (t := t) ht N hN hN2
      obtain ⟨is, t', hl, hb, ht', hr⟩ := ih m t1 ht1
      refine ⟨x :: is, t', by rw [List.length_cons, hl], fun i hi => ?_, ht', fun ds g acc f hd ha hf => ?_⟩
      · rcases List.mem_cons.mp hi with rfl | hi
        · exact ⟨x0, x1⟩
        · exact hb i hi
      · cases ds with
        | nil => cases hd
        | cons d ds =>
          rw [List.map_cons, lcL, hf d x t t1 acc (hx k _), bind_ok, lcP, getD_end1, if_pos (by omega), set_end1]
          rw [hr ds g (acc ++ [D.int x]) f (by simpa using hd) (by rw [List.length_append, List.length_singleton]; omega) hf, List.append_assoc]
          rfl
  obtain ⟨is, t', hl, hb, ht', hr⟩ := key c.toNat m t ht
  refine ⟨is, t', hl, hb, ht', fun g => ?_⟩
  rw [ev, v_cons v_cst v_nil, bind_ok, src_range _ c hc (by omega), opt_some, bind_ok, lcS]
  have := hr (rng 0 c.toNat) g [] (fun d s2 => R.calm ((R.opt (bindT (wipeS ρ own) (.one v) d) s2).bind fun ρ1 s2 => ((evs (call (k + 1)) [] ρ1 s2).bind fun cs s3 => .opt (tsts cs) s3).bind fun t s3 =>
      if t then (ev (call (k + 1)) (.call .l_take [.var a, e]) ρ1 s3).bind fun y s4 => if isP y then .ok (some y) s4 else .no else .ok none s3)) (rng_len _ _) (by simp; omega) (fun i x t u acc hc => by
        show R.calm ((R.opt (some (setS (wipeS ρ own) v (.int i))) _).bind _) = _
        rw [opt_some, bind_ok, evs, bind_ok]
        show R.calm ((R.opt (some true) _).bind _) = _
        rw [opt_some, bind_ok, if_pos rfl, v_call (h1 i _) hc, bind_ok]
        rfl)
  show R.bind (lcL _ (g.length + 1) ((rng 0 c.toNat).map .int) (t :: (g ++ [[]]))) _ = _
  rw [this]
  rfl

/-! ### twos, multiples -/
def twoK : Nat → Int → Int
  | 0, _ => 0
  | n + 1, d => if d % 2 = 0 then twoK n (d / 2) + 1 else 0
def twoO : Nat → Int → Int
  | 0, d => d
  | n + 1, d => if d % 2 = 0 then twoO n (d / 2) else d
/-- how often 2 divides; what is left -/
def tkV (d : Int) : Int := twoK 64 d
def toV (d : Int) : Int := twoO 64 d
theorem twoK_nn : ∀ (n : Nat) (d : Int), 0 ≤ twoK n d ∧ twoK n d ≤ n
  | 0, d => ⟨Int.le_refl _, Int.le_refl _⟩
  | n + 1, d => by
    have := twoK_nn n (d / 2)
    rw [twoK]
    split <;> omega
theorem two_mul : ∀ (n : Nat) (d : Int), d = 2 ^ (twoK n d).toNat * twoO n d
  | 0, d => by
    show d = 2 ^ 0 * d
    simp
  | n + 1, d => by
    have h := two_mul n (d / 2)
    have h2 := twoK_nn n (d / 2)
    rw [twoK, twoO]
    split
    · rw [pw_succ h2.1, Int.mul_assoc, ← h]
      omega
    · show d = 2 ^ 0 * d
      simp
theorem two_odd : ∀ (n : Nat) (d : Int), 1 ≤ d → d < 2 ^ n → twoO n d % 2 = 1 ∧ 1 ≤ twoO n d
  | 0, d, h, h2 => by
    have : (2 : Int) ^ 0 = 1 := rfl
    omega
  | n + 1, d, h, h2 => by
    rw [twoO]
    split
    · refine two_odd n (d / 2) (by omega) ?_
      rw [Int.pow_succ] at h2
      omega
    · omega
section
variable {d : Int}
theorem tk_nn : 0 ≤ tkV d := (twoK_nn 64 d).1
theorem d_eq : d = 2 ^ (tkV d).toNat * toV d := two_mul 64 d
theorem to_odd (h : 1 ≤ d) (h2 : d < 18446744073709551616) : toV d % 2 = 1 ∧ 1 ≤ toV d := two_odd 64 d h h2
theorem to_le (h : 1 ≤ d) (h2 : d < 18446744073709551616) : toV d ≤ d := by
  have h3 := (to_odd h h2).2
  have h4 := pw_pos (tkV d).toNat
  have h5 := d_eq (d := d)
  have := Int.mul_le_mul_of_nonneg_right (show (1 : Int) ≤ 2 ^ (tkV d).toNat by omega) (show 0 ≤ toV d by omega)
  omega
theorem pk_le (h : 1 ≤ d) (h2 : d < 18446744073709551616) : 2 ^ (tkV d).toNat ≤ d := by
  have h3 := (to_odd h h2).2
  have h4 := pw_pos (tkV d).toNat
  have h5 := d_eq (d := d)
  have := Int.mul_le_mul_of_nonneg_left h3 (show 0 ≤ (2 : Int) ^ (tkV d).toNat by omega)
  omega
theorem pw_lt_inv {a b : Int} (h : (2 : Int) ^ a.toNat < 2 ^ b.toNat) : a < b := by
  rcases Int.lt_or_le a b with h1 | h1
  · exact h1
  · have := pw_le h1
    omega
theorem tk_lt {w : Int} (h : 1 ≤ d) (h2 : d < 2 ^ w.toNat) (hw : w ≤ 64) : tkV d < w := by
  have := pw_64 hw
  have h3 := pk_le h (by omega)
  exact pw_lt_inv (Int.lt_of_le_of_lt h3 h2)
end
/-- unique: what an odd part and a power of 2 are -/
theorem two_uniq : ∀ (n : Nat) (k : Nat) (o : Int), o % 2 = 1 → k < n → twoK n (2 ^ k * o) = k ∧ twoO n (2 ^ k * o) = o
  | 0, k, o, _, h => absurd h (Nat.not_lt_zero _)
  | n + 1, 0, o, ho, _ => by
    have e : (2 : Int) ^ 0 * o = o := by simp
    rw [e, twoK, twoO, if_neg (by omega), if_neg (by omega)]
    exact ⟨rfl, rfl⟩
  | n + 1, k + 1, o, ho, h => by
    have e : (2 : Int) ^ (k + 1) * o = 2 * (2 ^ k * o) := by
      rw [Int.pow_succ, Int.mul_comm ((2 : Int) ^ k), Int.mul_assoc]
    have ih := two_uniq n k o ho (by omega)
    have e2 : (2 : Int) * (2 ^ k * o) / 2 = 2 ^ k * o := by omega
    rw [e, twoK, twoO, if_pos (by omega), if_pos (by omega), e2, ih.1, ih.2]
    exact ⟨by omega, rfl⟩
theorem c_twos_in (k : Nat) (d : Int) (st : Store) (h : 1 ≤ d) (h2 : d < 18446744073709551616) : call (k + 1) .twos_in [.int d] st = .ok (.tup [.int (tkV d), .int (toV d)]) st := by
  refine w_call (ds := [_]) (ρ := [some _, none, none]) (body := b_twos_in) rfl rfl rfl ?_ (by rfl); unfold b_twos_in
  refine x_par (v_cons v_cst (v_cons (v_var rfl) v_nil)) rfl ?_
  have key := whG_inv (c := fun ρ1 s1 => tst (call k) (.cmp .Eq (.bin .Mod (.var 2) (.cst (.int 2))) (.cst (.int 0))) ρ1 s1)
    (f := fun ρ1 s1 => exs (call k) [.par [1, 2] [.bin .Add (.var 1) (.cst (.int 1)), .bin .FloorDiv (.var 2) (.cst (.int 2))]] ρ1 s1)
    (P := fun n ρ s => ∃ i x : Int, 1 ≤ x ∧ x < 2 ^ n ∧ ρ = [some (.int d), some (.int i), some (.int x)] ∧ s = st ∧ i + twoK n x = tkV d ∧ twoO n x = toV d)
    (Q := fun ρ s => ρ = [some (.int d), some (.int (tkV d)), some (.int (toV d))] ∧ s = st) ?_ 64 1000000 _ _ (by decide) ⟨0, d, h, h2, rfl, rfl, Int.zero_add _, rfl⟩
  · obtain ⟨ρ', s1, e1, rfl, rfl⟩ := key
    exact w_wh e1 (x_ret (v_tup (v_cons (v_var rfl) (v_cons (v_var rfl) v_nil)) rfl))
  · rintro n ρ s ⟨i, x, x1, x2, rfl, rfl, e1, e2⟩
    by_cases hx : x % 2 = 0
    · right
      cases n with
      | zero =>
        have : (2 : Int) ^ 0 = 1 := rfl
        omega
      | succ n =>
        rw [twoK, if_pos hx] at e1
        rw [twoO, if_pos hx] at e2
        rw [Int.pow_succ] at x2
        refine ⟨n, [some (.int d), some (.int (i + 1)), some (.int (x / 2))], s, rfl, ?_, .inl ?_, i + 1, x / 2, by omega, by omega, rfl, rfl, by omega, e2⟩
        · refine tst_ok (v_cmp (v_bin (v_var rfl) v_cst (mod_int _ _ (by decide))) v_cst (eq_int _ _)) ?_
          rw [decide_eq_true hx]
          rfl
        · exact x_par (v_cons (v_bin (v_var rfl) v_cst (add_int _ _)) (v_cons (v_bin (v_var rfl) v_cst (div_int _ _ (by decide) (by decide))) v_nil)) rfl w_nil
    · left
      have e3 : twoK n x = 0 := by cases n <;> simp [twoK, hx]
      have e4 : twoO n x = x := by cases n <;> simp [twoO, hx]
      rw [e3] at e1
      rw [e4] at e2
      refine ⟨?_, ?_, rfl⟩
      · refine tst_ok (v_cmp (v_bin (v_var rfl) v_cst (mod_int _ _ (by decide))) v_cst (eq_int _ _)) ?_
        rw [decide_eq_false hx]
        rfl
      · rw [← e1, ← e2, Int.add_zero]
local macro_rules | `(tactic| decreasing_trivial_pre_omega) => `(tactic| ((with_reducible refine c_twos_in _ _ _ ?_ ?_) <;> first | omega | rfl | assumption | (try get_elem_tactic_trivial)))

theorem rng_succ (a : Int) (n : Nat) : rng a (n + 1) = a :: rng (a + 1) n := by
  unfold rng
  rw [List.range_succ_eq_map, List.map_cons, List.map_map]
  congr 1
  · exact Int.add_zero a
  · apply List.map_congr_left
    intro i _
    show a + ((i + 1 : Nat) : Int) = a + 1 + (i : Int)
    omega
theorem c_l_twos (k : Nat) (d : Int) (st : Store) (h : 1 ≤ d) (h2 : d < 18446744073709551616) : call (k + 1) .l_twos [.int d] st = .ok (.tup [.int (tkV d), .int (toV d)]) st := by
  have key : ∀ (n : Nat) (x i : Int) (ds : List D) (e : Option D), 1 ≤ x → x < 2 ^ n → n ≤ ds.length → ∃ e', forL (fun d ρ1 s2 => X.opt (bindT ρ1 (.one 2) d) fun ρ2 => exs (call k) [.ife (.cmp .Eq (.bin .Mod (.var 0) (.cst (.int 2))) (.cst (.int 1))) [.brk] [],
      .par [0, 1] [.bin .FloorDiv (.var 0) (.cst (.int 2)), .bin .Add (.var 1) (.cst (.int 1))]] ρ2 s2) ds [some (.int x), some (.int i), e] st = .nx [some (.int (twoO n x)), some (.int (i + twoK n x)), e'] st := by
    intro n
    induction n with
    | zero =>
      intro x i ds e h1 h2
      have : (2 : Int) ^ 0 = 1 := rfl
      omega
    | succ n ih =>
      intro x i ds e h1 h2 h3
      cases ds with
      | nil => exact absurd h3 (Nat.not_succ_le_zero _)
      | cons a ds =>
        have ht : tst (call k) (.cmp .Eq (.bin .Mod (.var 0) (.cst (.int 2))) (.cst (.int 1))) [some (.int x), some (.int i), some a] st = .ok (decide (x % 2 = 1)) st := tst_ok (v_cmp (v_bin (v_var rfl) v_cst (mod_int _ _ (by decide))) v_cst (eq_int _ _)) rfl
        by_cases hx : x % 2 = 0
        · obtain ⟨e', he⟩ := ih (x / 2) (i + 1) ds (some a) (by omega) (by rw [Int.pow_succ] at h2; omega) (by rw [List.length_cons] at h3; omega)
          refine ⟨e', ?_⟩
          rw [decide_eq_false (by omega)] at ht
          rw [forL, w_body (ρ' := [some (.int x), some (.int i), some a]) rfl (x_ifF0 ht (x_par (v_cons (v_bin (v_var rfl) v_cst (div_int _ _ (by decide) (by decide))) (v_cons (v_bin (v_var rfl) v_cst (add_int _ _)) v_nil)) rfl w_nil))]
          dsimp only
          rw [twoO, twoK, if_pos hx, if_pos hx]
          have e3 : i + (twoK n (x / 2) + 1) = i + 1 + twoK n (x / 2) := by omega
          rw [e3]
          exact he
        · refine ⟨some a, ?_⟩
          rw [decide_eq_true (by omega)] at ht
          rw [forL, w_body (ρ' := [some (.int x), some (.int i), some a]) rfl (x_ifT ht (by rw [w_brk, seq_brk]))]
          dsimp only
          rw [twoO, twoK, if_neg hx, if_neg hx, Int.add_zero]
  obtain ⟨e', he⟩ := key 64 d 0 ((rng 0 70).map .int) none h h2 (by simp [rng_len])
  rw [Int.zero_add] at he
  refine w_call (ds := [_]) (ρ := [some _, none, none]) (body := b_l_twos) rfl rfl rfl ?_ (by rfl); unfold b_l_twos
  refine w_asg v_cst rfl (w_fr (v_cons v_cst v_nil) (src_range _ 70 (by decide) (by decide)) he (x_ret (v_tup (v_cons (v_var rfl) (v_cons (v_var rfl) v_nil)) rfl)))
local macro_rules | `(tactic| decreasing_trivial_pre_omega) => `(tactic| ((with_reducible refine c_l_twos _ _ _ ?_ ?_) <;> first | omega | rfl | assumption | (try get_elem_tactic_trivial)))
theorem inv_unique {o b x y : Int} (h : invOk o b x) (h2 : invOk o b y) : x = y := by
  obtain ⟨⟨u, hu⟩, x0, x1⟩ := h
  obtain ⟨⟨v, hv⟩, y0, y1⟩ := h2
  have hP := pw_pos b.toNat
  have e : x - y = 2 ^ b.toNat * (x * -v - y * -u) := by
    have e1 : o * x = 2 ^ b.toNat * u + 1 := by omega
    have e2 : o * y = 2 ^ b.toNat * v + 1 := by omega
    have e3 : x * (o * y) = y * (o * x) := by
      rw [← Int.mul_assoc, Int.mul_comm x o, Int.mul_assoc, Int.mul_comm x y, ← Int.mul_assoc, Int.mul_comm o y, Int.mul_assoc]
    rw [e1, e2] at e3
    generalize (2 : Int) ^ b.toNat = P at e3 ⊢
    rw [Int.mul_add, Int.mul_add, Int.mul_one, Int.mul_one] at e3
    rw [Int.mul_sub, Int.mul_neg, Int.mul_neg, Int.mul_neg, Int.mul_neg]
    have e4 : P * (x * v) = x * (P * v) := by rw [← Int.mul_assoc, Int.mul_comm P x, Int.mul_assoc]
    have e5 : P * (y * u) = y * (P * u) := by rw [← Int.mul_assoc, Int.mul_comm P y, Int.mul_assoc]
    omega
  generalize (x * -v - y * -u) = q at e
  have hq : q = 0 := by
    rcases Int.lt_trichotomy q 0 with hq | hq | hq
    · have := Int.mul_le_mul_of_nonneg_left (show q ≤ -1 by omega) (Int.le_of_lt hP)
      omega
    · exact hq
    · have := Int.mul_le_mul_of_nonneg_left (show 1 ≤ q by omega) (Int.le_of_lt hP)
      omega
  rw [hq] at e
  omega
theorem inv_bit {o j x : Int} (hj : 1 ≤ j) (ho : o % 2 = 1) (h : invOk o j x) : invOk o (j + 1) (if x * o / 2 ^ j.toNat % 2 ≠ 0 then x + 2 ^ j.toNat else x) := by
  obtain ⟨⟨u, hu⟩, x0, x1⟩ := h
  have hP := pw_pos j.toNat
  have hP2 := pw_two hj
  have e1 : x * o = 1 + u * 2 ^ j.toNat := by
    rw [Int.mul_comm]
    have : 2 ^ j.toNat * u = u * 2 ^ j.toNat := Int.mul_comm _ _
    omega
  have e2 : x * o / 2 ^ j.toNat = u := by
    rw [e1, Int.add_mul_ediv_right _ _ (by omega), Int.ediv_eq_zero_of_lt (by decide) (by omega), Int.zero_add]
  rw [e2]
  unfold invOk
  rw [pw_succ (by omega)]
  split
  · refine ⟨⟨(u + o) / 2, ?_⟩, by omega, by omega⟩
    have e3 : o * (x + 2 ^ j.toNat) - 1 = 2 ^ j.toNat * (u + o) := by
      rw [Int.mul_add, Int.mul_add, Int.mul_comm o (2 ^ j.toNat)]
      omega
    rw [e3, Int.mul_comm 2, Int.mul_assoc]
    congr 1
    omega
  · refine ⟨⟨u / 2, ?_⟩, by omega, by omega⟩
    rw [hu, Int.mul_comm 2, Int.mul_assoc]
    congr 1
    omega
theorem c_l_inverse (k : Nat) (w o : Int) (st : Store) (h : 1 ≤ w) (h2 : w ≤ 64) (h3 : 0 ≤ o) (h4 : o < 2 ^ w.toNat) (h5 : o % 2 = 1) : call (k + 2) .l_inverse [.int w, .int o] st = .ok (.int (invV w o)) st := by
  have hw := pw_64 h2
  have key := forL_inv (f := fun d ρ1 s2 => X.opt (bindT ρ1 (.one 3) d) fun ρ2 => exs (call (k + 1)) [.ife (.cmp .NotEq (.bin .Mod (.bin .RShift (.bin .Mult (.var 2) (.var 1)) (.var 3)) (.cst (.int 2))) (.ite (.cmp .Eq (.var 3) (.cst (.int 0))) (.cst (.int 1)) (.cst (.int 0)))) [.asg 2 (.bin .Add (.var 2) (.call .l_two [.var 3]))] []] ρ2 s2)
    (P := fun ds ρ s => ∃ (n : Nat) (j x : Int) (e : Option D), 0 ≤ j ∧ j + n = w ∧ ds = (rng j n).map .int ∧ (j = 0 ∧ x = 0 ∨ 1 ≤ j ∧ invOk o j x) ∧ ρ = [some (.int w), some (.int o), some (.int x), e] ∧ s = st) ?_ ((rng 0 w.toNat).map .int) _ _ ⟨w.toNat, 0, 0, none, by omega, by omega, rfl, .inl ⟨rfl, rfl⟩, rfl, rfl⟩
  · obtain ⟨ρ', s1, e1, n, j, x, e, j1, j2, j3, j4, rfl, rfl⟩ := key
    cases n with
    | succ n => rw [rng_succ] at j3; cases j3
    | zero =>
      have hj : j = w := by omega
      subst hj
      have hx : invOk o j x := by
        rcases j4 with h | h
        · omega
        · exact h.2
      have ex : x = invV j o := inv_unique hx (inv_ok h h2 h5)
      refine w_call (ds := [_, _]) (ρ := [some _, some _, none, none]) (body := b_l_inverse) rfl rfl rfl ?_ (by rfl); unfold b_l_inverse
      refine w_asg v_cst rfl (w_fr (v_cons (v_var rfl) v_nil) (src_range _ j (by omega) (by omega)) e1 (w_ret (v_bin (v_var rfl) (v_call (v_cons (v_var rfl) v_nil) (c_two k j s1 (by omega) (by omega))) (mod_int _ _ (pw_pos _))) ?_ rfl))
      rw [Int.emod_eq_of_lt hx.2.1 hx.2.2, ex]
  · rintro d ds ρ s ⟨n, j, x, e, j1, j2, j3, j4, rfl, rfl⟩
    cases n with
    | zero => cases j3
    | succ n =>
      rw [rng_succ, List.map_cons] at j3
      obtain ⟨rfl, rfl⟩ := List.cons.inj j3
      have hjw : (2 : Int) ^ j.toNat ≤ 2 ^ w.toNat := pw_le (by omega)
      have hx : 0 ≤ x ∧ x < 2 ^ w.toNat := by
        rcases j4 with h | h
        · omega
        · have := h.2.2
          omega
      have ev1 : tst (call (k + 1)) (.cmp .NotEq (.bin .Mod (.bin .RShift (.bin .Mult (.var 2) (.var 1)) (.var 3)) (.cst (.int 2))) (.ite (.cmp .Eq (.var 3) (.cst (.int 0))) (.cst (.int 1)) (.cst (.int 0)))) [some (.int w), some (.int o), some (.int x), some (.int j)] s = .ok (!decide (x * o / 2 ^ j.toNat % 2 = if decide (j = 0) = true then 1 else 0)) s :=
        tst_ok (v_cmp (v_bin (v_bin (v_bin (v_var rfl) (v_var rfl) (mul_int _ _ (by omega))) (v_var rfl) (shr_int _ _ j1)) v_cst (mod_int _ _ (by decide))) (w_iteI (v_cmp (v_var rfl) v_cst (eq_int _ _)) rfl (fun _ => v_cst) (fun _ => v_cst)) (ne_int _ _)) rfl
      refine ⟨[some (.int w), some (.int o), some (.int (if x * o / 2 ^ j.toNat % 2 ≠ (if decide (j = 0) = true then 1 else 0) then x + 2 ^ j.toNat else x)), some (.int j)], s, .inl (w_body rfl (w_if ev1 (fun hb => ?_) fun hb => ?_)), n, j + 1, _, _, by omega, by omega, rfl, .inr ⟨by omega, ?_⟩, rfl, rfl⟩
      · have hb : ¬ (x * o / 2 ^ j.toNat % 2 = if decide (j = 0) = true then 1 else 0) := by simpa using hb
        rw [if_pos hb]
        exact w_asg (v_bin (v_var rfl) (v_call (v_cons (v_var rfl) v_nil) (c_two k j s j1 (by omega))) (add_int _ _)) rfl w_nil
      · have hb : x * o / 2 ^ j.toNat % 2 = if decide (j = 0) = true then 1 else 0 := by simpa using hb
        rw [if_neg (by rw [hb]; simp)]
        exact w_nil
      · rcases j4 with ⟨rfl, rfl⟩ | ⟨j5, j6⟩
        · rw [decide_eq_true rfl]
          simp
          refine ⟨⟨o / 2, ?_⟩, by decide, by decide⟩
          show o * 1 - 1 = 2 * _
          omega
        · rw [decide_eq_false (by omega)]
          exact inv_bit j5 h5 j6
local macro_rules | `(tactic| decreasing_trivial_pre_omega) => `(tactic| ((with_reducible refine c_l_inverse _ _ _ _ ?_ ?_ ?_ ?_ ?_) <;> first | omega | rfl | assumption | (try get_elem_tactic_trivial)))
theorem mod_bit (x : Int) (j : Int) (hj : 0 ≤ j) : x % 2 ^ (j + 1).toNat = x % 2 ^ j.toNat + x / 2 ^ j.toNat % 2 * 2 ^ j.toNat := by
  have hP := pw_pos j.toNat
  rw [pw_succ hj]
  generalize (2 : Int) ^ j.toNat = P at hP ⊢
  have e1 : x = P * (x / P) + x % P := (Int.mul_ediv_add_emod x P).symm
  have e2 : x / P = 2 * (x / P / 2) + x / P % 2 := (Int.mul_ediv_add_emod (x / P) 2).symm
  have h1 := Int.emod_nonneg x (show P ≠ 0 by omega)
  have h2 := Int.emod_lt_of_pos x hP
  have e3 : x = (x % P + x / P % 2 * P) + 2 * P * (x / P / 2) := by
    have e4 : P * (x / P) = 2 * P * (x / P / 2) + x / P % 2 * P := by
      have := congrArg (fun z => P * z) e2
      rw [Int.mul_add, ← Int.mul_assoc, Int.mul_comm P 2, Int.mul_comm P (x / P % 2)] at this
      exact this
    omega
  have h3 : 0 ≤ x % P + x / P % 2 * P ∧ x % P + x / P % 2 * P < 2 * P := by
    have : x / P % 2 = 0 ∨ x / P % 2 = 1 := by omega
    rcases this with h | h <;> rw [h] <;> omega
  generalize x % P + x / P % 2 * P = r at e3 h3 ⊢
  rw [e3, Int.add_mul_emod_self_left]
  exact Int.emod_eq_of_lt h3.1 h3.2
theorem turn_bit {w n a j : Int} (hw : 1 ≤ w) (h0 : 0 ≤ n) (h : n < 2 ^ w.toNat) (hj : 0 ≤ j) (hj2 : j < w) : turnV w n a / 2 ^ j.toNat % 2 = n / 2 ^ ((j + a) % w).toNat % 2 := by
  have h1 := Int.emod_nonneg a (show w ≠ 0 by omega)
  have h2 := Int.emod_lt_of_pos a (show 0 < w by omega)
  have hm : (j + a) % w = (j + a % w) % w := by rw [Int.add_emod_emod]
  rw [hm]
  unfold turnV
  generalize a % w = m at h1 h2 ⊢
  have pj := pw_pos j.toNat
  have pm := pw_pos m.toNat
  have hA0 := Int.ediv_nonneg h0 (Int.le_of_lt pm)
  have hA := div_lt_pw h0 h h1 (show m ≤ w by omega)
  by_cases hc : j + m < w
  · rw [Int.emod_eq_of_lt (by omega) hc]
    have e1 : (2 : Int) ^ (w - m).toNat = 2 ^ j.toNat * (2 * 2 ^ (w - m - j - 1).toNat) := by
      rw [pw_sub hj (show j ≤ w - m by omega), pw_half (w := w - m - j) (by omega)]
    have e2 : n % 2 ^ m.toNat * 2 ^ (w - m).toNat = n % 2 ^ m.toNat * 2 ^ (w - m - j - 1).toNat * 2 * 2 ^ j.toNat := by
      rw [e1]
      generalize n % 2 ^ m.toNat = u
      generalize (2 : Int) ^ (w - m - j - 1).toNat = v
      generalize (2 : Int) ^ j.toNat = z
      rw [Int.mul_comm z, ← Int.mul_assoc, Int.mul_comm 2 v, ← Int.mul_assoc]
    rw [e2, Int.add_mul_ediv_right _ _ (by omega), Int.add_mul_emod_self_right, Int.ediv_ediv_of_nonneg (Int.le_of_lt pm), ← pw_add h1 hj, Int.add_comm m j]
  · have e0 : (j + m) % w = j + m - w := by
      have : j + m = (j + m - w) + w * 1 := by omega
      rw [this, Int.add_mul_emod_self_left]
      exact (Int.emod_eq_of_lt (by omega) (by omega)).trans (by omega)
    rw [e0]
    have p1 := pw_pos (w - m).toNat
    have e1 : (n / 2 ^ m.toNat + n % 2 ^ m.toNat * 2 ^ (w - m).toNat) / 2 ^ j.toNat = n % 2 ^ m.toNat / 2 ^ (j - (w - m)).toNat := by
      rw [pw_sub (show 0 ≤ w - m by omega) (show w - m ≤ j by omega), ← Int.ediv_ediv_of_nonneg (Int.le_of_lt p1), Int.add_mul_ediv_right _ _ (by omega), Int.ediv_eq_zero_of_lt hA0 hA, Int.zero_add]
    rw [e1, show j - (w - m) = j + m - w by omega]
    generalize hi : j + m - w = i
    have pi := pw_pos i.toNat
    have e2 : n = n % 2 ^ m.toNat + n / 2 ^ m.toNat * 2 ^ (m - i - 1).toNat * 2 * 2 ^ i.toNat := by
      have e3 : (2 : Int) ^ m.toNat = 2 ^ i.toNat * (2 * 2 ^ (m - i - 1).toNat) := by
        rw [pw_sub (show 0 ≤ i by omega) (show i ≤ m by omega), pw_half (w := m - i) (by omega)]
      have e4 := Int.mul_ediv_add_emod n (2 ^ m.toNat)
      have e5 : n / 2 ^ m.toNat * 2 ^ (m - i - 1).toNat * 2 * 2 ^ i.toNat = 2 ^ m.toNat * (n / 2 ^ m.toNat) := by
        generalize n / 2 ^ m.toNat = u
        rw [e3]
        generalize (2 : Int) ^ (m - i - 1).toNat = v
        generalize (2 : Int) ^ i.toNat = z
        rw [Int.mul_comm _ u, Int.mul_comm z, ← Int.mul_assoc, Int.mul_comm 2 v, ← Int.mul_assoc]
      omega
    have e6 : n / 2 ^ i.toNat % 2 = n % 2 ^ m.toNat / 2 ^ i.toNat % 2 := by
      have := congrArg (fun z => z / 2 ^ i.toNat % 2) e2
      rw [Int.add_mul_ediv_right _ _ (by omega), Int.add_mul_emod_self_right] at this
      exact this
    exact e6.symm
theorem c_l_rolled (k : Nat) (w n a : Int) (st : Store) (h : 1 ≤ w) (h2 : w ≤ 64) (h3 : 0 ≤ n) (h4 : n < 2 ^ w.toNat) (ha : 0 ≤ a) : call (k + 2) .l_rolled [.int w, .int n, .int a] st = .ok (.int (turnV w n a)) st := by
  have hw := pw_64 h2
  have key := forL_inv (f := fun d ρ1 s2 => X.opt (bindT ρ1 (.one 4) d) fun ρ2 => exs (call (k + 1)) [.asg 3 (.bin .Add (.var 3) (.bin .Mult (.bin .BitAnd (.bin .RShift (.var 1) (.bin .Mod (.bin .Add (.var 4) (.var 2)) (.var 0))) (.cst (.int 1))) (.call .l_two [.var 4])))] ρ2 s2)
    (P := fun ds ρ s => ∃ (z : Nat) (j : Int) (e : Option D), 0 ≤ j ∧ j + z = w ∧ ds = (rng j z).map .int ∧ ρ = [some (.int w), some (.int n), some (.int a), some (.int (turnV w n a % 2 ^ j.toNat)), e] ∧ s = st) ?_ ((rng 0 w.toNat).map .int) _ _ ⟨w.toNat, 0, none, by omega, by omega, rfl, by rw [show (2 : Int) ^ (0 : Int).toNat = 1 from rfl, Int.emod_one], rfl⟩
  · obtain ⟨ρ', s1, e1, z, j, e, j1, j2, j3, rfl, rfl⟩ := key
    cases z with
    | succ z => rw [rng_succ] at j3; cases j3
    | zero =>
      have hj : j = w := by omega
      subst hj
      have hb := turn_bd (k := a) h h3 h4
      rw [Int.emod_eq_of_lt hb.1 hb.2] at e1
      refine w_call (ds := [_, _, _]) (ρ := [some _, some _, some _, none, none]) (body := b_l_rolled) rfl rfl rfl ?_ (by rfl); unfold b_l_rolled
      exact w_asg v_cst rfl (w_fr (v_cons (v_var rfl) v_nil) (src_range _ j (by omega) (by omega)) e1 (x_ret (v_var rfl)))
  · rintro d ds ρ s ⟨z, j, e, j1, j2, j3, rfl, rfl⟩
    cases z with
    | zero => cases j3
    | succ z =>
      rw [rng_succ, List.map_cons] at j3
      obtain ⟨rfl, rfl⟩ := List.cons.inj j3
      have hm := Int.emod_nonneg (j + a) (show w ≠ 0 by omega)
      have hp := pw_64 (show j ≤ 64 by omega)
      have hq := pw_pos j.toNat
      have e2 := mod_bit (turnV w n a) j j1
      rw [turn_bit h h3 h4 j1 (by omega)] at e2
      have hb := PyProof.Rows.bitAnd_m1 (n / 2 ^ ((j + a) % w).toNat)
      refine ⟨_, s, .inl (w_body rfl (w_asg (v_bin (v_var rfl) (v_bin (v_bin (v_bin (v_var rfl) (v_bin (v_bin (v_var rfl) (v_var rfl) (add_int _ _)) (v_var rfl) (mod_int _ _ (by omega))) (shr_int _ _ hm)) v_cst (and_int _ _)) (v_call (v_cons (v_var rfl) v_nil) (c_two k j s j1 (by omega))) (mul_int _ _ (by rw [hb]; omega))) (add_int _ _)) rfl w_nil)), z, j + 1, some (.int j), by omega, by omega, rfl, ?_, rfl⟩
      rw [hb, e2]
      rfl
local macro_rules | `(tactic| decreasing_trivial_pre_omega) => `(tactic| ((with_reducible refine c_l_rolled _ _ _ _ _ ?_ ?_ ?_ ?_ ?_) <;> first | omega | rfl | assumption | (try get_elem_tactic_trivial)))

/-! ### where a DIVISOR leads -/
def ledV (w d n : Int) : Int := turnV w (n * invV w (toV d) % 2 ^ w.toNat) (tkV d)
def backV (w d n : Int) : Int := turnV w n (w - tkV d) * toV d % 2 ^ w.toNat
/-- a DIVISOR of a WIDTH -/
structure Dv (w d : Int) : Prop where
  w1 : 1 ≤ w
  w2 : w ≤ 64
  d1 : 1 ≤ d
  d2 : d < 2 ^ w.toNat
section
variable {w d n : Int}
theorem Dv.hp (h : Dv w d) : (2 : Int) ^ w.toNat ≤ 18446744073709551616 := pw_64 h.w2
theorem Dv.lt (h : Dv w d) : d < 18446744073709551616 := by have := h.hp; have := h.d2; omega
theorem Dv.odd (h : Dv w d) : toV d % 2 = 1 := (to_odd h.d1 h.lt).1
theorem Dv.o1 (h : Dv w d) : 1 ≤ toV d := (to_odd h.d1 h.lt).2
theorem Dv.ole (h : Dv w d) : toV d ≤ d := to_le h.d1 h.lt
theorem Dv.klt (h : Dv w d) : tkV d < w := tk_lt h.d1 h.d2 h.w2
theorem Dv.inv (h : Dv w d) : invOk (toV d) w (invV w (toV d)) := inv_ok h.w1 h.w2 h.odd
theorem Dv.inv1 (h : Dv w d) : toV d * invV w (toV d) % 2 ^ w.toNat = 1 := inv_mul h.w1 h.w2 h.odd
theorem Dv.pos (h : Dv w d) : (0 : Int) < 2 ^ w.toNat := pw_pos _
theorem mul_mod_bd (a : Int) (w : Int) : 0 ≤ a % 2 ^ w.toNat ∧ a % 2 ^ w.toNat < 2 ^ w.toNat := ⟨Int.emod_nonneg _ (by have := pw_pos w.toNat; omega), Int.emod_lt_of_pos _ (pw_pos _)⟩
theorem led_bd (h : Dv w d) (n : Int) : 0 ≤ ledV w d n ∧ ledV w d n < 2 ^ w.toNat := turn_bd h.w1 (mul_mod_bd _ _).1 (mul_mod_bd _ _).2
theorem back_bd (w d n : Int) : 0 ≤ backV w d n ∧ backV w d n < 2 ^ w.toNat := mul_mod_bd _ _
theorem mulmod_inv {P o v n : Int} (h : o * v % P = 1) (h0 : 0 ≤ n) (h1 : n < P) : n * v % P * o % P = n := by
  rw [Int.mul_emod, Int.emod_emod_of_dvd _ (Int.dvd_refl P), ← Int.mul_emod, Int.mul_assoc, Int.mul_comm v o, Int.mul_emod, h, Int.mul_one, Int.emod_emod_of_dvd _ (Int.dvd_refl P)]
  exact Int.emod_eq_of_lt h0 h1
theorem back_led (h : Dv w d) (h0 : 0 ≤ n) (h1 : n < 2 ^ w.toNat) : backV w d (ledV w d n) = n := by
  unfold backV ledV
  rw [turn_back h.w1 (mul_mod_bd _ _).1 (mul_mod_bd _ _).2 tk_nn (Int.le_of_lt h.klt)]
  exact mulmod_inv h.inv1 h0 h1
theorem led_back (h : Dv w d) (h0 : 0 ≤ n) (h1 : n < 2 ^ w.toNat) : ledV w d (backV w d n) = n := by
  have ht := turn_bd (k := w - tkV d) h.w1 h0 h1
  have h2 := h.klt
  have h3 := tk_nn (d := d)
  have e : turnV w (turnV w n (w - tkV d)) (w - (w - tkV d)) = n := turn_back h.w1 h0 h1 (by omega) (by omega)
  rw [show w - (w - tkV d) = tkV d by omega] at e
  unfold ledV backV
  rw [mulmod_inv (by rw [Int.mul_comm]; exact h.inv1) ht.1 ht.2, e]
theorem turn_low {w x k : Int} (hk : 0 ≤ k) (hk2 : k < w) (h0 : 0 ≤ x) : turnV w (x * 2 ^ k.toNat) k = x := by
  unfold turnV
  have := pw_pos k.toNat
  rw [Int.emod_eq_of_lt hk hk2, Int.mul_ediv_cancel _ (by omega), Int.mul_emod_left, Int.zero_mul, Int.add_zero]
/-- multiples are led to their quotients -/
theorem led_mul (h : Dv w d) {q : Int} (h0 : 0 ≤ q) (h1 : q * d < 2 ^ w.toNat) : ledV w d (q * d) = q := by
  have e := d_eq (d := d)
  have hk := pw_pos (tkV d).toNat
  have ho := h.o1
  have hP := h.pos
  have h2 : q * 2 ^ (tkV d).toNat ≤ q * d := Int.mul_le_mul_of_nonneg_left (pk_le h.d1 h.lt) h0
  have h3 := Int.mul_nonneg h0 (Int.le_of_lt hk)
  have e2 : q * d * invV w (toV d) % 2 ^ w.toNat = q * 2 ^ (tkV d).toNat := by
    have e3 : q * d * invV w (toV d) = q * 2 ^ (tkV d).toNat * (toV d * invV w (toV d)) := by
      have := congrArg (fun z => q * z * invV w (toV d)) e
      refine this.trans ?_
      rw [← Int.mul_assoc q, Int.mul_assoc]
    rw [e3, Int.mul_emod, h.inv1, Int.mul_one, Int.emod_emod_of_dvd _ (Int.dvd_refl _)]
    exact Int.emod_eq_of_lt h3 (by omega)
  unfold ledV
  rw [e2]
  exact turn_low tk_nn h.klt h0
theorem back_mul (h : Dv w d) {q : Int} (h0 : 0 ≤ q) (h1 : q * d < 2 ^ w.toNat) : backV w d q = q * d := by
  rw [← led_mul h h0 h1]
  rw [back_led h (Int.mul_nonneg h0 (by have := h.d1; omega)) h1, led_mul h h0 h1]
theorem bound_iff (h : Dv w d) {q : Int} : q ≤ (2 ^ w.toNat - 1) / d ↔ q * d < 2 ^ w.toNat := by
  rw [Int.le_ediv_iff_mul_le (by have := h.d1; omega)]
  omega
/-- just the multiples are led to the first ones -/
theorem led_le (h : Dv w d) (h0 : 0 ≤ n) (h1 : n < 2 ^ w.toNat) : ledV w d n ≤ (2 ^ w.toNat - 1) / d ↔ n % d = 0 := by
  have hd := h.d1
  constructor
  · intro hl
    have h2 := back_mul h (led_bd h n).1 ((bound_iff h).mp hl)
    rw [back_led h h0 h1] at h2
    rw [h2]
    exact Int.mul_emod_left _ _
  · intro hm
    have e : n = n / d * d := by
      have := Int.mul_ediv_add_emod n d
      rw [hm, Int.mul_comm] at this
      omega
    have h2 := led_mul h (q := n / d) (Int.ediv_nonneg h0 (by omega)) (by rw [← e]; exact h1)
    rw [← e] at h2
    rw [h2, bound_iff h, ← e]
    exact h1
theorem led_quo (h : Dv w d) (h0 : 0 ≤ n) (h1 : n < 2 ^ w.toNat) (hm : n % d = 0) : ledV w d n = n / d := by
  have hd := h.d1
  have e : n = n / d * d := by
    have := Int.mul_ediv_add_emod n d
    rw [hm, Int.mul_comm] at this
    omega
  have h2 := led_mul h (q := n / d) (Int.ediv_nonneg h0 (by omega)) (by rw [← e]; exact h1)
  rw [← e] at h2
  exact h2
theorem led_dec (h : Dv w d) (h0 : 0 ≤ n) (h1 : n < 2 ^ w.toNat) : decide (ledV w d n ≤ (2 ^ w.toNat - 1) / d) = decide (n % d = 0) := decide_eq_decide.mpr (led_le h h0 h1)
end
/-! ### the program's own -/
theorem c_test_in (k : Nat) (w d : Int) (st : Store) (h : Dv w d) : call (k + 3) .test_in [.int w, .int d] st = .ok (.tup [.int (invV w (toV d)), .int (tkV d), .int ((2 ^ w.toNat - 1) / d)]) st := by
  obtain ⟨h1, h2, h3, h4⟩ := id h
  have a1 := h.lt
  have a2 := h.odd
  have a3 := h.o1
  have a4 := h.ole
  refine w_call (ds := [_, _]) (ρ := [some _, some _, none, none]) (body := b_test_in) rfl rfl rfl ?_ (by rfl); unfold b_test_in
  get_elem_tactic_trivial
local macro_rules | `(tactic| decreasing_trivial_pre_omega) => `(tactic| ((with_reducible refine c_test_in _ _ _ _ ?_) <;> first | omega | rfl | assumption | (try get_elem_tactic_trivial)))
theorem c_product_in (k : Nat) (w d n : Int) (st : Store) (h : Dv w d) (hn : 0 ≤ n) (hn2 : n < 2 ^ w.toNat) : call (k + 4) .product_in [.int w, .int d, .int n] st = .ok (.int (ledV w d n)) st := by
  obtain ⟨h1, h2, h3, h4⟩ := id h
  have a1 := h.hp
  have a2 := h.inv.2
  have a3 := mul_mod_bd (n * invV w (toV d)) w
  refine w_call (ds := [_, _, _]) (ρ := [some _, some _, some _, none, none, none]) (body := b_product_in) rfl rfl rfl ?_ (by rfl); unfold b_product_in
  get_elem_tactic_trivial
  rfl
local macro_rules | `(tactic| decreasing_trivial_pre_omega) => `(tactic| ((with_reducible refine c_product_in _ _ _ _ _ ?_ ?_ ?_) <;> first | omega | rfl | assumption | (try get_elem_tactic_trivial)))
theorem c_back_in (k : Nat) (w d n : Int) (st : Store) (h : Dv w d) (hn : 0 ≤ n) (hn2 : n < 2 ^ w.toNat) : call (k + 4) .back_in [.int w, .int d, .int n] st = .ok (.int (backV w d n)) st := by
  obtain ⟨h1, h2, h3, h4⟩ := id h
  have a1 := h.hp
  have a2 := h.lt
  have a3 := h.ole
  have a5 := h.o1
  have a4 := turn_bd (k := w - tkV d) h1 hn hn2
  refine w_call (ds := [_, _, _]) (ρ := [some _, some _, some _, none, none]) (body := b_back_in) rfl rfl rfl ?_ (by rfl); unfold b_back_in
  get_elem_tactic_trivial
  rfl
local macro_rules | `(tactic| decreasing_trivial_pre_omega) => `(tactic| ((with_reducible refine c_back_in _ _ _ _ _ ?_ ?_ ?_) <;> first | omega | rfl | assumption | (try get_elem_tactic_trivial)))
theorem c_sure_both (k : Nat) (w d n : Int) (st : Store) (h : Dv w d) (hn : 0 ≤ n) (hn2 : n < 2 ^ w.toNat) : call (k + 5) .sure_both [.int w, .int d, .int n] st = .ok (.tup [.int w, .int d, .int n]) st := by
  obtain ⟨h1, h2, h3, h4⟩ := id h
  refine w_call (ds := [_, _, _]) (ρ := [some _, some _, some _, none, none]) (body := b_sure_both) rfl rfl rfl ?_ (by rfl); unfold b_sure_both
  get_elem_tactic_trivial
local macro_rules | `(tactic| decreasing_trivial_pre_omega) => `(tactic| ((with_reducible refine c_sure_both _ _ _ _ _ ?_ ?_ ?_) <;> first | omega | rfl | assumption | (try get_elem_tactic_trivial)))
theorem c_multiple_test (k : Nat) (w d : Int) (st : Store) (h : Dv w d) : call (k + 5) .multiple_test [.int w, .int d] st = .ok (.tup [.int (invV w (toV d)), .int (tkV d), .int ((2 ^ w.toNat - 1) / d)]) st := by
  obtain ⟨h1, h2, h3, h4⟩ := id h
  refine w_call (ds := [_, _]) (ρ := [some _, some _, none]) (body := b_multiple_test) rfl rfl rfl ?_ (by rfl); unfold b_multiple_test
  get_elem_tactic_trivial
local macro_rules | `(tactic| decreasing_trivial_pre_omega) => `(tactic| ((with_reducible refine c_multiple_test _ _ _ _ ?_) <;> first | omega | rfl | assumption | (try get_elem_tactic_trivial)))
theorem c_led_to (k : Nat) (w d n : Int) (st : Store) (h : Dv w d) (hn : 0 ≤ n) (hn2 : n < 2 ^ w.toNat) : call (k + 6) .led_to [.int w, .int d, .int n] st = .ok (.int (ledV w d n)) st := by
  refine w_call (ds := [_, _, _]) (ρ := [some _, some _, some _, none, none, none]) (body := b_led_to) rfl rfl rfl ?_ (by rfl); unfold b_led_to
  get_elem_tactic_trivial
local macro_rules | `(tactic| decreasing_trivial_pre_omega) => `(tactic| ((with_reducible refine c_led_to _ _ _ _ _ ?_ ?_ ?_) <;> first | omega | rfl | assumption | (try get_elem_tactic_trivial)))
theorem c_led_back (k : Nat) (w d n : Int) (st : Store) (h : Dv w d) (hn : 0 ≤ n) (hn2 : n < 2 ^ w.toNat) : call (k + 6) .led_back [.int w, .int d, .int n] st = .ok (.int (backV w d n)) st := by
  refine w_call (ds := [_, _, _]) (ρ := [some _, some _, some _, none, none, none]) (body := b_led_back) rfl rfl rfl ?_ (by rfl); unfold b_led_back
  get_elem_tactic_trivial
local macro_rules | `(tactic| decreasing_trivial_pre_omega) => `(tactic| ((with_reducible refine c_led_back _ _ _ _ _ ?_ ?_ ?_) <;> first | omega | rfl | assumption | (try get_elem_tactic_trivial)))
theorem c_is_multiple (k : Nat) (w d n : Int) (st : Store) (h : Dv w d) (hn : 0 ≤ n) (hn2 : n < 2 ^ w.toNat) : call (k + 6) .is_multiple [.int w, .int d, .int n] st = .ok (.bl (decide (n % d = 0))) st := by
  refine w_call (ds := [_, _, _]) (ρ := [some _, some _, some _, none, none, none]) (body := b_is_multiple) rfl rfl rfl ?_ (by rfl); unfold b_is_multiple
  get_elem_tactic_trivial
  exact congrArg D.bl (led_dec h hn hn2)
local macro_rules | `(tactic| decreasing_trivial_pre_omega) => `(tactic| ((with_reducible refine c_is_multiple _ _ _ _ _ ?_ ?_ ?_) <;> first | omega | rfl | assumption | (try get_elem_tactic_trivial)))
theorem rest_math {n d r : Int} (hd : 1 ≤ d) (h0 : 0 ≤ r) (h1 : r < d) : ((n - r) % d = 0) ↔ n % d = r := by
  constructor
  · intro h
    have e := Int.mul_ediv_add_emod (n - r) d
    rw [h, Int.add_zero] at e
    have e2 : n = r + d * ((n - r) / d) := by omega
    rw [e2, Int.add_mul_emod_self_left]
    exact Int.emod_eq_of_lt h0 h1
  · intro h
    rw [Int.sub_emod, h, Int.emod_eq_of_lt h0 h1, Int.sub_self, Int.zero_emod]
theorem c_leaves (k : Nat) (w d r n : Int) (st : Store) (h : Dv w d) (hr : 0 ≤ r) (hr2 : r < d) (hn : 0 ≤ n) (hn2 : n < 2 ^ w.toNat) : call (k + 5) .leaves [.int w, .int d, .int r, .int n] st = .ok (.bl (decide (n % d = r))) st := by
  obtain ⟨h1, h2, h3, h4⟩ := id h
  have a1 := h.lt
  refine w_call (ds := [_, _, _, _]) (ρ := [some _, some _, some _, some _, none, none, none, none]) (body := b_leaves) rfl rfl rfl ?_ (by rfl); unfold b_leaves
  get_elem_tactic_trivial
  · rename_i hlt
    refine congrArg D.bl ?_
    rw [Int.emod_eq_of_lt hn (by omega)]
    exact (decide_eq_false (by omega)).symm
  · rename_i hlt
    refine congrArg D.bl ?_
    rw [led_dec h (by omega) (by omega)]
    exact decide_eq_decide.mpr (rest_math h3 hr hr2)
local macro_rules | `(tactic| decreasing_trivial_pre_omega) => `(tactic| ((with_reducible refine c_leaves _ _ _ _ _ _ ?_ ?_ ?_ ?_ ?_) <;> first | omega | rfl | assumption | (try get_elem_tactic_trivial)))
theorem c_multiple_at (k : Nat) (w d q : Int) (st : Store) (h : Dv w d) (hq : 0 ≤ q) (hq2 : q ≤ (2 ^ w.toNat - 1) / d) : call (k + 5) .multiple_at [.int w, .int d, .int q] st = .ok (.int (q * d)) st := by
  obtain ⟨h1, h2, h3, h4⟩ := id h
  have a1 := h.lt
  have a2 := (bound_iff h).mp hq2
  have a3 : q ≤ q * d := by
    have := Int.mul_le_mul_of_nonneg_left h3 hq
    omega
  refine w_call (ds := [_, _, _]) (ρ := [some _, some _, some _, none, none]) (body := b_multiple_at) rfl rfl rfl ?_ (by rfl); unfold b_multiple_at
  get_elem_tactic_trivial
  exact congrArg D.int (back_mul h hq a2)
local macro_rules | `(tactic| decreasing_trivial_pre_omega) => `(tactic| ((with_reducible refine c_multiple_at _ _ _ _ _ ?_ ?_ ?_) <;> first | omega | rfl | assumption | (try get_elem_tactic_trivial)))
theorem c_l_led (k : Nat) (w d n : Int) (st : Store) (h : Dv w d) (hn : 0 ≤ n) (hn2 : n < 2 ^ w.toNat) : call (k + 3) .l_led [.int w, .int d, .int n] st = .ok (.int (ledV w d n)) st := by
  obtain ⟨h1, h2, h3, h4⟩ := id h
  have a1 := h.lt
  have a2 := h.odd
  have a3 := h.o1
  have a4 := h.ole
  have a5 := h.hp
  have a6 := h.inv.2
  have a7 := mul_mod_bd (n * invV w (toV d)) w
  have a8 := tk_nn (d := d)
  have a9 := h.pos
  refine w_call (ds := [_, _, _]) (ρ := [some _, some _, some _, none, none]) (body := b_l_led) rfl rfl rfl ?_ (by rfl); unfold b_l_led
  get_elem_tactic_trivial
  rfl
local macro_rules | `(tactic| decreasing_trivial_pre_omega) => `(tactic| ((with_reducible refine c_l_led _ _ _ _ _ ?_ ?_ ?_) <;> first | omega | rfl | assumption | (try get_elem_tactic_trivial)))
/-- a drawn DIVISOR -/
theorem divisor_ex {m : Nat} {t : List D} {w : Int} (w1 : 1 ≤ w) (w2 : w ≤ 64) (h : Tin (m + 7) t) : ∃ d t', Dv w d ∧ Tin m t' ∧ ∀ (k : Nat) (g : Store), call (k + 3) .l_divisor [.cell 0, .int w] (t :: g) = .ok (.int d) (t' :: g) := by
  have hp := pw_64 w2
  have hq := pw_two w1
  obtain ⟨x1, t1, a1, a2, q1, c1⟩ := take_ex (m := m + 6) h 20 (by decide) (by decide)
  obtain ⟨x2, t2, b1, b2, q2, c2⟩ := take_ex (m := m + 5) q1 (2 ^ w.toNat - 1) (by omega) (by omega)
  obtain ⟨x3, t3, d1, d2, q3, c3⟩ := take_ex (m := m + 4) q2 10 (by decide) (by decide)
  obtain ⟨x4, t4, e1, e2, q4, c4⟩ := take_ex (m := m + 3) q3 w (by omega) (by omega)
  obtain ⟨x5, t5, f1, f2, q5, c5⟩ := take_ex (m := m + 2) q4 3 (by decide) (by decide)
  obtain ⟨x6, t6, g1, g2, q6, c6⟩ := take_ex (m := m + 1) q5 1000 (by decide) (by decide)
  obtain ⟨y, t7, y1, q7, c7⟩ := of_ex (m := m) q6 [.int (1 + x1), .int (1 + x2), .int (2 ^ w.toNat - 1 - x3), .int (2 ^ x4.toNat + x5 - 1), .int (1 + x6)] (show 0 < 5 by decide) (show 5 ≤ 1000000 by decide) rfl
  obtain ⟨f, rfl⟩ : ∃ f : Int, y = .int f := by
    simp only [List.mem_cons, List.not_mem_nil, or_false] at y1
    rcases y1 with rfl | rfl | rfl | rfl | rfl <;> exact ⟨_, rfl⟩
  refine ⟨max 1 (min f (2 ^ w.toNat - 1)), t7, ⟨w1, w2, by omega, by omega⟩, q7, fun k g => ?_⟩
  refine c_rets (ds := [_, _]) (ρ := [some _, some _, none, none]) (body := b_l_divisor) rfl rfl rfl ?_ (by rfl) (by rfl); unfold b_l_divisor
  get_elem_tactic_trivial

/-! ### statements under a predicate; laps -/
section
variable {C : F → List D → Store → R D} {ρ ρ' : Fr} {st s1 s2 s3 : Store} {a b c : E} {x y z d : D} {P : X → Prop} {r : List S}
theorem p_asg {i : Nat} (h1 : ev C a ρ st = .ok x s1) (h : setS ρ i x = ρ') (h2 : P (exs C r ρ' s1)) : P (exs C (.asg i a :: r) ρ st) := by rw [w_asg h1 h rfl]; exact h2
theorem p_par {is : List Nat} {es : List E} {ds : List D} (h1 : evs C es ρ st = .ok ds s1) (h2 : setMany ρ is ds = some ρ') (h3 : P (exs C r ρ' s1)) : P (exs C (.par is es :: r) ρ st) := by rw [x_par h1 h2 rfl]; exact h3
theorem p_unp {is : List Nat} {ds : List D} (h1 : ev C a ρ st = .ok (.tup ds) s1) (h2 : setMany ρ is ds = some ρ') (h3 : P (exs C r ρ' s1)) : P (exs C (.unp is a :: r) ρ st) := by rw [x_unp h1 h2 rfl]; exact h3
theorem p_pass {t : Bool} {p : List S} (h1 : tst C c ρ st = .ok t s1) (ht : t = false) (h : P (exs C r ρ s1)) : P (exs C (.ife c p [] :: r) ρ st) := by rw [w_pass h1 ht rfl]; exact h
theorem p_if {t : Bool} {p q : List S} (h1 : tst C c ρ st = .ok t s1) (h2 : t = true → P (exs C (p ++ r) ρ s1)) (h3 : t = false → P (exs C (q ++ r) ρ s1)) : P (exs C (.ife c p q :: r) ρ st) := by
  cases t
  · rw [w_if h1 (o := exs C (q ++ r) ρ s1) (fun h => by cases h) fun _ => rfl]; exact h3 rfl
  · rw [w_if h1 (o := exs C (p ++ r) ρ s1) (fun _ => rfl) (fun h => by cases h)]; exact h2 rfl
theorem p_ret (h1 : ev C a ρ st = .ok x s1) (h : P (.ret x s1)) : P (exs C (.ret a :: r) ρ st) := by rw [x_ret h1]; exact h
/-- what a lap leaves -/
def Lap (Φ : Fr → Prop) (m : Nat) (o : X) : Prop := ∃ (ρ' : Fr) (t' : List D), (o = .nx ρ' [t'] ∨ o = .cnt ρ' [t']) ∧ Φ ρ' ∧ Tin m t'
theorem lap_end {Φ : Fr → Prop} {m : Nat} {t : List D} (h : Φ ρ) (ht : Tin m t) : Lap Φ m (exs C [] ρ [t]) := ⟨ρ, t, .inl w_nil, h, ht⟩
theorem lap_cont {Φ : Fr → Prop} {m : Nat} {t : List D} (h : Φ ρ) (ht : Tin m t) : Lap Φ m (exs C (.cnt :: r) ρ [t]) := ⟨ρ, t, .inr w_cnt, h, ht⟩
theorem for_inv {v c : Nat} {body : List S} {Φ : Fr → Prop} {all : List Int} (hb : ∀ (m : Nat) (t : List D) (i : Int) (ρ : Fr), i ∈ all → Φ ρ → Tin (m + c) t → Lap Φ m (exs C body (setS ρ v (.int i)) [t])) :
    ∀ (ds : List Int) (m : Nat) (t : List D) (ρ : Fr), (∀ i ∈ ds, i ∈ all) → Φ ρ → Tin (m + c * ds.length) t → ∃ (ρ' : Fr) (t' : List D), forL (fun d ρ1 s2 => X.opt (bindT ρ1 (.one v) d) fun ρ2 => exs C body ρ2 s2) (ds.map .int) ρ [t] = .nx ρ' [t'] ∧ Φ ρ' ∧ Tin m t'
  | [], m, t, ρ, _, hx, ht => ⟨ρ, t, rfl, hx, ht⟩
  | d :: ds, m, t, ρ, hi, hx, ht => by
    obtain ⟨ρ1, t1, h1, h2, h3⟩ := hb (m + c * ds.length) t d ρ (hi d List.mem_cons_self) hx (by rw [List.length_cons, Nat.mul_succ] at ht; rw [Nat.add_assoc]; exact ht)
    obtain ⟨ρ2, t2, h4, h5, h6⟩ := for_inv hb ds m t1 ρ1 (fun i hh => hi i (List.mem_cons_of_mem _ hh)) h2 h3
    refine ⟨ρ2, t2, ?_, h5, h6⟩
    rw [List.map_cons, forL]
    have e : X.opt (bindT ρ (.one v) (.int d)) (fun ρ2 => exs C body ρ2 [t]) = exs C body (setS ρ v (.int d)) [t] := rfl
    rw [e]
    rcases h1 with h1 | h1 <;> (rw [h1]; exact h4)
theorem p_for {v c : Nat} {kd : Sk} {src : List E} {body : List S} {ds : List D} {is : List Int} {Φ : Fr → Prop} {m : Nat} {t t1 : List D} (h1 : evs C src ρ [t] = .ok ds [t1]) (h2 : srcS [t1] kd ds = some (.l (is.map .int)))
    (hx : Φ ρ) (ht : Tin (m + c * is.length) t1) (hb : ∀ (m : Nat) (t : List D) (i : Int) (ρ : Fr), i ∈ is → Φ ρ → Tin (m + c) t → Lap Φ m (exs C body (setS ρ v (.int i)) [t]))
    (h : ∀ (ρ' : Fr) (t' : List D), Φ ρ' → Tin m t' → P (exs C r ρ' [t'])) : P (exs C (.fr (.one v) kd src body :: r) ρ [t]) := by
  obtain ⟨ρ1, t2, h3, h4, h5⟩ := for_inv hb is m t1 ρ (fun _ h => h) hx ht
  rw [w_fr h1 h2 h3 rfl]
  exact h ρ1 t2 h4 h5
/-- a frame of a law: the script, the draws, any others -/
def Fz (ns : List Int) (z : Nat) (ρ : Fr) : Prop := ∃ xs : Fr, xs.length = z ∧ ρ = some (.ro ns) :: some (.cell 0) :: xs
theorem fz {ns : List Int} {xs : Fr} : Fz ns xs.length (some (.ro ns) :: some (.cell 0) :: xs) := ⟨xs, rfl, rfl⟩
end
theorem ne_bl (st : Store) (a b : Bool) : cmpS st .NotEq (.bl a) (.bl b) = some (a != b) := by cases a <;> cases b <;> rfl
theorem eq_bl (st : Store) (a b : Bool) : cmpS st .Eq (.bl a) (.bl b) = some (a == b) := by cases a <;> cases b <;> rfl
theorem eqds_ints : ∀ xs ys : List Int, eqds (xs.map .int) (ys.map .int) = decide (xs = ys)
  | [], [] => by simp [eqds]
  | [], y :: ys => by simp [eqds]
  | x :: xs, [] => by simp [eqds]
  | x :: xs, y :: ys => by
    rw [List.map_cons, List.map_cons, eqds, eqds_ints xs ys, eqd]
    by_cases h : x = y
    · subst h
      by_cases h2 : xs = ys
      · subst h2
        rw [decide_eq_true rfl, decide_eq_true rfl, decide_eq_true rfl]
        rfl
      · rw [decide_eq_true rfl, decide_eq_false h2, decide_eq_false (fun e => h2 (List.cons.inj e).2)]
        rfl
    · rw [decide_eq_false h, decide_eq_false (fun e => h (List.cons.inj e).1)]
      rfl
theorem ne_ints (st : Store) (xs ys : List Int) : cmpS st .NotEq (.lst (xs.map .int)) (.lst (ys.map .int)) = some (!decide (xs = ys)) := by
  rw [ne_S, eqS_ok (by rw [pl_lst, okd_lst, okds_ints]) (by rw [pl_lst, okd_lst, okds_ints])]
  show some (!(eqds _ _)) = _
  rw [eqds_ints]
theorem eq_ints (st : Store) (xs ys : List Int) : cmpS st .Eq (.lst (xs.map .int)) (.lst (ys.map .int)) = some (decide (xs = ys)) := by
  rw [eq_S, eqS_ok (by rw [pl_lst, okd_lst, okds_ints]) (by rw [pl_lst, okd_lst, okds_ints])]
  show some (eqds _ _) = _
  rw [eqds_ints]
theorem intsOf_map : ∀ xs : List Int, intsOf (xs.map .int) = some xs
  | [] => rfl
  | x :: xs => by rw [List.map_cons, intsOf, intsOf_map xs]; rfl
theorem bi_sorted (st : Store) (xs : List Int) : biS st .sorted [.lst (xs.map .int)] = some (.lst ((srt xs).map .int)) := by
  show ((lstOf st (.lst (xs.map .int))).bind fun xs => (intsOf xs).map fun ns => D.lst ((srt ns).map .int)) = _
  show ((some (xs.map D.int)).bind fun xs => (intsOf xs).map fun ns => D.lst ((srt ns).map .int)) = _
  rw [Option.bind_some, intsOf_map]
  rfl
theorem len_ints (st : Store) (xs : List Int) : biS st .len [.lst (xs.map .int)] = some (.int xs.length) := by rw [bi_len_lst, List.length_map]
theorem v_listR {C : F → List D → Store → R D} {ρ : Fr} {st s1 : Store} {src : List E} {kd : Sk} {ds : List D} {is : List Int} (h1 : evs C src ρ st = .ok ds s1) (h2 : srcS s1 kd ds = some (.l (is.map .int))) (hl : is.length ≤ 1000000) : ev C (.listV kd src) ρ st = .ok (.lst (is.map .int)) s1 := by
  rw [ev, h1, bind_ok, h2, opt_some, bind_ok]
  show (R.opt (if (is.map D.int).length ≤ 1000000 then some (is.map D.int) else none) s1).bind _ = _
  rw [if_pos (by rw [List.length_map]; exact hl)]
  rfl
theorem v_lcII {C : F → List D → Store → R D} {ρ : Fr} {st s1 : Store} {elt : E} {v : Nat} {kd : Sk} {src : List E} {own : List Nat} {ds : List D} {is : List Int} {g : Int → Int} (h1 : evs C src ρ st = .ok ds s1) (h2 : srcS s1 kd ds = some (.l (is.map .int))) (hl : is.length ≤ 1000000)
    (h3 : ∀ i ∈ is, ∀ acc : List D, ev C elt (setS (wipeS ρ own) v (.int i)) (s1 ++ [acc]) = .ok (.int (g i)) (s1 ++ [acc])) : ev C (.lc elt (.one v) kd src [] own) ρ st = .ok (.lst ((is.map g).map .int)) s1 := by
  rw [v_lcI h1 h2 hl h3 (fun _ _ => rfl), List.map_map]
  rfl
theorem at_rng {n : Nat} (f : Int → Int) {i : Int} (h : 0 ≤ i) (h2 : i < n) : atD (((rng 0 n).map f).map D.int) i = some (.int (f i)) := by
  obtain ⟨j, rfl⟩ := Int.eq_ofNat_of_zero_le h
  have hj : j < n := by omega
  rw [atD_nat, List.map_map, List.getElem?_map]
  unfold rng
  rw [List.getElem?_map, List.getElem?_range hj]
  show some (D.int (f (0 + (j : Int)))) = _
  rw [Int.zero_add]
/-! ### sorted -/
theorem ins_perm (x : Int) : ∀ xs : List Int, (ins x xs).Perm (x :: xs)
  | [] => List.Perm.refl _
  | y :: ys => by
    rw [ins]
    split
    · exact List.Perm.refl _
    · exact ((ins_perm x ys).cons y).trans (List.Perm.swap x y ys)
theorem srt_perm : ∀ xs : List Int, (srt xs).Perm xs
  | [] => List.Perm.refl _
  | x :: xs => (ins_perm x (srt xs)).trans ((srt_perm xs).cons x)
theorem ins_sorted (x : Int) : ∀ xs : List Int, xs.Pairwise (· ≤ ·) → (ins x xs).Pairwise (· ≤ ·)
  | [], _ => List.pairwise_singleton _ _
  | y :: ys, h => by
    rw [ins]
    split
    · rename_i hxy
      refine List.pairwise_cons.mpr ⟨fun z hz => ?_, h⟩
      rcases List.mem_cons.mp hz with rfl | hz
      · exact hxy
      · exact Int.le_trans hxy ((List.pairwise_cons.mp h).1 z hz)
    · rename_i hxy
      refine List.pairwise_cons.mpr ⟨fun z hz => ?_, ins_sorted x ys (List.pairwise_cons.mp h).2⟩
      rcases List.mem_cons.mp ((ins_perm x ys).mem_iff.mp hz) with rfl | hz
      · omega
      · exact (List.pairwise_cons.mp h).1 z hz
theorem srt_sorted : ∀ xs : List Int, (srt xs).Pairwise (· ≤ ·)
  | [] => List.Pairwise.nil
  | x :: xs => ins_sorted x _ (srt_sorted xs)
theorem rng_sorted (n : Nat) : ∀ a : Int, (rng a n).Pairwise (· ≤ ·) := by
  induction n with
  | zero => intro a; exact List.Pairwise.nil
  | succ n ih =>
    intro a
    rw [rng_succ]
    refine List.pairwise_cons.mpr ⟨fun z hz => ?_, ih (a + 1)⟩
    have := (mem_rng.mp hz).1
    omega
theorem rng_nodup (n : Nat) : ∀ a : Int, (rng a n).Nodup := by
  induction n with
  | zero => intro a; exact List.Pairwise.nil
  | succ n ih =>
    intro a
    rw [rng_succ]
    refine List.nodup_cons.mpr ⟨fun hz => ?_, ih (a + 1)⟩
    have := (mem_rng.mp hz).1
    omega
/-- one to one onto 0 .. n - 1 -/
theorem srt_onto {n : Nat} {f g : Int → Int} (hf : ∀ i : Int, 0 ≤ i → i < n → 0 ≤ f i ∧ f i < n) (hg : ∀ i : Int, 0 ≤ i → i < n → 0 ≤ g i ∧ g i < n) (h1 : ∀ i : Int, 0 ≤ i → i < n → f (g i) = i) (h2 : ∀ i : Int, 0 ≤ i → i < n → g (f i) = i) : srt ((rng 0 n).map f) = rng 0 n := by
  have hp : ((rng 0 n).map f).Perm (rng 0 n) := by
    rw [List.perm_iff_count]
    intro a
    by_cases ha : 0 ≤ a ∧ a < n
    · have e : List.count a ((rng 0 n).map f) = List.count (g a) (rng 0 n) := by
        rw [List.count_eq_countP, List.countP_map, List.count_eq_countP]
        apply List.countP_congr
        intro i hi
        have hi := mem_rng.mp hi
        show (f i == a) = true ↔ (i == g a) = true
        rw [beq_iff_eq, beq_iff_eq]
        constructor
        · rintro rfl
          exact (h2 i hi.1 (by omega)).symm
        · rintro rfl
          exact h1 a ha.1 ha.2
      have hga := hg a ha.1 ha.2
      rw [e, (rng_nodup n 0).count, (rng_nodup n 0).count, if_pos (mem_rng.mpr ⟨hga.1, by omega⟩), if_pos (mem_rng.mpr ⟨ha.1, by omega⟩)]
    · rw [List.count_eq_zero_of_not_mem, List.count_eq_zero_of_not_mem]
      · intro h
        have := mem_rng.mp h
        omega
      · intro h
        obtain ⟨i, hi, rfl⟩ := List.mem_map.mp h
        have hi := mem_rng.mp hi
        have := hf i hi.1 (by omega)
        omega
  exact List.Perm.eq_of_pairwise (le := (· ≤ ·)) (fun a b _ _ h1 h2 => Int.le_antisymm h1 h2) (srt_sorted _) (rng_sorted n 0) ((srt_perm _).trans hp)
theorem idx_rng (st : Store) (n : Nat) (f : Int → Int) (i : Int) (h : 0 ≤ i) (h2 : i < n) : idxS st (.lst (((rng 0 n).map f).map .int)) (.int i) = some (.int (f i)) := by rw [ix_lst]; exact at_rng f h h2
theorem v_lcNb {C : F → List D → Store → R D} {ρ : Fr} {st s1 : Store} {elt c : E} {v : Nat} {kd : Sk} {src : List E} {own : List Nat} {ds : List D} {is : List Int} (h1 : evs C src ρ st = .ok ds s1) (h2 : srcS s1 kd ds = some (.l (is.map .int))) (hl : is.length ≤ 1000000)
    (h3 : ∀ i ∈ is, ∀ acc : List D, ∃ b, ev C c (setS (wipeS ρ own) v (.int i)) (s1 ++ [acc]) = .ok (.bl b) (s1 ++ [acc]) ∧ b = false) : ev C (.lc elt (.one v) kd src [c] own) ρ st = .ok (.lst []) s1 :=
  v_lcN h1 h2 hl fun i hi acc => by
    obtain ⟨b, h4, h5⟩ := h3 i hi acc
    rw [h4, h5]
theorem ne_nil (st : Store) : cmpS st .NotEq (.lst []) (.lst []) = some false := rfl
local macro_rules | `(tactic| get_elem_tactic_trivial) => `(tactic| first
  | with_reducible exact ne_nil _
  | with_reducible exact ne_bl _ _ _
  | with_reducible exact eq_bl _ _ _
  | with_reducible exact ne_ints _ _ _
  | with_reducible exact eq_ints _ _ _
  | with_reducible exact bi_sorted _ _
  | with_reducible exact len_ints _ _
  | ((with_reducible refine idx_rng _ _ _ _ ?_ ?_) <;> omega))

/-! ### k08 -/
theorem ex_bl {C : F → List D → Store → R D} {ρ : Fr} {st s1 : Store} {a : E} {b : Bool} (h : ev C a ρ st = .ok (.bl b) s1) (h2 : b = false) : ∃ b, ev C a ρ st = .ok (.bl b) s1 ∧ b = false := ⟨b, h, h2⟩
theorem law_tru (k : Nat) (ns : List Int) (hn : ns.length ≤ 63) : call (k + 20) .law_k08 [.ro ns] [] = .ok (.bl true) [] := by
  refine law_ret (k := k + 19) (z := 14) rfl ?_
  unfold b_law_k08
  refine law_box (K := k + 19) (k := k + 18) rfl hn (0 + 60 * 4 + 9) (by decide) fun t ht => ?_
  obtain ⟨a, t1, a1, a2, q1, c1⟩ := take_ex (m := 0 + 60 * 4 + 8) ht 9 (by decide) (by decide)
  obtain ⟨w, hw⟩ : ∃ w, w = 1 + a := ⟨_, rfl⟩
  obtain ⟨d, t2, hd, q2, c2⟩ := divisor_ex (m := 0 + 60 * 4 + 1) (w := w) (by omega) (by omega) q1
  obtain ⟨x, t3, x1, x2, q3, c3⟩ := take_ex (m := 0 + 60 * 4) q2 d (by have := hd.d1; omega) (by have := hd.lt; omega)
  have hP : (2 : Int) ^ w.toNat ≤ 512 := pw_le (a := w) (b := 9) (by omega)
  obtain ⟨w1, w2, d1, d2⟩ := id hd
  have b1 := hd.lt
  have b2 := hd.odd
  have b3 := hd.o1
  have b4 := hd.ole
  have b5 := hd.pos
  refine p_asg (by get_elem_tactic_trivial) (by get_elem_tactic_trivial) ?_
  rw [← hw]
  refine p_unp (by get_elem_tactic_trivial) (by get_elem_tactic_trivial) ?_
  refine p_unp (by get_elem_tactic_trivial) (by get_elem_tactic_trivial) ?_
  refine p_asg (by get_elem_tactic_trivial) (by get_elem_tactic_trivial) ?_
  refine p_pass (by get_elem_tactic_trivial) rfl ?_
  have hr : ∀ st, srcS st .range [.int (2 ^ w.toNat)] = some (.l ((rng 0 (2 ^ w.toNat : Int).toNat).map .int)) := fun st => src_range st _ (by omega) (by omega)
  have hl : (rng 0 (2 ^ w.toNat : Int).toNat).length ≤ 1000000 := by rw [rng_len]; omega
  refine p_asg (v_lcII (g := ledV w d) (v_cons (v_var rfl) v_nil) (hr _) hl fun i hi acc => ?_) (by get_elem_tactic_trivial) ?_
  · have hi := mem_rng.mp hi
    have i1 := hi.1
    have i2 : i < 2 ^ w.toNat := by omega
    get_elem_tactic_trivial
  have hs : srt ((rng 0 (2 ^ w.toNat : Int).toNat).map (ledV w d)) = rng 0 (2 ^ w.toNat : Int).toNat := srt_onto (g := backV w d) (fun i h1 h2 => by have := led_bd hd i; omega) (fun i h1 h2 => by have := back_bd w d i; omega)
    (fun i h1 h2 => led_back hd h1 (by omega)) (fun i h1 h2 => back_led hd h1 (by omega))
  refine p_pass (tst_ok (w_or (v_cmp (v_bi (v_cons (v_var rfl) v_nil) (bi_sorted _ _)) (v_listR (v_cons (v_var rfl) v_nil) (hr _) hl) (ne_ints _ _ _)) fun _ => v_cmp (v_lcNb (v_cons (v_var rfl) v_nil) (hr _) hl fun i hi acc => ?_) (v_lst v_nil rfl) (ne_nil _)) rfl) ?_ ?_
  · have hi := mem_rng.mp hi
    have i1 := hi.1
    have i2 : i < 2 ^ w.toNat := by omega
    apply ex_bl
    · get_elem_tactic_trivial
    · rw [led_dec hd i1 i2]
      by_cases hm : i % d = 0
      · rw [led_quo hd i1 i2 hm]
        simp
      · simp [hm]
  · rw [hs]
    simp
  refine p_pass (tst_ok (v_cmp (v_lcNb (v_cons (v_var rfl) v_nil) (hr _) hl fun i hi acc => ?_) (v_lst v_nil rfl) (ne_nil _)) rfl) rfl ?_
  · have hi := mem_rng.mp hi
    have i1 := hi.1
    have i2 : i < 2 ^ w.toNat := by omega
    apply ex_bl
    · get_elem_tactic_trivial
    · simp
  refine p_asg (by get_elem_tactic_trivial) (by get_elem_tactic_trivial) ?_
  refine p_pass (tst_ok (v_cmp (v_lcNb (v_cons (v_var rfl) v_nil) (hr _) hl fun i hi acc => ?_) (v_lst v_nil rfl) (ne_nil _)) rfl) rfl ?_
  · have hi := mem_rng.mp hi
    have i1 := hi.1
    have i2 : i < 2 ^ w.toNat := by omega
    apply ex_bl
    · get_elem_tactic_trivial
    · simp
  refine p_for (Φ := Fz ns 14) (c := 60) (m := 0) (is := rng 0 4) (by get_elem_tactic_trivial) (src_range _ 4 (by decide) (by decide)) ⟨_, rfl, rfl⟩ q3 ?_ fun ρ t' hρ _ => ?_
  · clear c1 c2 c3 q1 q2 q3 hs hr hl b1 b2 b3 b4 b5 d1 d2 x1 x2 hd hP a1 a2 ht w1 w2 hw t t1 t2 t3
    rintro m t i ρ hi ⟨xs, hx, rfl⟩ ht
    obtain ⟨x2, x3, x4, x5, x6, x7, x8, x9, x10, x11, x12, x13, x14, x15, rfl⟩ : ∃ x2 x3 x4 x5 x6 x7 x8 x9 x10 x11 x12 x13 x14 x15, xs = [x2, x3, x4, x5, x6, x7, x8, x9, x10, x11, x12, x13, x14, x15] := by
      match xs, hx with
      | [x2, x3, x4, x5, x6, x7, x8, x9, x10, x11, x12, x13, x14, x15], _ => exact ⟨x2, x3, x4, x5, x6, x7, x8, x9, x10, x11, x12, x13, x14, x15, rfl⟩
    obtain ⟨w, t1, w1, w2, q1, c1⟩ := wide_ex (m := m + 57) ht
    obtain ⟨d, t2, hd, q2, c2⟩ := divisor_ex (m := m + 50) w1 w2 q1
    have d1 := hd.d1
    have d2 := hd.d2
    have b1 := hd.lt
    have b2 := hd.odd
    have b3 := hd.o1
    have b4 := hd.ole
    have b5 := hd.pos
    have b6 := hd.hp
    have b7 := Int.ediv_nonneg (show 0 ≤ (2 : Int) ^ w.toNat - 1 by omega) (show 0 ≤ d by omega)
    have b8 : (2 ^ w.toNat - 1) / d ≤ 2 ^ w.toNat - 1 := Int.ediv_le_self _ (by omega)
    obtain ⟨q, t3, e1, e2, q3, c3⟩ := take_ex (m := m + 49) q2 ((2 ^ w.toNat - 1) / d + 1) (by omega) (by omega)
    have e3 := (bound_iff hd (q := q)).mp (by omega)
    have e4 : 0 ≤ q * d := Int.mul_nonneg e1 (by omega)
    refine p_asg (by get_elem_tactic_trivial) (by get_elem_tactic_trivial) ?_
    refine p_unp (by get_elem_tactic_trivial) (by get_elem_tactic_trivial) ?_
    refine p_unp (by get_elem_tactic_trivial) (by get_elem_tactic_trivial) ?_
    refine p_asg (by get_elem_tactic_trivial) (by get_elem_tactic_trivial) ?_
    refine p_asg (by get_elem_tactic_trivial) (by get_elem_tactic_trivial) ?_
    obtain ⟨is, t4, l1, l2, q4, c4⟩ := v_lcT (k := k + 18) (ρ := [some (.ro ns), some (.cell 0), some (.int w), some (.int d), some (.int (2 ^ w.toNat)), some (.int (tkV d)), some (.int (toV d)), some (.int ((2 ^ w.toNat - 1) / d)), x8, x9, some (.int i), some (.int q), x12, x13, x14, x15]) (e := .var 4) (v := 15) (own := [15]) (N := 2 ^ w.toNat) (c := 4) b5 (by omega) (by decide) (by decide) 1
      (fun i st => v_cons (v_var rfl) (v_cons (v_var rfl) v_nil)) (m := m + 45) q3
    refine p_for (Φ := fun ρ => ∃ y9 y12 y13 y14 y15, ρ = [some (.ro ns), some (.cell 0), some (.int w), some (.int d), some (.int (2 ^ w.toNat)), some (.int (tkV d)), some (.int (toV d)), some (.int ((2 ^ w.toNat - 1) / d)), x8, y9, some (.int i), some (.int q), y12, y13, y14, y15])
      (c := 2) (m := m) (is := is ++ [q * d, min (2 ^ w.toNat - 1) (q * d + 1), 2 ^ w.toNat - 1, 0])
      (v_cons (v_bin (c4 []) (v_lst (ds := [.int (q * d), .int (min (2 ^ w.toNat - 1) (q * d + 1)), .int (2 ^ w.toNat - 1), .int 0]) (by get_elem_tactic_trivial) rfl) (add_lst _ _ (by rw [List.length_map, l1]; exact (show 4 + 4 ≤ 1000000 by decide)))) v_nil) (by rw [List.map_append]; rfl)
      ⟨_, _, _, _, _, rfl⟩ (by rw [List.length_append, l1]; exact Tin_le q4 (by show m + 2 * (4 + 4) ≤ _; omega)) ?_ ?_
    · rintro m t n ρ hn ⟨y9, y12, y13, y14, y15, rfl⟩ ht
      have hn2 : 0 ≤ n ∧ n < 2 ^ w.toNat := by
        rcases List.mem_append.mp hn with h | h
        · exact l2 n h
        · simp only [List.mem_cons, List.not_mem_nil, or_false] at h
          rcases h with rfl | rfl | rfl | rfl <;> omega
      obtain ⟨n1, n2⟩ := hn2
      have f1 := led_bd hd n
      have f2 := back_led hd n1 n2
      have f3 := led_dec hd n1 n2
      have f4 := Int.emod_nonneg n (show d ≠ 0 by omega)
      have f5 := Int.emod_lt_of_pos n (show 0 < d by omega)
      obtain ⟨r, t1, r1, r2, q1, c5⟩ := take_ex (m := m + 1) ht d (by omega) (by omega)
      obtain ⟨y, t2, y1, q2, c6⟩ := of_ex (m := m) q1 [.int (n % d), .int r] (show 0 < 2 by decide) (show 2 ≤ 1000000 by decide) rfl
      obtain ⟨x, rfl, x1, x2⟩ : ∃ x : Int, y = .int x ∧ 0 ≤ x ∧ x < d := by
        simp only [List.mem_cons, List.not_mem_nil, or_false] at y1
        rcases y1 with rfl | rfl
        · exact ⟨_, rfl, f4, f5⟩
        · exact ⟨_, rfl, r1, r2⟩
      refine p_asg (by get_elem_tactic_trivial) (by get_elem_tactic_trivial) ?_
      refine p_asg (by get_elem_tactic_trivial) (by get_elem_tactic_trivial) ?_
      rw [f2]
      refine p_pass (by get_elem_tactic_trivial) ?_ ?_
      · rw [f3]
        simp
      refine p_asg (by get_elem_tactic_trivial) (by get_elem_tactic_trivial) ?_
      refine p_pass (by get_elem_tactic_trivial) rfl ?_
      exact lap_end ⟨_, _, _, _, _, rfl⟩ q2
    · rintro ρ t' ⟨y9, y12, y13, y14, y15, rfl⟩ q5
      have g1 := led_mul hd e1 e3
      have g2 := back_bd w d (2 ^ w.toNat - 1)
      have g3 := led_back hd (n := 2 ^ w.toNat - 1) (by omega) (by omega)
      apply p_pass
      · get_elem_tactic_trivial
        rw [g1]
      · rfl
      apply p_pass
      · get_elem_tactic_trivial
      · rfl
      exact lap_end ⟨_, rfl, rfl⟩ q5
  · obtain ⟨xs, _, rfl⟩ := hρ
    exact p_ret v_cst ⟨t', rfl⟩
theorem law_true (ns : List Int) (hn : ns.length ≤ 63) : call 20 .law_k08 [.ro ns] [] = .ok (.bl true) [] := law_tru 0 ns hn

end Py.Q
namespace Py
open PySem PySem.Spec PyProof.Rows L2
theorem setS_length : ∀ (ρ : Fr) (i : Nat) (d : D), (setS ρ i d).length = ρ.length
  | [], _, _ => rfl
  | _ :: _, 0, _ => rfl
  | x :: r, n + 1, d => by
    show (x :: setS r n d).length = _
    rw [List.length_cons, List.length_cons, setS_length r n d]
theorem delS_length : ∀ (ρ : Fr) (i : Nat), (delS ρ i).length = ρ.length
  | [], _ => rfl
  | _ :: _, 0 => rfl
  | x :: r, n + 1 => by
    show (x :: delS r n).length = _
    rw [List.length_cons, List.length_cons, delS_length r n]
theorem getS_set_self : ∀ {ρ : Fr} {i : Nat} {d x : D}, getS (setS ρ i d) i = some x → i < ρ.length ∧ x = d
  | [], _, _, _, h => by cases h
  | _ :: _, 0, _, _, h => by cases (show some _ = some _ from h); exact ⟨Nat.succ_pos _, rfl⟩
  | _ :: r, n + 1, d, x, h => by
    have ⟨h1, h2⟩ := getS_set_self (ρ := r) (i := n) (d := d) (x := x) h
    exact ⟨Nat.succ_lt_succ h1, h2⟩
theorem getS_set_ne : ∀ {ρ : Fr} {i j : Nat} {d : D}, j ≠ i → getS (setS ρ i d) j = getS ρ j
  | [], _, _, _, _ => rfl
  | _ :: _, 0, 0, _, h => absurd rfl h
  | _ :: _, 0, _ + 1, _, _ => rfl
  | _ :: _, _ + 1, 0, _, _ => rfl
  | _ :: r, n + 1, m + 1, d, h => getS_set_ne (ρ := r) (i := n) (j := m) (d := d) fun q => h (by rw [q])
theorem getS_del_self : ∀ {ρ : Fr} {i : Nat}, getS (delS ρ i) i = none
  | [], _ => rfl
  | _ :: _, 0 => rfl
  | _ :: r, n + 1 => getS_del_self (ρ := r) (i := n)
theorem getS_del_ne : ∀ {ρ : Fr} {i j : Nat}, j ≠ i → getS (delS ρ i) j = getS ρ j
  | [], _, _, _ => rfl
  | _ :: _, 0, 0, h => absurd rfl h
  | _ :: _, 0, _ + 1, _ => rfl
  | _ :: _, _ + 1, 0, _ => rfl
  | _ :: r, n + 1, m + 1, h => getS_del_ne (ρ := r) (i := n) (j := m) fun q => h (by rw [q])
theorem nodup_at {l : List Addr} (h : l.Nodup) {i j : Nat} {a : Addr} (h1 : l[i]? = some a) (h2 : l[j]? = some a) : i = j := by
  obtain ⟨l1, e1⟩ := List.getElem?_eq_some_iff.mp h1
  obtain ⟨l2, e2⟩ := List.getElem?_eq_some_iff.mp h2
  exact (List.getElem_inj h).mp (e1.trans e2.symm)
/-! ### the world of a program: where its defs and classes stand -/
structure Wd where
  P : Program
  w : World
  K : PySem.W.Frag
  mg : PySem.Str → Option Value
  fa : F → Addr
  fd : F → FuncData
  xa : Xc → Addr
/-! ### data and the abstract heap -/
def LstAt (H : Hp) (κ : List Addr) (a : Addr) (vs : List V) : Prop := H a = some (.lst vs) ∧ a ∉ κ
def TupAt (K : PySem.W.Frag) (H : Hp) (κ : List Addr) (a : Addr) (vs : List V) : Prop :=
  (H a = some (.tup vs) ∧ a ∉ κ) ∨ ∃ (o : Obj) (its : Array Value) (n : Nat), K.lookup a = some o ∧ o.cls = .type "tuple" ∧ o.data = .seq its n ∧ its.size ≤ sizeLine ∧ Vals vs its.toList
/-- a list that is only read -/
def RoAt (K : PySem.W.Frag) (H : Hp) (κ : List Addr) (a : Addr) (vs : List V) : Prop :=
  (Rd H a (.lst vs) ∧ a ∉ κ) ∨ ∃ (o : Obj) (its : Array Value) (n : Nat), K.lookup a = some o ∧ o.cls = .type "list" ∧ o.dict = none ∧ o.data = .seq its n ∧ its.size ≤ sizeLine ∧ Vals vs its.toList
theorem RoAt.sq {K : PySem.W.Frag} {H : Hp} {κ : List Addr} {a : Addr} {vs : List V} (h : RoAt K H κ a vs) : SqL K H a vs := h.imp And.left id
mutual
/-- data without cells -/
def IsP (γ : Wd) (H : Hp) (κ : List Addr) : D → V → Prop
  | .non, v => v = .non
  | .bl b, v => v = .bl b
  | .int i, v => v = .int i
  | .str x, v => v = .str ⟨x.toArray⟩
  | .tup xs, v => ∃ a vs, v = .ref a ∧ TupAt γ.K H κ a vs ∧ IsPs γ H κ xs vs
  | .lst xs, v => ∃ a vs, v = .ref a ∧ LstAt H κ a vs ∧ IsPs γ H κ xs vs
  | .fn f, v => v = .ref (γ.fa f)
  | _, _ => False
def IsPs (γ : Wd) (H : Hp) (κ : List Addr) : List D → List V → Prop
  | [], vs => vs = []
  | d :: ds, vs => ∃ v r, vs = v :: r ∧ IsP γ H κ d v ∧ IsPs γ H κ ds r
end
/-- any value -/
def Is (γ : Wd) (H : Hp) (κ : List Addr) (d : D) (v : V) : Prop := match d with
  | .cell k => ∃ a, κ[k]? = some a ∧ v = .ref a
  | .ro ns => ∃ a, v = .ref a ∧ RoAt γ.K H κ a (ns.map .int)
  | .set ks => ∃ a n, v = .ref a ∧ a ∉ κ ∧ H a = some (SetO γ.w a (fun i => decide (i ∈ ks)) n) ∧ n < 64 ∧ ks.Pairwise (· < ·)
  | .dks ks => ∃ a kvs, v = .ref a ∧ a ∉ κ ∧ H a = some (.dK kvs) ∧ kvs.map (·.1) = ks.map Sum.inl
  | .dic _ _ => False
  | .exc _ _ => False
  | d => IsP γ H κ d v
def Iss (γ : Wd) (H : Hp) (κ : List Addr) : List D → List V → Prop
  | [], vs => vs = []
  | d :: ds, vs => ∃ v r, vs = v :: r ∧ Is γ H κ d v ∧ Iss γ H κ ds r
/-- the store's lists stand at κ -/
structure StOk (γ : Wd) (H : Hp) (κ : List Addr) (st : Store) : Prop where
  len : κ.length = st.length
  nd : κ.Nodup
  at_ : ∀ (k : Nat) (a : Addr) (xs : List D), κ[k]? = some a → st[k]? = some xs → ∃ vs, H a = some (.lst vs) ∧ IsPs γ H κ xs vs
/-- the heap has grown; cells may have changed, nothing else -/
structure Ext (κ : List Addr) (H : Hp) (κ' : List Addr) (H' : Hp) : Prop where
  pre : ∃ more, κ' = κ ++ more ∧ ∀ a ∈ more, H a = none
  keep : ∀ a o, H a = some o → a ∉ κ → H' a = some o
  dom : ∀ a, H' a = none → H a = none
section
variable {γ : Wd} {H H1 H2 H' : Hp} {κ κ1 κ2 κ' : List Addr} {st st' : Store}
theorem Ext.refl : Ext κ H κ H := ⟨⟨[], by simp, fun _ h => nomatch h⟩, fun _ _ h _ => h, fun _ h => h⟩
theorem Ext.trans (a : Ext κ H κ1 H1) (b : Ext κ1 H1 κ2 H2) : Ext κ H κ2 H2 := by
  obtain ⟨m1, e1, n1⟩ := a.pre
  obtain ⟨m2, e2, n2⟩ := b.pre
  refine ⟨⟨m1 ++ m2, by rw [e2, e1, List.append_assoc], fun x hx => ?_⟩, fun x o h hk => ?_, fun x h => a.dom x (b.dom x h)⟩
  · rcases List.mem_append.mp hx with h | h
    · exact n1 x h
    · exact a.dom x (n2 x h)
  · refine b.keep x o (a.keep x o h hk) ?_
    rw [e1]
    intro hm
    rcases List.mem_append.mp hm with h' | h'
    · exact hk h'
    · rw [n1 x h'] at h; cases h
theorem Ext.out (e : Ext κ H κ' H') {a : Addr} {o : HO} (h : H a = some o) (hk : a ∉ κ) : a ∉ κ' := by
  obtain ⟨m, e1, n⟩ := e.pre
  rw [e1]
  intro hm
  rcases List.mem_append.mp hm with h' | h'
  · exact hk h'
  · rw [n a h'] at h; cases h
theorem TupAt.mono {K : PySem.W.Frag} {a : Addr} {vs : List V} (e : Ext κ H κ' H') (h : TupAt K H κ a vs) : TupAt K H' κ' a vs := by
  rcases h with ⟨h, hk⟩ | h
  · exact .inl ⟨e.keep _ _ h hk, e.out h hk⟩
  · exact .inr h
theorem LstAt.mono {a : Addr} {vs : List V} (e : Ext κ H κ' H') (h : LstAt H κ a vs) : LstAt H' κ' a vs := ⟨e.keep _ _ h.1 h.2, e.out h.1 h.2⟩
mutual
theorem IsP.mono (e : Ext κ H κ' H') : ∀ (d : D) (v : V), IsP γ H κ d v → IsP γ H' κ' d v
  | .non, _, h => by simpa only [IsP] using h
  | .bl _, _, h => by simpa only [IsP] using h
  | .int _, _, h => by simpa only [IsP] using h
  | .str _, _, h => by simpa only [IsP] using h
  | .tup xs, v, h => by
    simp only [IsP] at h ⊢
    obtain ⟨a, vs, rfl, h1, h2⟩ := h
    exact ⟨a, vs, rfl, h1.mono e, IsPs.mono e xs vs h2⟩
  | .lst xs, v, h => by
    simp only [IsP] at h ⊢
    obtain ⟨a, vs, rfl, h1, h2⟩ := h
    exact ⟨a, vs, rfl, h1.mono e, IsPs.mono e xs vs h2⟩
  | .ro _, _, h => by simp only [IsP] at h
  | .cell _, _, h => by simp only [IsP] at h
  | .fn _, _, h => by simpa only [IsP] using h
  | .dic _ _, _, h => by simp only [IsP] at h
  | .dks _, _, h => by simp only [IsP] at h
  | .set _, _, h => by simp only [IsP] at h
  | .exc _ _, _, h => by simp only [IsP] at h
theorem IsPs.mono (e : Ext κ H κ' H') : ∀ (ds : List D) (vs : List V), IsPs γ H κ ds vs → IsPs γ H' κ' ds vs
  | [], _, h => by simpa only [IsPs] using h
  | d :: ds, vs, h => by
    simp only [IsPs] at h ⊢
    obtain ⟨v, r, rfl, h1, h2⟩ := h
    exact ⟨v, r, rfl, IsP.mono e d v h1, IsPs.mono e ds r h2⟩
end
theorem Is.mono {d : D} {v : V} (e : Ext κ H κ' H') (h : Is γ H κ d v) : Is γ H' κ' d v := by
  cases d with
  | cell k =>
    obtain ⟨a, h1, h2⟩ := h
    obtain ⟨m, e1, _⟩ := e.pre
    exact ⟨a, by rw [e1]; exact (List.getElem?_append_left (List.getElem?_eq_some_iff.mp h1).1).trans h1, h2⟩
  | fn f => exact IsP.mono e _ _ h
  | ro ns =>
    obtain ⟨a, h1, h2⟩ := h
    refine ⟨a, h1, ?_⟩
    rcases h2 with ⟨h3 | ⟨o, h3⟩, h2⟩ | h2
    · exact .inl ⟨.inl (e.keep _ _ h3 h2), e.out h3 h2⟩
    · exact .inl ⟨.inr ⟨o, e.keep _ _ h3 h2⟩, e.out h3 h2⟩
    · exact .inr h2
  | set ks =>
    obtain ⟨a, n, h1, h2, h3, h4⟩ := h
    exact ⟨a, n, h1, e.out h3 h2, e.keep _ _ h3 h2, h4⟩
  | dks ks =>
    obtain ⟨a, kvs, h1, h2, h3, h4⟩ := h
    exact ⟨a, kvs, h1, e.out h3 h2, e.keep _ _ h3 h2, h4⟩
  | dic _ _ => exact h
  | exc _ _ => exact h
  | non => exact IsP.mono e _ _ h
  | bl _ => exact IsP.mono e _ _ h
  | int _ => exact IsP.mono e _ _ h
  | str _ => exact IsP.mono e _ _ h
  | tup _ => exact IsP.mono e _ _ h
  | lst _ => exact IsP.mono e _ _ h
theorem Iss.mono (e : Ext κ H κ' H') : ∀ {ds : List D} {vs : List V}, Iss γ H κ ds vs → Iss γ H' κ' ds vs
  | [], _, h => h
  | _ :: _, _, ⟨v, r, e1, h1, h2⟩ => ⟨v, r, e1, h1.mono e, Iss.mono e h2⟩
theorem Iss.length : ∀ {ds : List D} {vs : List V}, Iss γ H κ ds vs → vs.length = ds.length
  | [], _, h => by cases (show _ = [] from h); rfl
  | _ :: _, _, ⟨v, r, e1, _, h2⟩ => by rw [e1, List.length_cons, List.length_cons, Iss.length h2]
theorem IsPs.length : ∀ {ds : List D} {vs : List V}, IsPs γ H κ ds vs → vs.length = ds.length
  | [], _, h => by simp only [IsPs] at h; rw [h]; rfl
  | d :: ds, vs, h => by
    simp only [IsPs] at h
    obtain ⟨v, r, rfl, _, h2⟩ := h
    rw [List.length_cons, List.length_cons, IsPs.length h2]
/-- what is no cell (and none of the other kinds) is plain data -/
theorem Is.toP {d : D} {v : V} (h : Is γ H κ d v) (hp : isP d = true) : IsP γ H κ d v := by
  cases d <;> first | exact h | cases hp
theorem Is.ofP {d : D} {v : V} (h : IsP γ H κ d v) : Is γ H κ d v := by
  cases d <;> first | exact h | (simp only [IsP] at h)
theorem IsP.isP {d : D} {v : V} (h : IsP γ H κ d v) : isP d = true := by
  cases d <;> first | rfl | (simp only [IsP] at h)
theorem Iss.toP : ∀ {ds : List D} {vs : List V}, Iss γ H κ ds vs → ds.all isP = true → IsPs γ H κ ds vs
  | [], _, h, _ => by simp only [IsPs]; exact h
  | d :: ds, vs, h, hp => by
    obtain ⟨v, r, e1, h1, h2⟩ := h
    rw [List.all_cons, Bool.and_eq_true] at hp
    simp only [IsPs]
    exact ⟨v, r, e1, h1.toP hp.1, h2.toP hp.2⟩
theorem Iss.ofP : ∀ {ds : List D} {vs : List V}, IsPs γ H κ ds vs → Iss γ H κ ds vs
  | [], _, h => by
    simp only [IsPs] at h
    exact h
  | d :: ds, vs, h => by
    simp only [IsPs] at h
    obtain ⟨v, r, e1, h1, h2⟩ := h
    exact ⟨v, r, e1, .ofP h1, Iss.ofP h2⟩

/-- nothing but new objects -/
theorem StOk.mono (s : StOk γ H κ st) (e : Ext κ H κ H') (c : ∀ a ∈ κ, H' a = H a) : StOk γ H' κ st :=
  ⟨s.len, s.nd, fun k a xs h1 h2 => by
    obtain ⟨vs, h3, h4⟩ := s.at_ k a xs h1 h2
    exact ⟨vs, (c a (List.mem_of_getElem? h1)).trans h3, IsPs.mono e _ _ h4⟩⟩
theorem StOk.there (s : StOk γ H κ st) {a : Addr} (h : a ∈ κ) : ∃ vs, H a = some (.lst vs) := by
  obtain ⟨k, hk⟩ := List.getElem?_of_mem h
  obtain ⟨hl, _⟩ := List.getElem?_eq_some_iff.mp hk
  have hl2 : k < st.length := by rw [← s.len]; exact hl
  obtain ⟨vs, h1, _⟩ := s.at_ k a st[k] hk (List.getElem?_eq_getElem hl2)
  exact ⟨vs, h1⟩
theorem StOk.fresh (s : StOk γ H κ st) {p : Addr} (h : H p = none) : p ∉ κ := fun hm => by
  obtain ⟨vs, e⟩ := s.there hm
  rw [h] at e; cases e
/-- a new object -/
theorem Ext.new {p : Addr} {o : HO} (h : H p = none) : Ext κ H κ (upd H p o) :=
  ⟨⟨[], by simp, fun _ h => nomatch h⟩, fun a u e _ => by rw [upd_ne (ne_of_none e h)]; exact e, fun a e => by
    by_cases q : a = p
    · subst q; exact h
    · rw [upd_ne q] at e; exact e⟩
theorem StOk.new {p : Addr} {o : HO} (s : StOk γ H κ st) (h : H p = none) : StOk γ (upd H p o) κ st :=
  s.mono (Ext.new h) fun a ha => upd_ne fun q : a = p => s.fresh h (by rw [← q]; exact ha)
/-- a cell is written -/
theorem Ext.write {a : Addr} {o : HO} (hk : a ∈ κ) (h : H a ≠ none) : Ext κ H κ (upd H a o) :=
  ⟨⟨[], by simp, fun _ h => nomatch h⟩, fun b u e nb => by
    rw [upd_ne (fun q : b = a => nb (by rw [q]; exact hk))]
    exact e, fun b e => by
    by_cases q : b = a
    · subst q; rw [upd_same] at e; cases e
    · rw [upd_ne q] at e; exact e⟩
theorem StOk.write {k : Nat} {a : Addr} {xs : List D} {vs : List V} (s : StOk γ H κ st) (hk : κ[k]? = some a) (hx : IsPs γ H κ xs vs) : StOk γ (upd H a (.lst vs)) κ (st.set k xs) := by
  have hm := List.mem_of_getElem? hk
  obtain ⟨ws, hw⟩ := s.there hm
  have e : Ext κ H κ (upd H a (.lst vs)) := Ext.write hm (by rw [hw]; exact fun q => nomatch q)
  refine ⟨by rw [List.length_set]; exact s.len, s.nd, fun j b ys h1 h2 => ?_⟩
  by_cases q : j = k
  · subst q
    rw [hk] at h1
    cases h1
    rw [List.getElem?_set_self (by rw [← s.len]; exact (List.getElem?_eq_some_iff.mp hk).1)] at h2
    cases h2
    exact ⟨vs, upd_same, IsPs.mono e _ _ hx⟩
  · rw [List.getElem?_set_ne (Ne.symm q)] at h2
    obtain ⟨us, h3, h4⟩ := s.at_ j b ys h1 h2
    have nb : b ≠ a := fun z => q (nodup_at s.nd (by rw [← z]; exact h1) hk)
    exact ⟨us, (upd_ne nb).trans h3, IsPs.mono e _ _ h4⟩
/-- a new cell -/
theorem Ext.cell {p : Addr} {o : HO} (h : H p = none) : Ext κ H (κ ++ [p]) (upd H p o) :=
  ⟨⟨[p], rfl, fun a ha => by rw [List.mem_singleton.mp ha]; exact h⟩, (Ext.new (κ := κ) h).keep, (Ext.new (κ := κ) h).dom⟩
theorem StOk.cell {p : Addr} {xs : List D} {vs : List V} (s : StOk γ H κ st) (h : H p = none) (hx : IsPs γ H κ xs vs) : StOk γ (upd H p (.lst vs)) (κ ++ [p]) (st ++ [xs]) := by
  have np := s.fresh h
  refine ⟨by rw [List.length_append, List.length_append, s.len]; rfl, List.nodup_append.mpr ⟨s.nd, List.nodup_cons.mpr ⟨List.not_mem_nil, List.nodup_nil⟩, fun a ha b hb q => np (by rw [← List.mem_singleton.mp hb, ← q]; exact ha)⟩, fun j b ys h1 h2 => ?_⟩
  by_cases q : j < κ.length
  · rw [List.getElem?_append_left q] at h1
    rw [List.getElem?_append_left (by rw [← s.len]; exact q)] at h2
    obtain ⟨us, h3, h4⟩ := s.at_ j b ys h1 h2
    exact ⟨us, (upd_ne fun z : b = p => np (by rw [← z]; exact List.mem_of_getElem? h1)).trans h3, IsPs.mono (Ext.cell h) _ _ h4⟩
  · rw [List.getElem?_append_right (by omega)] at h1
    rw [List.getElem?_append_right (by rw [← s.len]; omega)] at h2
    have e0 : j - κ.length = 0 := by
      have := (List.getElem?_eq_some_iff.mp h1).1
      simp only [List.length_singleton] at this
      omega
    rw [s.len] at e0
    rw [← s.len] at h2
    rw [s.len, e0] at h1
    rw [s.len, e0] at h2
    cases h1
    cases h2
    exact ⟨vs, upd_same, IsPs.mono (Ext.cell h) _ _ hx⟩
/-- a frame -/
structure Env_ (γ : Wd) (σ : L2.St) (H : Hp) (κ : List Addr) (ρ : Fr) (st : Store) : Prop where
  st : StOk γ H κ st
  len : σ.length = ρ.length
  sl : ∀ (i : Nat) (d : D), getS ρ i = some d → ∃ v, σ[i]? = some (some v) ∧ Is γ H κ d v
theorem Env_.mono {σ : L2.St} {ρ : Fr} (e : Env_ γ σ H κ ρ st) (x : Ext κ H κ' H') (s : StOk γ H' κ' st') : Env_ γ σ H' κ' ρ st' :=
  ⟨s, e.len, fun i d h => let ⟨v, h1, h2⟩ := e.sl i d h; ⟨v, h1, h2.mono x⟩⟩
theorem Env_.set {σ : L2.St} {ρ : Fr} {i : Nat} {d : D} {v : V} (e : Env_ γ σ H κ ρ st) (h : Is γ H κ d v) : Env_ γ (σ.set i (some v)) H κ (setS ρ i d) st :=
  ⟨e.st, by rw [List.length_set, setS_length]; exact e.len, fun j x hx => by
    by_cases q : j = i
    · subst q
      obtain ⟨hl, hd⟩ := getS_set_self hx
      subst hd
      exact ⟨v, List.getElem?_set_self (by rw [e.len]; exact hl), h⟩
    · rw [getS_set_ne q] at hx
      obtain ⟨w, h1, h2⟩ := e.sl j x hx
      exact ⟨w, by rw [List.getElem?_set_ne (Ne.symm q)]; exact h1, h2⟩⟩
theorem Env_.wiped {σ : L2.St} {ρ : Fr} (e : Env_ γ σ H κ ρ st) : ∀ vs : List Nat, Env_ γ (L2.wipe σ vs) H κ (wipeS ρ vs) st
  | [] => e
  | i :: vs => by
    have e1 := Env_.wiped e vs
    refine ⟨e1.st, by unfold L2.wipe wipeS; rw [List.length_set, delS_length]; exact e1.len, fun j x hx => ?_⟩
    unfold wipeS at hx
    by_cases q : j = i
    · subst q; rw [getS_del_self] at hx; cases hx
    · rw [getS_del_ne q] at hx
      obtain ⟨w, h1, h2⟩ := e1.sl j x hx
      exact ⟨w, by unfold L2.wipe; rw [List.getElem?_set_ne (Ne.symm q)]; exact h1, h2⟩
/-- what is wanted of an exception's own dict -/
def ExcAt (γ : Wd) (H : Hp) (κ : List Addr) (c : Xc) (xs : List D) (d : Option Addr) : Prop := match c with
  | .BadText => ∃ dx v x, xs = [x] ∧ d = some dx ∧ dx ∉ κ ∧ H dx = some (.xd [("line", v)]) ∧ IsP γ H κ x v
  | _ => d = none
def PostR {α β : Type} (γ : Wd) (rel : Hp → List Addr → α → β → Prop) (κ : List Addr) (H : Hp) (Q : β → Hp → Prop) (W : Value → Option Addr → Hp → Prop) : R α → Prop
  | .ok a st' => ∀ κ' H' b, Ext κ H κ' H' → StOk γ H' κ' st' → rel H' κ' a b → Q b H'
  | .exc c xs st' => ∀ κ' H' d, Ext κ H κ' H' → StOk γ H' κ' st' → ExcAt γ H' κ' c xs d → W (.ref (γ.xa c)) d H'
  | .no => False
theorem PostR.ext {α β : Type} {rel : Hp → List Addr → α → β → Prop} {Q : β → Hp → Prop} {W : Value → Option Addr → Hp → Prop} {r : R α} (e : Ext κ H κ1 H1) (h : PostR γ rel κ H Q W r) : PostR γ rel κ1 H1 Q W r := by
  cases r with
  | ok a st => exact fun κ' H' b x s q => h κ' H' b (e.trans x) s q
  | exc c xs st => exact fun κ' H' d x s q => h κ' H' d (e.trans x) s q
  | no => exact h
theorem PostR.bnd {α β α' β' : Type} {rel : Hp → List Addr → α → β → Prop} {rel1 : Hp → List Addr → α' → β' → Prop} {Q : β → Hp → Prop} {Q1 : β' → Hp → Prop} {W : Value → Option Addr → Hp → Prop} {r : R α'} {f : α' → Store → R α}
    (h : PostR γ rel κ H Q W (r.bind f)) (k : ∀ a st1 κ1 H1 b, Ext κ H κ1 H1 → StOk γ H1 κ1 st1 → rel1 H1 κ1 a b → PostR γ rel κ1 H1 Q W (f a st1) → Q1 b H1) : PostR γ rel1 κ H Q1 W r := by
  cases r with
  | ok a st => exact fun κ' H' b x s q => k a st κ' H' b x s q (PostR.ext x h)
  | exc c xs st => exact h
  | no => exact h
theorem PostR.optE {α β : Type} {rel : Hp → List Addr → α → β → Prop} {Q : β → Hp → Prop} {W : Value → Option Addr → Hp → Prop} {o : Option α} (h : PostR γ rel κ H Q W (R.opt o st)) :
    ∃ a, o = some a ∧ ∀ κ' H' b, Ext κ H κ' H' → StOk γ H' κ' st → rel H' κ' a b → Q b H' := by
  cases o with
  | none => exact h.elim
  | some a => exact ⟨a, rfl, h⟩
end
/-- readings by the interpreter -/
def tE (γ : Wd) (C : F → List D → Store → R D) (W : WX) (e : E) : TE := fun σ H Q => ∃ κ ρ st, Env_ γ σ H κ ρ st ∧ PostR γ (Is γ) κ H Q (fun c d H' => W c d σ H') (ev C e ρ st)
def tEs (γ : Wd) (C : F → List D → Store → R D) (W : WX) (es : List E) : TA := fun σ H Q => ∃ κ ρ st, Env_ γ σ H κ ρ st ∧ PostR γ (Iss γ) κ H Q (fun c d H' => W c d σ H') (evs C es ρ st)
def tT (γ : Wd) (C : F → List D → Store → R D) (W : WX) (e : E) : TT := fun σ H Q => ∃ κ ρ st, Env_ γ σ H κ ρ st ∧ PostR γ (fun _ _ a b => b = a) κ H Q (fun c d H' => W c d σ H') (tst C e ρ st)
theorem pei {X : Cx} {e : Expr} {t t' : TE} (h : PE X e t) (i : ∀ σ H Q, t' σ H Q → t σ H Q) : PE X e t' := ⟨fun p s σ H Q I q => h.run p s σ H Q I (i σ H Q q)⟩
theorem pti {X : Cx} {e : Expr} {t t' : TT} (h : PT X e t) (i : ∀ σ H Q, t' σ H Q → t σ H Q) : PT X e t' := ⟨fun p s σ H Q I q => h.run p s σ H Q I (i σ H Q q)⟩
theorem pai {X : Cx} {es : List Expr} {t t' : TA} (h : PA X es t) (i : ∀ σ H Q, t' σ H Q → t σ H Q) : PA X es t' := ⟨fun pos p s σ H Q I q => h.run pos p s σ H Q I (i σ H Q q)⟩
theorem psi {X : Cx} {st : Stmt} {t t' : TS} (h : PS X st t) (i : ∀ D σ H, t' D σ H → t D σ H) : PS X st t' := ⟨fun p s σ H D I q => h.run p s σ H D I (i D σ H q)⟩
theorem pssi {X : Cx} {st : List Stmt} {t t' : TS} (h : PSs X st t) (i : ∀ D σ H, t' D σ H → t D σ H) : PSs X st t' := ⟨fun p s σ H D I q => h.run p s σ H D I (i D σ H q)⟩
/-! ### operators -/
/-- the world is that of the context -/
structure Lk (γ : Wd) (X : Cx) : Prop where
  P : X.prog = γ.P
  w : X.w = γ.w
  K : X.K = γ.K
  mg : X.mg = γ.mg
  hu : X.A.units + 65 < cLine
section
variable {γ : Wd} {H H1 H2 H' : Hp} {κ κ1 κ2 κ' : List Addr} {st st' : Store} {X : Cx} {x y v : V} {d dx dy : D}
theorem is_int {i : Int} : Is γ H κ (.int i) v ↔ v = .int i := Iff.rfl
theorem is_bl {b : Bool} : Is γ H κ (.bl b) v ↔ v = .bl b := Iff.rfl
theorem is_non : Is γ H κ .non v ↔ v = .non := Iff.rfl
theorem is_str {z : List Nat} : Is γ H κ (.str z) v ↔ v = .str ⟨z.toArray⟩ := Iff.rfl
theorem is_tup {xs : List D} : Is γ H κ (.tup xs) v ↔ ∃ a vs, v = .ref a ∧ TupAt γ.K H κ a vs ∧ IsPs γ H κ xs vs := Iff.rfl
theorem is_lst {xs : List D} : Is γ H κ (.lst xs) v ↔ ∃ a vs, v = .ref a ∧ LstAt H κ a vs ∧ IsPs γ H κ xs vs := Iff.rfl
theorem TupAt.sq {K : PySem.W.Frag} {a : Addr} {vs : List V} (h : TupAt K H κ a vs) : SqT K H a vs := by
  rcases h with h | h
  · exact .inl (.inl h.1)
  · exact .inr h
theorem LstAt.sq {K : PySem.W.Frag} {a : Addr} {vs : List V} (h : LstAt H κ a vs) : SqL K H a vs := .inl (.inl h.1)
theorem TupAt.new {K : PySem.W.Frag} {p : Addr} {vs : List V} (s : StOk γ H κ st) (h : H p = none) : TupAt K (upd H p (.tup vs)) κ p vs := .inl ⟨upd_same, s.fresh h⟩
theorem LstAt.new {p : Addr} {vs : List V} (s : StOk γ H κ st) (h : H p = none) : LstAt (upd H p (.lst vs)) κ p vs := ⟨upd_same, s.fresh h⟩
/-- a new tuple, a new list of plain data -/
theorem new_tup {p : Addr} {xs : List D} {vs : List V} (s : StOk γ H κ st) (h : H p = none) (hx : IsPs γ H κ xs vs) : Is γ (upd H p (.tup vs)) κ (.tup xs) (.ref p) :=
  is_tup.mpr ⟨p, vs, rfl, .new s h, IsPs.mono (Ext.new h) _ _ hx⟩
theorem new_lst {p : Addr} {xs : List D} {vs : List V} (s : StOk γ H κ st) (h : H p = none) (hx : IsPs γ H κ xs vs) : Is γ (upd H p (.lst vs)) κ (.lst xs) (.ref p) :=
  is_lst.mpr ⟨p, vs, rfl, .new s h, IsPs.mono (Ext.new h) _ _ hx⟩
theorem IsPs.append : ∀ {xs ys : List D} {vs ws : List V}, IsPs γ H κ xs vs → IsPs γ H κ ys ws → IsPs γ H κ (xs ++ ys) (vs ++ ws)
  | [], _, _, _, h, k => by
    simp only [IsPs] at h
    subst h
    exact k
  | d :: ds, ys, vs, ws, h, k => by
    simp only [IsPs] at h
    obtain ⟨v, r, rfl, h1, h2⟩ := h
    show IsPs γ H κ (d :: (ds ++ ys)) (v :: (r ++ ws))
    simp only [IsPs]
    exact ⟨v, _, rfl, h1, IsPs.append h2 k⟩
theorem IsPs.reverse : ∀ {xs : List D} {vs : List V}, IsPs γ H κ xs vs → IsPs γ H κ xs.reverse vs.reverse
  | [], vs, h => by
    simp only [IsPs] at h
    subst h
    simp only [List.reverse_nil, IsPs]
  | x :: xs, vs, h => by
    simp only [IsPs] at h
    obtain ⟨v, r, rfl, h1, h2⟩ := h
    rw [List.reverse_cons, List.reverse_cons]
    refine IsPs.append (IsPs.reverse h2) ?_
    simp only [IsPs]
    exact ⟨v, [], rfl, h1, rfl⟩
theorem IsPs.erase : ∀ {xs : List D} {vs : List V} (i : Nat), IsPs γ H κ xs vs → IsPs γ H κ (xs.eraseIdx i) (vs.eraseIdx i)
  | [], vs, i, h => by
    simp only [IsPs] at h
    subst h
    simp only [List.eraseIdx_nil, IsPs]
  | x :: xs, vs, 0, h => by
    simp only [IsPs] at h
    obtain ⟨v, r, rfl, h1, h2⟩ := h
    exact h2
  | x :: xs, vs, i + 1, h => by
    simp only [IsPs] at h
    obtain ⟨v, r, rfl, h1, h2⟩ := h
    rw [List.eraseIdx_cons_succ, List.eraseIdx_cons_succ]
    simp only [IsPs]
    exact ⟨v, _, rfl, h1, IsPs.erase i h2⟩
theorem IsPs.setAt {d : D} {v : V} : ∀ {xs : List D} {vs : List V} (i : Nat), IsPs γ H κ xs vs → IsP γ H κ d v → IsPs γ H κ (xs.set i d) (vs.set i v)
  | [], vs, i, h, hv => by
    simp only [IsPs] at h
    subst h
    simp only [List.set_nil, IsPs]
  | x :: xs, vs, 0, h, hv => by
    simp only [IsPs] at h
    obtain ⟨w, r, rfl, h1, h2⟩ := h
    rw [List.set_cons_zero, List.set_cons_zero]
    simp only [IsPs]
    exact ⟨v, r, rfl, hv, h2⟩
  | x :: xs, vs, i + 1, h, hv => by
    simp only [IsPs] at h
    obtain ⟨w, r, rfl, h1, h2⟩ := h
    rw [List.set_cons_succ, List.set_cons_succ]
    simp only [IsPs]
    exact ⟨w, _, rfl, h1, IsPs.setAt i h2 hv⟩
mutual
/-- fewer cells -/
theorem IsP.sub (hk : ∀ a ∈ κ, a ∈ κ') : ∀ (d : D) (v : V), IsP γ H κ' d v → IsP γ H κ d v
  | .non, _, h => by simpa only [IsP] using h
  | .bl _, _, h => by simpa only [IsP] using h
  | .int _, _, h => by simpa only [IsP] using h
  | .str _, _, h => by simpa only [IsP] using h
  | .tup xs, v, h => by
    simp only [IsP] at h ⊢
    obtain ⟨a, vs, rfl, h1, h2⟩ := h
    refine ⟨a, vs, rfl, ?_, IsPs.sub hk xs vs h2⟩
    rcases h1 with ⟨h1, h3⟩ | h1
    · exact .inl ⟨h1, fun q => h3 (hk a q)⟩
    · exact .inr h1
  | .lst xs, v, h => by
    simp only [IsP] at h ⊢
    obtain ⟨a, vs, rfl, h1, h2⟩ := h
    exact ⟨a, vs, rfl, ⟨h1.1, fun q => h1.2 (hk a q)⟩, IsPs.sub hk xs vs h2⟩
  | .ro _, _, h => by simp only [IsP] at h
  | .cell _, _, h => by simp only [IsP] at h
  | .fn _, _, h => by simpa only [IsP] using h
  | .dic _ _, _, h => by simp only [IsP] at h
  | .dks _, _, h => by simp only [IsP] at h
  | .set _, _, h => by simp only [IsP] at h
  | .exc _ _, _, h => by simp only [IsP] at h
theorem IsPs.sub (hk : ∀ a ∈ κ, a ∈ κ') : ∀ (ds : List D) (vs : List V), IsPs γ H κ' ds vs → IsPs γ H κ ds vs
  | [], _, h => by simpa only [IsPs] using h
  | d :: ds, vs, h => by
    simp only [IsPs] at h ⊢
    obtain ⟨v, r, rfl, h1, h2⟩ := h
    exact ⟨v, r, rfl, IsP.sub hk d v h1, IsPs.sub hk ds r h2⟩
end
theorem Is.sub {d : D} {v : V} (hk : ∀ a ∈ κ, a ∈ κ') (hc : ∀ j, d = .cell j → j < κ.length ∧ κ'[j]? = κ[j]?) (h : Is γ H κ' d v) : Is γ H κ d v := by
  cases d with
  | cell j =>
    obtain ⟨a, h1, h2⟩ := h
    exact ⟨a, by rw [← (hc j rfl).2]; exact h1, h2⟩
  | ro ns =>
    obtain ⟨a, h1, h2⟩ := h
    exact ⟨a, h1, h2.imp (fun h => ⟨h.1, fun q => h.2 (hk a q)⟩) id⟩
  | set ks =>
    obtain ⟨a, n, h1, h2, h3⟩ := h
    exact ⟨a, n, h1, fun q => h2 (hk a q), h3⟩
  | dks ks =>
    obtain ⟨a, kvs, h1, h2, h3⟩ := h
    exact ⟨a, kvs, h1, fun q => h2 (hk a q), h3⟩
  | dic _ _ => exact h
  | exc _ _ => exact h
  | fn f => exact IsP.sub hk _ _ h
  | non => exact IsP.sub hk _ _ h
  | bl _ => exact IsP.sub hk _ _ h
  | int _ => exact IsP.sub hk _ _ h
  | str _ => exact IsP.sub hk _ _ h
  | tup _ => exact IsP.sub hk _ _ h
  | lst _ => exact IsP.sub hk _ _ h
/-- the store cut back -/
theorem StOk.cut {more : List Addr} {n : Nat} (hn : n = κ.length) (s : StOk γ H (κ ++ more) st) : StOk γ H κ (st.take n) := by
  have hl := s.len
  rw [List.length_append] at hl
  refine ⟨by rw [List.length_take]; omega, (List.nodup_append.mp s.nd).1, fun k a xs h1 h2 => ?_⟩
  have hk := (List.getElem?_eq_some_iff.mp h1).1
  rw [List.getElem?_take_of_lt (by omega)] at h2
  obtain ⟨vs, h3, h4⟩ := s.at_ k a xs (by rw [List.getElem?_append_left hk]; exact h1) h2
  exact ⟨vs, h3, IsPs.sub (fun b hb => List.mem_append_left _ hb) _ _ h4⟩
theorem Ext.cut {more : List Addr} (e : Ext κ H (κ ++ more) H') : Ext κ H κ H' := ⟨⟨[], by simp, fun _ h => nomatch h⟩, e.keep, e.dom⟩
theorem IsPs.get : ∀ {xs : List D} {vs : List V} {i : Nat} {d : D}, IsPs γ H κ xs vs → xs[i]? = some d → ∃ v, vs[i]? = some v ∧ IsP γ H κ d v
  | [], _, _, _, _, e => by cases e
  | x :: xs, vs, 0, d, h, e => by
    simp only [IsPs] at h
    obtain ⟨v, r, rfl, h1, h2⟩ := h
    cases (show some x = some d from e)
    exact ⟨v, rfl, h1⟩
  | x :: xs, vs, i + 1, d, h, e => by
    simp only [IsPs] at h
    obtain ⟨v, r, rfl, h1, h2⟩ := h
    exact IsPs.get (i := i) h2 e
/-- a list that may be read: its items -/
theorem lstOf_is {xs : List D} (s : StOk γ H κ st) (h : Is γ H κ d x) (e : lstOf st d = some xs) : ∃ a vs, x = .ref a ∧ H a = some (.lst vs) ∧ IsPs γ H κ xs vs := by
  cases d with
  | lst ys =>
    cases (show some ys = some xs from e)
    obtain ⟨a, vs, h1, h2, h3⟩ := is_lst.mp h
    exact ⟨a, vs, h1, h2.1, h3⟩
  | cell k =>
    cases (show some (st.getD k []) = some xs from e)
    obtain ⟨a, h1, h2⟩ := h
    have hl : k < st.length := by rw [← s.len]; exact (List.getElem?_eq_some_iff.mp h1).1
    have hg : st[k]? = some (st.getD k []) := by
      rw [List.getD_eq_getElem?_getD, List.getElem?_eq_getElem hl] <;> rfl
    obtain ⟨vs, h3, h4⟩ := s.at_ k a _ h1 hg
    exact ⟨a, vs, h2, h3, h4⟩
  | _ => cases e
theorem ints_vals : ∀ {ns : List Int} {vs : List V}, IsPs γ H κ (ns.map .int) vs → vs = ns.map .int
  | [], _, h => by simpa only [List.map_nil, IsPs] using h
  | n :: ns, vs, h => by
    simp only [List.map_cons, IsPs] at h
    obtain ⟨v, r, rfl, h1, h2⟩ := h
    simp only [IsP] at h1
    rw [h1, ints_vals h2]; rfl
theorem vals_ints : ∀ (ns : List Int), IsPs γ H κ (ns.map .int) (ns.map V.int)
  | [] => by simp only [List.map_nil, IsPs]
  | n :: ns => by
    simp only [List.map_cons, IsPs]
    exact ⟨_, _, rfl, by simp only [IsP], vals_ints ns⟩
theorem intsOf_eq : ∀ {xs : List D} {ns : List Int}, intsOf xs = some ns → xs = ns.map .int
  | [], ns, e => by cases (show some [] = some ns from e); rfl
  | x :: xs, ns, e => by
    cases x with
    | int i =>
      simp only [intsOf] at e
      cases h : intsOf xs with
      | none => rw [h] at e; cases e
      | some ms =>
        rw [h] at e
        cases (show some (i :: ms) = some ns from e)
        rw [intsOf_eq h]; rfl
    | _ => cases e
theorem blsOf_eq : ∀ {xs : List D} {ns : List Bool}, blsOf xs = some ns → xs = ns.map .bl
  | [], ns, e => by cases (show some [] = some ns from e); rfl
  | x :: xs, ns, e => by
    cases x with
    | bl i =>
      simp only [blsOf] at e
      cases h : blsOf xs with
      | none => rw [h] at e; cases e
      | some ms =>
        rw [h] at e
        cases (show some (i :: ms) = some ns from e)
        rw [blsOf_eq h]; rfl
    | _ => cases e
theorem bls_vals : ∀ {ns : List Bool} {vs : List V}, IsPs γ H κ (ns.map .bl) vs → vs = ns.map .bl
  | [], _, h => by simpa only [List.map_nil, IsPs] using h
  | n :: ns, vs, h => by
    simp only [List.map_cons, IsPs] at h
    obtain ⟨v, r, rfl, h1, h2⟩ := h
    simp only [IsP] at h1
    rw [h1, bls_vals h2]; rfl
theorem line_le {n : Nat} (h : n ≤ 1000000) : n ≤ sizeLine := by rw [sizeLine_eq]; omega
theorem line_lt {n : Nat} (h : n < 1000000) : n < sizeLine := by rw [sizeLine_eq]; omega

/-! #### the reading of an operator -/
def rBin (γ : Wd) (op : Operator) : R2 := fun x y H Q => ∃ κ st dx dy d, StOk γ H κ st ∧ Is γ H κ dx x ∧ Is γ H κ dy y ∧ binS st op dx dy = some d ∧
  ∀ κ' H' v, Ext κ H κ' H' → StOk γ H' κ' st → Is γ H' κ' d v → Q v H'
theorem binI_inv {f : Int → Int → Option D} (h : binI f dx dy = some d) : ∃ i j, dx = .int i ∧ dy = .int j ∧ f i j = some d := by
  cases dx <;> first | (cases dy <;> first | exact ⟨_, _, rfl, rfl, h⟩ | cases h) | cases h
theorem natAbs_lt {i : Int} {n : Nat} (h1 : -(n : Int) < i) (h2 : i < n) : i.natAbs < n := by omega
theorem b256 : (2 : Nat) ^ 256 = 115792089237316195423570985008687907853269984665640564039457584007913129639936 := by decide
theorem b64 : (2 : Nat) ^ 64 = 18446744073709551616 := by decide
theorem op_mulD : OpR X (binaryOp .Mult) (rI (fun i j => ∃ d, mulI i j = some d) fun i j => .int (i * j)) := opI fun i j _ _ _ _ _ hc q => by
  obtain ⟨d, hd⟩ := hc
  unfold mulI at hd
  split at hd
  · rename_i h
    rcases h with h | h | ⟨h1, h2, h3, h4⟩
    · exact PyProof.Rows.mul_int q (.of_left (intBits_le_64 h.1 h.2))
    · exact PyProof.Rows.mul_int q (.of_right (intBits_le_64 h.1 h.2))
    · exact PyProof.Rows.mul_int q (wide_mul (a := 256) (b := 256) (by rw [b256]; omega) (by rw [b256]; omega) (by decide) (by decide) (by decide)).ok
  · cases hd
theorem op_bin (L : Lk γ X) {op : Operator} : OpR X (binaryOp op) (rBin γ op) := by
  intro pins s σ H x y v u Q I rx ry h
  obtain ⟨κ, st, dx, dy, d, so, hx, hy, e, q⟩ := h
  -- two ints: a value without the heap
  have ii : ∀ {C : Int → Int → Prop} {g : Int → Int → Int} {i j : Int}, OpR X (binaryOp op) (rI C fun i j => .int (g i j)) → dx = .int i → dy = .int j → C i j → d = .int (g i j) → wpAny (model X.prog X.w) X.A (binaryOp op v u) (EP X pins σ Q) X.xe s := fun {C g i j} hr e1 e2 hc e3 => by
    subst e1 e2 e3
    exact hr pins s σ H x y v u Q I rx ry ⟨i, j, hx, hy, hc, q κ H _ .refl so rfl⟩
  have ii0 : ∀ {g : Int → Int → Int} {i j : Int}, OpR X (binaryOp op) (rI0 fun i j => .int (g i j)) → dx = .int i → dy = .int j → d = .int (g i j) → wpAny (model X.prog X.w) X.A (binaryOp op v u) (EP X pins σ Q) X.xe s := fun {g i j} hr e1 e2 e3 => by
    subst e1 e2 e3
    exact hr pins s σ H x y v u Q I rx ry ⟨i, j, hx, hy, q κ H _ .refl so rfl⟩
  cases op with
  | Add =>
    have lists : ∀ {xs ys : List D}, lstOf st dx = some xs → lstOf st dy = some ys → addL xs ys = some d → wpAny (model X.prog X.w) X.A (binaryOp .Add v u) (EP X pins σ Q) X.xe s := fun {xs ys} e1 e2 e3 => by
      unfold addL at e3
      split at e3
      · rename_i hz
        cases e3
        obtain ⟨a, vs, rfl, h1, h2⟩ := lstOf_is so hx e1
        obtain ⟨b, ws, rfl, h3, h4⟩ := lstOf_is so hy e2
        refine op_cat pins s σ H _ _ v u Q I rx ry ⟨a, b, vs, ws, rfl, rfl, h1, h3, line_le (by rw [h2.length, h4.length]; exact hz), fun p hp => ?_⟩
        exact q κ _ _ (Ext.new hp) (so.new hp) (new_lst so hp (h2.append h4))
      · cases e3
    have e' : addS st dx dy = some d := e
    cases dx with
    | int i =>
      cases dy with
      | int j => cases (show some (D.int (i + j)) = some d from e'); exact ii0 op_add rfl rfl rfl
      | _ => cases e'
    | str z =>
      cases dy with
      | str z2 =>
        have e2 : (if z.length + z2.length ≤ 1000000 then some (D.str (z ++ z2)) else none) = some d := e'
        split at e2
        · rename_i hz
          cases e2
          cases (show x = .str ⟨z.toArray⟩ from hx)
          cases (show y = .str ⟨z2.toArray⟩ from hy)
          refine op_add_str pins s σ H _ _ v u Q I rx ry ⟨_, _, rfl, rfl, line_le (by show z.toArray.size + z2.toArray.size ≤ 1000000; simpa using hz), ?_⟩
          refine q κ H _ .refl so ?_
          show V.str _ = V.str _
          congr 1
          show PySem.Str.mk _ = PySem.Str.mk _
          congr 1
          simp
        · cases e2
      | _ => cases e'
    | tup xs =>
      cases dy with
      | tup ys =>
        have e2 : (if xs.length + ys.length ≤ 1000000 then some (D.tup (xs ++ ys)) else none) = some d := e'
        split at e2
        · rename_i hz1
          cases e2
          obtain ⟨a, vs, rfl, h1, h2⟩ := is_tup.mp hx
          obtain ⟨b, ws, rfl, h3, h4⟩ := is_tup.mp hy
          refine op_catA pins s σ H _ _ v u Q I rx ry ⟨a, b, vs, ws, rfl, rfl, by rw [L.K]; exact h1.sq, by rw [L.K]; exact h3.sq, line_le (by rw [h2.length, h4.length]; exact hz1), fun z => ?_, fun _ z => ?_, fun _ _ p hp => ?_⟩
          · have e0 : xs = [] := by
              have := h2.length
              rw [z] at this
              exact List.eq_nil_of_length_eq_zero this.symm
            subst e0
            rw [List.nil_append] at q
            exact q κ H _ .refl so hy
          · have e0 : ys = [] := by
              have := h4.length
              rw [z] at this
              exact List.eq_nil_of_length_eq_zero this.symm
            subst e0
            rw [List.append_nil] at q
            exact q κ H _ .refl so hx
          · exact q κ _ _ (Ext.new hp) (so.new hp) (new_tup so hp (h2.append h4))
        · cases e2
      | _ => cases e'
    | lst xs =>
      cases dy with
      | lst ys => exact lists rfl rfl e'
      | cell j => exact lists rfl rfl e'
      | _ => cases e'
    | cell k =>
      cases dy with
      | lst ys => exact lists rfl rfl e'
      | cell j => exact lists rfl rfl e'
      | _ => cases e'
    | _ => cases e'
  | Sub =>
    obtain ⟨i, j, e1, e2, e3⟩ := binI_inv (show binI _ dx dy = some d from e)
    cases e3
    exact ii0 op_sub e1 e2 rfl
  | Mult =>
    have e' : mulS dx dy = some d := e
    cases dx with
    | int i =>
      cases dy with
      | int j =>
        have e2 : mulI i j = some d := e'
        have e3 : d = .int (i * j) := by
          unfold mulI at e2
          split at e2
          · exact (Option.some.inj e2).symm
          · cases e2
        exact ii op_mulD rfl rfl ⟨d, e2⟩ e3
      | _ => cases e'
    | _ => cases e'
  | FloorDiv =>
    obtain ⟨i, j, e1, e2, e3⟩ := binI_inv (show binI _ dx dy = some d from e)
    unfold divI at e3
    split at e3
    · rename_i hc
      exact ii op_fdivW e1 e2 (wide_div hc.1 (b := 256) (by rw [b256]; omega) (by decide) (by decide)) (Option.some.inj e3).symm
    · cases e3
  | Mod =>
    obtain ⟨i, j, e1, e2, e3⟩ := binI_inv (show binI _ dx dy = some d from e)
    unfold modI at e3
    split at e3
    · rename_i hc
      exact ii op_mod e1 e2 hc (Option.some.inj e3).symm
    · cases e3
  | LShift =>
    obtain ⟨i, j, e1, e2, e3⟩ := binI_inv (show binI _ dx dy = some d from e)
    unfold shlI at e3
    split at e3
    · rename_i hc
      exact ii op_shl e1 e2 ⟨hc.1, hc.2.1, by rw [b64]; omega⟩ (Option.some.inj e3).symm
    · cases e3
  | RShift =>
    obtain ⟨i, j, e1, e2, e3⟩ := binI_inv (show binI _ dx dy = some d from e)
    unfold shrI at e3
    split at e3
    · rename_i hc
      exact ii op_shr e1 e2 hc (Option.some.inj e3).symm
    · cases e3
  | Pow =>
    obtain ⟨i, j, e1, e2, e3⟩ := binI_inv (show binI _ dx dy = some d from e)
    unfold powI at e3
    split at e3
    · rename_i hc
      exact ii op_pow e1 e2 ⟨hc.1, hc.2.1, by rw [b64]; omega⟩ (Option.some.inj e3).symm
    · cases e3
  | BitAnd =>
    obtain ⟨i, j, e1, e2, e3⟩ := binI_inv (show binI _ dx dy = some d from e)
    exact ii0 op_and e1 e2 (Option.some.inj e3).symm
  | BitOr =>
    obtain ⟨i, j, e1, e2, e3⟩ := binI_inv (show binI _ dx dy = some d from e)
    exact ii0 op_or e1 e2 (Option.some.inj e3).symm
  | _ => cases e
end
/-! ### comparisons, truth, subscripts -/
mutual
def toPy : D → PyData
  | .non => .none
  | .bl b => .bool b
  | .int i => .int i
  | .str x => .str ⟨x.toArray⟩
  | .tup xs => .tuple (toPys xs)
  | .lst xs => .list (toPys xs)
  | _ => .dict []
def toPys : List D → List PyData
  | [] => []
  | x :: xs => toPy x :: toPys xs
end
mutual
theorem okd_py : ∀ (n : Nat) (d : D), okd n d = true → (toPy d).canLay0 = true ∧ (toPy d).depth ≤ n
  | n, .non, _ => by simp [toPy, PyData.canLay0, PyData.depth]
  | n, .bl _, _ => by simp [toPy, PyData.canLay0, PyData.depth]
  | n, .int _, _ => by simp [toPy, PyData.canLay0, PyData.depth]
  | n, .str x, h => by
    rw [okd_str] at h
    refine ⟨?_, by simp [toPy, PyData.depth]⟩
    simp only [toPy, PyData.canLay0]
    show (x.toArray.all (· < 0x110000)) = true
    rw [List.all_toArray]
    exact h
  | 0, .lst _, h => by simp only [okd] at h; cases h
  | 0, .tup _, h => by simp only [okd] at h; cases h
  | n + 1, .lst xs, h => by
    rw [okd_lst] at h
    have ⟨h1, h2⟩ := okds_py n xs h
    simp only [toPy, PyData.canLay0, PyData.depth]
    exact ⟨h1, by omega⟩
  | n + 1, .tup xs, h => by
    rw [okd_tup] at h
    have ⟨h1, h2⟩ := okds_py n xs h
    simp only [toPy, PyData.canLay0, PyData.depth]
    exact ⟨h1, by omega⟩
  | n, .ro _, h => by cases n <;> (simp only [okd] at h; cases h)
  | n, .cell _, h => by cases n <;> (simp only [okd] at h; cases h)
  | n, .fn _, h => by cases n <;> (simp only [okd] at h; cases h)
  | n, .dic _ _, h => by cases n <;> (simp only [okd] at h; cases h)
  | n, .dks _, h => by cases n <;> (simp only [okd] at h; cases h)
  | n, .set _, h => by cases n <;> (simp only [okd] at h; cases h)
  | n, .exc _ _, h => by cases n <;> (simp only [okd] at h; cases h)
theorem okds_py : ∀ (n : Nat) (ds : List D), okds n ds = true → PyData.canLayAll0 (toPys ds) = true ∧ PyData.depthAll (toPys ds) ≤ n
  | n, [], _ => by simp [toPys, PyData.canLayAll0, PyData.depthAll]
  | n, d :: ds, h => by
    rw [okds_cons, Bool.and_eq_true] at h
    have ⟨h1, h2⟩ := okd_py n d h.1
    have ⟨h3, h4⟩ := okds_py n ds h.2
    simp only [toPys, PyData.canLayAll0, PyData.depthAll, h1, h3, Bool.and_self, true_and]
    omega
end
theorem shaped_of {n : Nat} {d : D} (h : okd n d = true) (hn : n ≤ 64) : SeqAt.shaped (toPy d) = true := by
  have ⟨h1, h2⟩ := okd_py n d h
  unfold SeqAt.shaped
  rw [h1, decide_eq_true (by omega)]; rfl
theorem str_beq (x y : List Nat) : ((PySem.Str.mk x.toArray) == (PySem.Str.mk y.toArray)) = decide (x = y) := by
  by_cases h : x = y
  · subst h; simp
  · rw [decide_eq_false h]
    refine beq_eq_false_iff_ne.mpr fun q => h ?_
    injection q with q
    have := congrArg Array.toList q
    simpa using this
theorem ibeq (i j : Int) : (i == j) = decide (i = j) := by
  rw [Bool.eq_iff_iff]; simp
mutual
theorem eqv_py : ∀ (a b : D), PyData.eqv (toPy a) (toPy b) = eqd a b
  | .non, b => by cases b <;> simp [toPy, PyData.eqv, eqd]
  | .bl a, b => by cases b <;> simp [toPy, PyData.eqv, eqd, ibeq]
  | .int i, b => by cases b <;> simp [toPy, PyData.eqv, eqd, ibeq]
  | .str x, b => by cases b <;> simp [toPy, PyData.eqv, eqd, str_beq]
  | .lst xs, b => by
    cases b with
    | lst ys => simp only [toPy, PyData.eqv, eqd]; exact eqvs_py xs ys
    | _ => simp [toPy, PyData.eqv, eqd]
  | .tup xs, b => by
    cases b with
    | tup ys => simp only [toPy, PyData.eqv, eqd]; exact eqvs_py xs ys
    | _ => simp [toPy, PyData.eqv, eqd]
  | .ro _, b => by cases b <;> simp [toPy, PyData.eqv, eqd]
  | .cell _, b => by cases b <;> simp [toPy, PyData.eqv, eqd]
  | .fn _, b => by cases b <;> simp [toPy, PyData.eqv, eqd]
  | .dic _ _, b => by cases b <;> simp [toPy, PyData.eqv, eqd]
  | .dks _, b => by cases b <;> simp [toPy, PyData.eqv, eqd]
  | .set _, b => by cases b <;> simp [toPy, PyData.eqv, eqd]
  | .exc _ _, b => by cases b <;> simp [toPy, PyData.eqv, eqd]
theorem eqvs_py : ∀ (as bs : List D), PyData.eqvAll (toPys as) (toPys bs) = eqds as bs
  | [], [] => by simp [toPys, PyData.eqvAll, eqds]
  | [], _ :: _ => by simp [toPys, PyData.eqvAll, eqds]
  | _ :: _, [] => by simp [toPys, PyData.eqvAll, eqds]
  | a :: as, b :: bs => by simp only [toPys, PyData.eqvAll, eqds]; rw [eqv_py a b, eqvs_py as bs]
end
section
variable {γ : Wd} {H H1 H2 H' : Hp} {κ κ1 κ2 κ' : List Addr} {st st' : Store} {X : Cx} {x y v : V} {d dx dy : D}
mutual
theorem IsP.dp {n : Nat} : ∀ (d : D) (v : V), okd n d = true → IsP γ H κ d v → Dp γ.K H v (toPy d)
  | .non, v, _, h => by simp only [IsP] at h; subst h; simp only [toPy]; exact .non
  | .bl b, v, _, h => by simp only [IsP] at h; subst h; simp only [toPy]; exact .bl b
  | .int i, v, _, h => by simp only [IsP] at h; subst h; simp only [toPy]; exact .int i
  | .str x, v, _, h => by simp only [IsP] at h; subst h; simp only [toPy]; exact .str _
  | .tup xs, v, ho, h => by
    cases n with
    | zero => simp only [okd] at ho; cases ho
    | succ n =>
      rw [okd_tup] at ho
      simp only [IsP] at h
      obtain ⟨a, vs, rfl, h1, h2⟩ := h
      simp only [toPy]
      exact .tup h1.sq (IsPs.dp xs vs ho h2)
  | .lst xs, v, ho, h => by
    cases n with
    | zero => simp only [okd] at ho; cases ho
    | succ n =>
      rw [okd_lst] at ho
      simp only [IsP] at h
      obtain ⟨a, vs, rfl, h1, h2⟩ := h
      simp only [toPy]
      exact .lst h1.sq (IsPs.dp xs vs ho h2)
  | .ro _, _, _, h => by simp only [IsP] at h
  | .cell _, _, _, h => by simp only [IsP] at h
  | .fn _, _, ho, h => by cases n <;> (simp only [okd] at ho; cases ho)
  | .dic _ _, _, _, h => by simp only [IsP] at h
  | .dks _, _, _, h => by simp only [IsP] at h
  | .set _, _, _, h => by simp only [IsP] at h
  | .exc _ _, _, _, h => by simp only [IsP] at h
theorem IsPs.dp {n : Nat} : ∀ (ds : List D) (vs : List V), okds n ds = true → IsPs γ H κ ds vs → DpAll γ.K H vs (toPys ds)
  | [], vs, _, h => by simp only [IsPs] at h; subst h; simp only [toPys]; exact .nil
  | d :: ds, vs, ho, h => by
    rw [okds_cons, Bool.and_eq_true] at ho
    simp only [IsPs] at h
    obtain ⟨v, r, rfl, h1, h2⟩ := h
    simp only [toPys]
    exact .cons (IsP.dp d v ho.1 h1) (IsPs.dp ds r ho.2 h2)
end
theorem plain_dp {n : Nat} (s : StOk γ H κ st) (h : Is γ H κ d v) (ho : okd n (plain st d) = true) : Dp γ.K H v (toPy (plain st d)) := by
  cases d with
  | cell k =>
    obtain ⟨a, vs, rfl, h1, h2⟩ := lstOf_is (xs := st.getD k []) s h rfl
    cases n with
    | zero => rw [pl_cell] at ho; simp only [okd] at ho; cases ho
    | succ n =>
      rw [pl_cell, okd_lst] at ho
      rw [pl_cell]
      simp only [toPy]
      exact .lst (.inl (.inl h1)) (IsPs.dp _ _ ho h2)
  | non => exact IsP.dp (γ := γ) (κ := κ) _ _ ho h
  | bl _ => exact IsP.dp (γ := γ) (κ := κ) _ _ ho h
  | int _ => exact IsP.dp (γ := γ) (κ := κ) _ _ ho h
  | str _ => exact IsP.dp (γ := γ) (κ := κ) _ _ ho h
  | tup _ => exact IsP.dp (γ := γ) (κ := κ) _ _ ho h
  | lst _ => exact IsP.dp (γ := γ) (κ := κ) _ _ ho h
  | fn _ => exact IsP.dp (γ := γ) (κ := κ) _ _ ho h
  | _ => cases n <;> (simp only [plain, okd] at ho; cases ho)
def rCmp (γ : Wd) (op : CmpOp) : R2 := fun x y H Q => ∃ κ st dx dy b, StOk γ H κ st ∧ Is γ H κ dx x ∧ Is γ H κ dy y ∧ cmpS st op dx dy = some b ∧ Q (.bl b) H
theorem flat_of {d : D} (hf : flatD d = true) (h : IsP γ H κ d v) : flatV v = true := by
  cases d <;> first | (simp only [IsP] at h; subst h; rfl) | cases hf
theorem eqV_of {a b : D} {x y : V} (fa : flatD a = true) (fb : flatD b = true) (ha : IsP γ H κ a x) (hb : IsP γ H κ b y) : eqV x y = eqd a b := by
  cases a <;> first
    | (simp only [IsP] at ha
       subst ha
       cases b <;> first
         | (simp only [IsP] at hb
            subst hb
            simp [eqV, eqd, ibeq, str_beq]; done)
         | (simp only [IsP] at hb
            subst hb
            rfl)
         | cases fb)
    | cases fa
theorem flats_of : ∀ {xs : List D} {vs : List V}, xs.all flatD = true → IsPs γ H κ xs vs → vs.all flatV = true
  | [], _, _, h => by simp only [IsPs] at h; subst h; rfl
  | d :: ds, _, hf, h => by
    rw [List.all_cons, Bool.and_eq_true] at hf
    simp only [IsPs] at h
    obtain ⟨v, r, rfl, h1, h2⟩ := h
    rw [List.all_cons, flat_of hf.1 h1, flats_of hf.2 h2]; rfl
theorem any_of {d : D} (fd : flatD d = true) (hd : IsP γ H κ d v) : ∀ {xs : List D} {vs : List V}, xs.all flatD = true → IsPs γ H κ xs vs → (vs.any fun z => eqV z v) = xs.any fun z => eqd z d
  | [], _, _, h => by simp only [IsPs] at h; subst h; rfl
  | e :: ds, _, hf, h => by
    rw [List.all_cons, Bool.and_eq_true] at hf
    simp only [IsPs] at h
    obtain ⟨w, r, rfl, h1, h2⟩ := h
    rw [List.any_cons, List.any_cons, eqV_of hf.1 fd h1 hd, any_of fd hd hf.2 h2]
theorem any_py (d : D) : ∀ xs : List D, ((toPys xs).any fun z => PyData.eqv z (toPy d)) = xs.any fun z => eqd z d
  | [] => by simp only [toPys, List.any_nil]
  | x :: xs => by
    simp only [toPys, List.any_cons]
    rw [eqv_py, any_py d xs]
theorem plain_id {n : Nat} {st : Store} (h : okd n d = true) : plain st d = d := by
  cases d <;> first | rfl | (cases n <;> (simp only [okd] at h; cases h))
theorem op_cmp (L : Lk γ X) {op : CmpOp} : OpR X (compareOp op) (rCmp γ op) := by
  intro pins s σ H x y v u Q I rx ry h
  obtain ⟨κ, st, dx, dy, b, so, hx, hy, e, q⟩ := h
  have eqs : ∀ {b' : Bool}, eqS st dx dy = some b' → ∃ a c : PyData, Dp X.K H x a ∧ Dp X.K H y c ∧ SeqAt.shaped a = true ∧ SeqAt.shaped c = true ∧ PyData.eqv a c = b' := fun {b'} e => by
    unfold eqS at e
    split at e
    · rename_i ho
      rw [Bool.and_eq_true] at ho
      refine ⟨_, _, ?_, ?_, shaped_of ho.1 (by decide), shaped_of ho.2 (by decide), ?_⟩
      · rw [L.K]; exact plain_dp so hx ho.1
      · rw [L.K]; exact plain_dp so hy ho.2
      · rw [eqv_py]; exact Option.some.inj e
    · cases e
  have inn : ∀ {b' : Bool}, inS st dx dy = some b' → ((∃ p xs, y = .ref p ∧ (SqL X.K H p xs ∨ SqT X.K H p xs) ∧ flatV x = true ∧ xs.all flatV = true ∧ inV x xs = b') ∨
      ∃ (a : PyData) (ds : List PyData), Dp X.K H x a ∧ Dp X.K H y (.list ds) ∧ SeqAt.shaped a = true ∧ SeqAt.shaped (.list ds) = true ∧ (ds.any fun z => PyData.eqv z a) = b') := fun {b'} e => by
    have lists : ∀ {ys : List D}, lstOf st dy = some ys → (if (okd 19 dx && okds 19 ys) = true then some (ys.any fun y => eqd y dx) else none) = some b' →
        ∃ (a : PyData) (ds : List PyData), Dp X.K H x a ∧ Dp X.K H y (.list ds) ∧ SeqAt.shaped a = true ∧ SeqAt.shaped (.list ds) = true ∧ (ds.any fun z => PyData.eqv z a) = b' := fun {ys} el e => by
      split at e
      · rename_i ho
        rw [Bool.and_eq_true] at ho
        obtain ⟨a, vs, rfl, h1, h2⟩ := lstOf_is so hy el
        have e1 : Dp γ.K H x (toPy dx) := by
          have := plain_dp (st := st) so hx (n := 19) (by rw [plain_id ho.1]; exact ho.1)
          rw [plain_id ho.1] at this
          exact this
        have e2 : okd 20 (.lst ys) = true := by rw [okd_lst]; exact ho.2
        refine ⟨toPy dx, toPys ys, by rw [L.K]; exact e1, by rw [L.K]; exact .lst (.inl (.inl h1)) (IsPs.dp _ _ ho.2 h2), shaped_of ho.1 (by decide), ?_, ?_⟩
        · have := shaped_of e2 (by decide)
          simp only [toPy] at this
          exact this
        · rw [any_py]; exact Option.some.inj e
      · cases e
    cases dy with
    | tup ys =>
      have e' : (if (flatD dx && ys.all flatD) = true then some (ys.any fun y => eqd y dx) else none) = some b' := e
      split at e'
      · rename_i ho
        rw [Bool.and_eq_true] at ho
        obtain ⟨a, vs, rfl, h1, h2⟩ := is_tup.mp hy
        have hx' : IsP γ H κ dx x := hx.toP (by cases dx <;> first | rfl | cases ho.1)
        refine .inl ⟨a, vs, rfl, .inr (by rw [L.K]; exact h1.sq), flat_of ho.1 hx', flats_of ho.2 h2, ?_⟩
        unfold inV
        rw [any_of ho.1 hx' ho.2 h2]
        exact Option.some.inj e'
      · cases e'
    | lst ys => exact .inr (lists (ys := ys) rfl e)
    | cell k => exact .inr (lists (ys := st.getD k []) rfl e)
    | dic _ _ => exact False.elim hy
    | _ => cases e
  cases op with
  | Eq =>
    obtain ⟨a, c, h1, h2, h3, h4, h5⟩ := eqs e
    exact op_eqD (Nat.lt_of_le_of_lt (Nat.le_succ _) L.hu) pins s σ H x y v u Q I rx ry ⟨a, c, h1, h2, h3, h4, by rw [h5]; exact q⟩
  | NotEq =>
    have e' : (eqS st dx dy).map (!·) = some b := e
    cases hq : eqS st dx dy with
    | none => rw [hq] at e'; cases e'
    | some b' =>
      rw [hq] at e'
      cases (show some (!b') = some b from e')
      obtain ⟨a, c, h1, h2, h3, h4, h5⟩ := eqs hq
      exact op_neD (Nat.lt_of_le_of_lt (Nat.le_succ _) L.hu) pins s σ H x y v u Q I rx ry ⟨a, c, h1, h2, h3, h4, by rw [h5]; exact q⟩
  | Lt =>
    have e' : ltS dx dy = some b := e
    cases dx <;> first | (cases dy <;> first | (cases (show some _ = some b from e'); exact op_lt pins s σ H x y v u Q I rx ry ⟨_, _, hx, hy, q⟩) | cases e') | cases e'
  | LtE =>
    have e' : leS dx dy = some b := e
    cases dx <;> first | (cases dy <;> first | (cases (show some _ = some b from e'); exact op_le pins s σ H x y v u Q I rx ry ⟨_, _, hx, hy, q⟩) | cases e') | cases e'
  | Gt =>
    have e' : ltS dy dx = some b := e
    cases dy <;> first | (cases dx <;> first | (cases (show some _ = some b from e'); exact op_gt pins s σ H x y v u Q I rx ry ⟨_, _, hx, hy, q⟩) | cases e') | cases e'
  | GtE =>
    have e' : leS dy dx = some b := e
    cases dy <;> first | (cases dx <;> first | (cases (show some _ = some b from e'); exact op_ge pins s σ H x y v u Q I rx ry ⟨_, _, hx, hy, q⟩) | cases e') | cases e'
  | Is =>
    have e' : isS dx dy = some b := e
    have isn : dy = .non → decide (x = .non) = b → wpAny (model X.prog X.w) X.A (compareOp .Is v u) (EP X pins σ Q) X.xe s := fun e1 e2 => by
      subst e1
      exact op_isN pins s σ H x y v u Q I rx ry ⟨hy, by rw [e2]; exact q⟩
    cases dx with
    | bl i =>
      cases dy with
      | bl j =>
        cases (show some (i == j) = some b from e')
        cases (show x = .bl i from hx)
        cases (show y = .bl j from hy)
        exact op_isBl pins s σ H _ _ v u Q I rx ry ⟨i, j, rfl, rfl, by rw [← Bool.beq_eq_decide_eq]; exact q⟩
      | non =>
        cases (show x = .bl i from hx)
        exact isn rfl (Option.some.inj e')
      | _ => cases e'
    | non =>
      cases dy with
      | non =>
        cases (show x = .non from hx)
        exact isn rfl (Option.some.inj e')
      | _ => cases e'
    | int i =>
      cases dy with
      | non =>
        cases (show x = .int i from hx)
        exact isn rfl (Option.some.inj e')
      | _ => cases e'
    | str i =>
      cases dy with
      | non =>
        cases (show x = .str ⟨i.toArray⟩ from hx)
        exact isn rfl (Option.some.inj e')
      | _ => cases e'
    | tup i =>
      cases dy with
      | non =>
        obtain ⟨a, vs, rfl, _⟩ := is_tup.mp hx
        exact isn rfl (Option.some.inj e')
      | _ => cases e'
    | lst i =>
      cases dy with
      | non =>
        obtain ⟨a, vs, rfl, _⟩ := is_lst.mp hx
        exact isn rfl (Option.some.inj e')
      | _ => cases e'
    | cell i =>
      cases dy with
      | non =>
        obtain ⟨a, _, rfl⟩ := hx
        exact isn rfl (Option.some.inj e')
      | _ => cases e'
    | _ => cases e'
  | IsNot =>
    have e' : (isS dx dy).map (!·) = some b := e
    cases hq : isS dx dy with
    | none => rw [hq] at e'; cases e'
    | some b' =>
    rw [hq] at e'
    have e2 : (!b') = b := Option.some.inj e'
    subst e2
    have isn : dy = .non → decide (x = .non) = b' → wpAny (model X.prog X.w) X.A (compareOp .IsNot v u) (EP X pins σ Q) X.xe s := fun e1 e2 => by
      subst e1
      exact op_notN pins s σ H x y v u Q I rx ry ⟨hy, by rw [e2]; exact q⟩
    cases dx with
    | bl i =>
      cases dy with
      | bl j =>
        cases (show some (i == j) = some b' from hq)
        cases (show x = .bl i from hx)
        cases (show y = .bl j from hy)
        exact op_notBl pins s σ H _ _ v u Q I rx ry ⟨i, j, rfl, rfl, by rw [← Bool.beq_eq_decide_eq]; exact q⟩
      | non =>
        cases (show x = .bl i from hx)
        exact isn rfl (Option.some.inj hq)
      | _ => cases hq
    | non =>
      cases dy with
      | non =>
        cases (show x = .non from hx)
        exact isn rfl (Option.some.inj hq)
      | _ => cases hq
    | int i =>
      cases dy with
      | non =>
        cases (show x = .int i from hx)
        exact isn rfl (Option.some.inj hq)
      | _ => cases hq
    | str i =>
      cases dy with
      | non =>
        cases (show x = .str ⟨i.toArray⟩ from hx)
        exact isn rfl (Option.some.inj hq)
      | _ => cases hq
    | tup i =>
      cases dy with
      | non =>
        obtain ⟨a, vs, rfl, _⟩ := is_tup.mp hx
        exact isn rfl (Option.some.inj hq)
      | _ => cases hq
    | lst i =>
      cases dy with
      | non =>
        obtain ⟨a, vs, rfl, _⟩ := is_lst.mp hx
        exact isn rfl (Option.some.inj hq)
      | _ => cases hq
    | cell i =>
      cases dy with
      | non =>
        obtain ⟨a, _, rfl⟩ := hx
        exact isn rfl (Option.some.inj hq)
      | _ => cases hq
    | _ => cases hq
  | In =>
    rcases inn e with ⟨p, xs, h1, h2, h3, h4, h5⟩ | ⟨a, ds, h1, h2, h3, h4, h5⟩
    · exact op_in_seq pins s σ H x y v u Q I rx ry ⟨p, xs, h1, h2, h3, h4, by rw [if_neg Bool.false_ne_true, h5]; exact q⟩
    · exact op_inD L.hu pins s σ H x y v u Q I rx ry ⟨a, ds, h1, h2, h3, h4, by rw [h5]; exact q⟩
  | NotIn =>
    have e' : (inS st dx dy).map (!·) = some b := e
    cases hq : inS st dx dy with
    | none => rw [hq] at e'; cases e'
    | some b' =>
      rw [hq] at e'
      cases (show some (!b') = some b from e')
      rcases inn hq with ⟨p, xs, h1, h2, h3, h4, h5⟩ | ⟨a, ds, h1, h2, h3, h4, h5⟩
      · exact op_notIn_seq pins s σ H x y v u Q I rx ry ⟨p, xs, h1, h2, h3, h4, by rw [if_pos rfl, h5]; exact q⟩
      · exact op_notInD L.hu pins s σ H x y v u Q I rx ry ⟨a, ds, h1, h2, h3, h4, by rw [h5]; exact q⟩
end
section
variable {γ : Wd} {H H1 H2 H' : Hp} {κ κ1 κ2 κ' : List Addr} {st st' : Store} {X : Cx} {x y v : V} {d dx dy : D}
theorem isEmpty_is {xs : List D} {vs : List V} (h : IsPs γ H κ xs vs) : vs.isEmpty = xs.isEmpty := by
  cases xs with
  | nil => simp only [IsPs] at h; subst h; rfl
  | cons d ds =>
    simp only [IsPs] at h
    obtain ⟨v, r, rfl, _⟩ := h
    rfl
theorem truth_is {b : Bool} (s : StOk γ H κ st) (h : Is γ H κ d v) (e : truth st d = some b) : TruV γ.K v H b := by
  cases d with
  | non => cases (show v = .non from h); exact (Option.some.inj e).symm
  | bl c => cases (show v = .bl c from h); exact (Option.some.inj e).symm
  | int i =>
    cases (show v = .int i from h)
    have e2 : decide (i ≠ 0) = b := Option.some.inj e
    show b = (i != 0)
    rw [← e2]
    by_cases q : i = 0
    · subst q; rfl
    · rw [decide_eq_true q]; exact (bne_iff_ne.mpr q).symm
  | tup xs =>
    obtain ⟨a, vs, rfl, h1, h2⟩ := is_tup.mp h
    exact .inr (.inl ⟨vs, h1.sq, by rw [isEmpty_is h2]; exact (Option.some.inj e).symm⟩)
  | lst xs =>
    obtain ⟨a, vs, rfl, h1, h2⟩ := lstOf_is (xs := xs) s h rfl
    exact .inl ⟨vs, .inl (.inl h1), by rw [isEmpty_is h2]; exact (Option.some.inj e).symm⟩
  | cell k =>
    obtain ⟨a, vs, rfl, h1, h2⟩ := lstOf_is (xs := st.getD k []) s h rfl
    exact .inl ⟨vs, .inl (.inl h1), by rw [isEmpty_is h2]; exact (Option.some.inj e).symm⟩
  | _ => cases e
theorem atD_eq {α : Type} (xs : List α) (i : Int) : atI xs i = atD xs i := by
  unfold atI atD ixN
  by_cases h : 0 ≤ i
  · rw [if_pos h, if_pos h]
    by_cases h2 : i < xs.length
    · rw [if_pos h2]; rfl
    · rw [if_neg h2]
      exact (List.getElem?_eq_none (by omega)).symm
  · rw [if_neg h, if_neg h]
    by_cases h2 : -(xs.length : Int) ≤ i
    · rw [if_pos h2, if_pos h2]; rfl
    · rw [if_neg h2, if_neg h2]; rfl
theorem atD_is {xs : List D} {vs : List V} {i : Int} (h : IsPs γ H κ xs vs) (e : atD xs i = some d) : ∃ v, atI vs i = some v ∧ IsP γ H κ d v := by
  rw [atD_eq]
  unfold atD at e ⊢
  rw [h.length]
  split at e
  · rename_i h0
    rw [if_pos h0]
    exact h.get e
  · rename_i h0
    rw [if_neg h0]
    split at e
    · rename_i h1
      rw [if_pos h1]
      exact h.get e
    · cases e
/-- a[i] -/
def rIdx (γ : Wd) : R2 := fun x y H Q => ∃ κ st dx dy d, StOk γ H κ st ∧ Is γ H κ dx x ∧ Is γ H κ dy y ∧ idxS st dx dy = some d ∧ ∀ v, Is γ H κ d v → Q v H
theorem ix_idx (L : Lk γ X) : IxR X (rIdx γ) := by
  intro value slice pins s σ H x y v u Q I rx ry h hs
  obtain ⟨κ, st, dx, dy, d, so, hx, hy, e, q⟩ := h
  refine ix_seq value slice pins s σ H x y v u Q I rx ry ?_ hs
  cases dx with
  | lst xs =>
    cases dy with
    | int i =>
      obtain ⟨a, vs, rfl, h1, h2⟩ := lstOf_is (xs := xs) so hx rfl
      obtain ⟨w, e1, h3⟩ := atD_is h2 (show atD xs i = some d from e)
      exact .inl ⟨a, vs, i, w, rfl, hy, .inl (.inl h1), e1, q w (.ofP h3)⟩
    | _ => cases e
  | cell k =>
    cases dy with
    | int i =>
      obtain ⟨a, vs, rfl, h1, h2⟩ := lstOf_is (xs := st.getD k []) so hx rfl
      obtain ⟨w, e1, h3⟩ := atD_is h2 (show atD (st.getD k []) i = some d from e)
      exact .inl ⟨a, vs, i, w, rfl, hy, .inl (.inl h1), e1, q w (.ofP h3)⟩
    | _ => cases e
  | tup xs =>
    cases dy with
    | int i =>
      obtain ⟨a, vs, rfl, h1, h2⟩ := is_tup.mp hx
      obtain ⟨w, e1, h3⟩ := atD_is h2 (show atD xs i = some d from e)
      exact .inr (.inl ⟨a, vs, i, w, rfl, hy, by rw [L.K]; exact h1.sq, e1, q w (.ofP h3)⟩)
    | _ => cases e
  | ro ns =>
    cases dy with
    | int i =>
      obtain ⟨a, rfl, h2⟩ := hx
      have e' : (atD ns i).map D.int = some d := e
      cases hn : atD ns i with
      | none => rw [hn] at e'; cases e'
      | some j =>
        rw [hn] at e'
        cases (show some (D.int j) = some d from e')
        refine .inl ⟨a, ns.map .int, i, .int j, rfl, hy, by rw [L.K]; exact h2.sq, ?_, q _ rfl⟩
        rw [atD_eq]
        unfold atD at hn ⊢
        simp only [List.length_map, List.getElem?_map]
        split at hn
        · rename_i h0; rw [if_pos h0, hn]; rfl
        · rename_i h0
          rw [if_neg h0]
          split at hn
          · rename_i h3; rw [if_pos h3, hn]; rfl
          · cases hn
    | _ => cases e
  | dic _ _ => exact False.elim hx
  | _ => cases e
theorem sIx_eq (n d : Nat) (o : Option Int) : HT.sIx n d o = sIx n d o := by cases o <;> rfl
theorem IsPs.drop : ∀ {xs : List D} {vs : List V} (n : Nat), IsPs γ H κ xs vs → IsPs γ H κ (xs.drop n) (vs.drop n)
  | _, _, 0, h => h
  | [], _, n + 1, h => by simp only [IsPs] at h; subst h; simp only [List.drop_nil, IsPs]
  | d :: ds, _, n + 1, h => by
    simp only [IsPs] at h
    obtain ⟨v, r, rfl, _, h2⟩ := h
    exact IsPs.drop n h2
theorem IsPs.take : ∀ {xs : List D} {vs : List V} (n : Nat), IsPs γ H κ xs vs → IsPs γ H κ (xs.take n) (vs.take n)
  | _, _, 0, h => by simp only [List.take_zero, IsPs]
  | [], _, n + 1, h => by simp only [IsPs] at h; subst h; simp only [List.take_nil, IsPs]
  | d :: ds, _, n + 1, h => by
    simp only [IsPs] at h
    obtain ⟨v, r, rfl, h1, h2⟩ := h
    simp only [List.take_succ_cons, IsPs]
    exact ⟨v, _, rfl, h1, IsPs.take n h2⟩
theorem cut_is {xs : List D} {vs : List V} (lo hi : Option Int) (h : IsPs γ H κ xs vs) : IsPs γ H κ (cut xs lo hi) (cutV vs lo hi) := by
  unfold cut cutV
  rw [h.length, sIx_eq, sIx_eq]
  exact (h.drop _).take _
def rSli (γ : Wd) : V → Option Int → Option Int → Hp → VK → Prop := fun x lo hi H Q => ∃ κ st dx d, StOk γ H κ st ∧ Is γ H κ dx x ∧ sliS st lo hi dx = some d ∧ ∀ κ' H' v, Ext κ H κ' H' → StOk γ H' κ' st → Is γ H' κ' d v → Q v H'
theorem sl_sli (L : Lk γ X) : SlR X (rSli γ) := by
  intro pins s σ H x v vl vu lo hi sl Q I rx hs pl pu h
  obtain ⟨κ, st, dx, d, so, hx, e, q⟩ := h
  have lists : ∀ {a : Addr} {xs : List D} {vs : List V}, x = .ref a → SqL γ.K H a vs → IsPs γ H κ xs vs → d = .lst (cut xs lo hi) → (rSlL X.K x lo hi H Q ∨ rSlA X.K x lo hi H Q) := fun {a xs vs} e1 h1 h2 e2 => by
    subst e1 e2
    exact .inl ⟨a, vs, rfl, by rw [L.K]; exact h1, fun p hp => q κ _ _ (Ext.new hp) (so.new hp) (new_lst so hp (cut_is lo hi h2))⟩
  refine (sl_list.or sl_tupA) pins s σ H x v vl vu lo hi sl Q I rx hs pl pu ?_
  cases dx with
  | lst xs =>
    obtain ⟨a, vs, e1, h1, h2⟩ := lstOf_is (xs := xs) so hx rfl
    exact lists e1 (SqL.of h1) h2 (Option.some.inj e).symm
  | cell k =>
    obtain ⟨a, vs, e1, h1, h2⟩ := lstOf_is (xs := st.getD k []) so hx rfl
    exact lists e1 (SqL.of h1) h2 (Option.some.inj e).symm
  | ro ns =>
    obtain ⟨a, e1, h2⟩ := hx
    exact lists e1 h2.sq (vals_ints ns) (Option.some.inj e).symm
  | tup xs =>
    cases (show some (D.tup (cut xs lo hi)) = some d from e)
    obtain ⟨a, vs, rfl, h1, h2⟩ := is_tup.mp hx
    refine .inr ⟨a, vs, rfl, by rw [L.K]; exact h1.sq, fun hw => ?_, fun _ p hp => q κ _ _ (Ext.new hp) (so.new hp) (new_tup so hp (cut_is lo hi h2))⟩
    rw [h2.length, sIx_eq, sIx_eq] at hw
    have e0 : cut xs lo hi = xs := by
      unfold cut
      rw [hw.1, hw.2, List.drop_zero, Nat.sub_zero, List.take_length]
    rw [e0] at q
    exact q κ H _ .refl so hx
  | _ => cases e
def rNeg (γ : Wd) : V → Hp → VK → Prop := fun x H Q => ∃ κ st dx d, StOk γ H κ st ∧ Is γ H κ dx x ∧ negS dx = some d ∧ ∀ v, Is γ H κ d v → Q v H
theorem un_negD : UnR X (unaryOp .USub) (rNeg γ) := by
  intro pins s σ H x v Q I rx h
  obtain ⟨κ, st, dx, d, so, hx, e, q⟩ := h
  cases dx with
  | int i =>
    cases (show some (D.int (-i)) = some d from e)
    exact un_neg pins s σ H x v Q I rx ⟨i, hx, q _ rfl⟩
  | _ => cases e
end
/-! ### set(xs) of a list of ints -/
abbrev oSet (w : World) : Obj := { cls := .type "set", dict := none, data := .set #[] 0 (.fresh 0 0 (!w.params.followText "set-order")) }
section
variable {P : Program} {w : World} {A : Around} {E : Value → Shared → Prop} {s : Shared}
/-- behind set.__init__: the set at S is that of ns, all that stood in h0 stands -/
def SetMade (w : World) (h0 : Heap) (S : Addr) (ns : List Int) (s0 : Shared) (u : Value) (s' : Shared) : Prop :=
  u = .none ∧ ∃ h1 t1 c, s' = { s0 with heap := h1, toks := t1 } ∧ SetR w h1 S (fun j => decide (j ∈ ns)) c ∧ c ≤ ns.length ∧ ∀ b o, h0.get? b = some o → h1.get? b = some o
theorem set_init_list {l : Addr} {its : Array Value} {ns : List Int} (hh : A.handled = none) (hl : s.heap.IsList l its) (hi : IntsAre its.toList ns) (hb : ns.length + 1 < scanBound) :
    codeAny (model P w) A (.call (.builtin "set.__init__") ⟨[.ref s.heap.objs.size, .ref l], []⟩) (wants (SetMade w s.heap s.heap.objs.size ns s) E) { s with heap := s.heap.push (oSet w) } := by
  have hz : its.size = ns.length := by
    have q := IntsAre.length hi
    rwa [Array.length_toList] at q
  have gS : (s.heap.push (oSet w)).get? s.heap.objs.size = some (oSet w) := Heap.get?_push_size _ rfl
  have tS : Shared.TypeIs { s with heap := s.heap.push (oSet w) } (.ref s.heap.objs.size) "set" := ⟨_, gS, rfl⟩
  refine codeAny_call_builtin F.called_set.init.plain F.entry_set_init (check_set_init_1 tS ?_)
  obtain ⟨⟨oc, od, odt, os⟩, go, hc, n, hd⟩ := hl
  simp only at hc hd
  subst hc hd
  have go1 : (s.heap.push (oSet w)).get? l = some ⟨.type "list", od, .seq its n, os⟩ := Heap.get?_push_of_some _ go
  have n1 := F.sub_list_set
  have n2 := F.sub_list_frozenset
  have n3 : (Value.type "list" == Value.type "dict") = false := by decide
  have il : (s.heap.push (oSet w)).IsList l its := ⟨_, go1, rfl, n, rfl⟩
  unfold Builtin.«set.__init__» noKeywords Builtin.Frozenset.updateFrom
  generalize eIt : pyIter = It
  wp_walk
  subst eIt
  refine wpAny_pyIter_list il (wpAny_bind (wpAny_runValue ?_))
  have lS : l < s.heap.objs.size := Heap.lt_size go
  have z1 : (s.heap.push (oSet w)).objs.size = s.heap.objs.size + 1 := Heap.size_push ..
  have nlI : l ≠ (s.heap.push (oSet w)).objs.size := by
    rw [z1]
    exact Nat.ne_of_lt (Nat.lt_succ_of_lt lS)
  have nSI : s.heap.objs.size ∉ [(s.heap.push (oSet w)).objs.size, l] := by
    rw [z1]
    intro hm
    rcases List.mem_cons.mp hm with e | e
    · exact absurd e (Nat.ne_of_lt (Nat.lt_succ_self _))
    · exact absurd (List.mem_singleton.mp e) (Nat.ne_of_gt lS)
  have vals : ∀ (i : Nat) (v : Value), its[i]? = some v → ∃ k t, ns[i]? = some k ∧ v = .int k t := fun i v hv => by
    have q : i < ns.length := by
      rw [← hz]
      exact (Array.getElem?_eq_some_iff.mp hv).1
    obtain ⟨t, e⟩ := IntsAre.int_at hi i v (by rw [Array.getElem?_toList]; exact hv)
    refine ⟨ns[i], t, List.getElem?_eq_getElem q, ?_⟩
    rw [e, List.getD_eq_getElem?_getD, List.getElem?_eq_getElem q] <;> rfl
  have hh3 : A.in1.in1.handled = none := by simp [hh]
  refine set_update_ints ((Walks.list hh3 _ l nlI its).toS) s.heap.objs.size nSI ns hz hb vals its.size 0 _ (by omega) (Nat.zero_le _) ?y ?z ?r
  case y => exact ⟨⟨_, Heap.get?_push_size _ rfl, rfl, rfl⟩, il.push _⟩
  case z => exact ⟨0, Nat.le_refl 0, setR_new_at (Heap.get?_push_of_some _ gS)⟩
  intro s1 c1 mv hc1 R1
  obtain ⟨h1, g1, d1, t1, o1⟩ := s1
  obtain rfl : g1 = s.gens := mv.gens
  obtain rfl : d1 = s.drawn := mv.drawn
  obtain rfl : o1 = s.os := mv.os
  show wpAny _ _ _ _ _ _
  refine wpAny_pure ?_
  show wpAny _ _ (ret Value.none) _ _ _
  refine wpAny_pure ⟨rfl, h1, t1, c1, rfl, R1, by omega, fun b o e => ?_⟩
  have hb0 : b < s.heap.objs.size := Heap.lt_size e
  refine mv.heap b o (fun hm => ?_) (Heap.get?_push_of_some _ (Heap.get?_push_of_some _ e))
  rcases List.mem_cons.mp hm with q | q
  · exact absurd q (Nat.ne_of_lt hb0)
  · have q := List.mem_singleton.mp q
    rw [z1] at q
    exact absurd q (Nat.ne_of_lt (Nat.lt_succ_of_lt hb0))
theorem call_set_ints {l : Addr} {its : Array Value} {ns : List Int} {Q : Value → Shared → Prop} (hh : A.handled = none) (hl : s.heap.IsList l its) (hi : IntsAre its.toList ns) (hb : ns.length + 1 < scanBound)
    (h : ∀ (h1 : Heap) (t1 c : Nat), SetR w h1 s.heap.objs.size (fun j => decide (j ∈ ns)) c → c ≤ ns.length → (∀ b o, s.heap.get? b = some o → h1.get? b = some o) → Q (.ref s.heap.objs.size) { s with heap := h1, toks := t1 }) :
    wpAny (model P w) A (PySem.call (.type "set") [.ref l]) Q E s := by
  obtain ⟨c0, c1, q1⟩ := F.called_set.mro
  have q2 := F.called_set.made
  have q3 := F.called_set.sub
  have q4 := F.called_set.notType
  have q5 := F.called_set.canCreate
  have q6 := F.typeCall_set_1 (.ref l)
  refine wpAny_call (codeAny_of_tree ?_)
  show wpAny _ _ (callAny (.type "set") _) _ _ _
  refine wpAny_pure ⟨Code.quiet_builtin _ (by decide +kernel), codeAny_builtin F.entry_type_call ?_⟩
  rw [Around.under_plain (weight_type_call_type "set" [.ref l] []) rfl]
  repeat (any_goals (first | assumption | wp_step))
  refine codeAny_mono (code_set_led1 (.ref l) (E := E) (Q₁ := fun u s1 => u = .ref s.heap.objs.size ∧ s1 = { s with heap := s.heap.push (oSet w) }) ⟨rfl, rfl⟩) fun r s1 hr => ?_
  cases r with
  | error e => exact hr
  | ok fl =>
    cases fl with
    | ret u =>
      obtain ⟨rfl, rfl⟩ := hr
      have gS : (s.heap.push (oSet w)).get? s.heap.objs.size = some (oSet w) := Heap.get?_push_size _ rfl
      have tS : Shared.TypeIs { s with heap := s.heap.push (oSet w) } (.ref s.heap.objs.size) "set" := ⟨_, gS, rfl⟩
      have q7 := F.called_set.init.lookup
      have q8 := F.called_set.init.bind (.ref s.heap.objs.size)
      repeat (any_goals (first | assumption | wp_step))
      refine codeAny_mono (set_init_list (P := P) (w := w) (E := E) (ns := ns) (by simp [hh]) hl hi hb) fun r2 s2 hr2 => ?_
      cases r2 with
      | error e => exact hr2
      | ok fl2 =>
        cases fl2 with
        | ret r =>
          obtain ⟨rfl, h1, t1, c, rfl, R1, hc, hk⟩ := hr2
          repeat (any_goals (first | assumption | wp_step))
          exact h _ _ _ R1 hc hk
        | _ => exact hr2.elim
    | _ => exact hr.elim
end
/-! ### built-ins -/
theorem mem_ins {x y : Int} : ∀ {l : List Int}, y ∈ ins x l ↔ y = x ∨ y ∈ l
  | [] => by simp [ins]
  | z :: zs => by
    unfold ins
    split
    · simp
    · simp only [List.mem_cons, mem_ins (l := zs)]
      constructor
      · rintro (h | h | h)
        · exact .inr (.inl h)
        · exact .inl h
        · exact .inr (.inr h)
      · rintro (h | h | h)
        · exact .inr (.inl h)
        · exact .inl h
        · exact .inr (.inr h)
theorem ins_pw {x : Int} : ∀ {l : List Int}, l.Pairwise (· ≤ ·) → (ins x l).Pairwise (· ≤ ·)
  | [], _ => by simp [ins]
  | z :: zs, h => by
    unfold ins
    rw [List.pairwise_cons] at h
    split
    · rename_i hx
      rw [List.pairwise_cons, List.pairwise_cons]
      refine ⟨fun a ha => ?_, h.1, h.2⟩
      rcases List.mem_cons.mp ha with e | e
      · rw [e]; exact hx
      · exact Int.le_trans hx (h.1 a e)
    · rename_i hx
      rw [List.pairwise_cons]
      refine ⟨fun a ha => ?_, ins_pw h.2⟩
      rcases mem_ins.mp ha with e | e
      · rw [e]; omega
      · exact h.1 a e
theorem srt_pw : ∀ l : List Int, (srt l).Pairwise (· ≤ ·)
  | [] => List.Pairwise.nil
  | _ :: l => ins_pw (srt_pw l)
theorem ins_perm (x : Int) : ∀ l : List Int, (ins x l).Perm (x :: l)
  | [] => .refl _
  | z :: zs => by
    unfold ins
    split
    · exact .refl _
    · exact ((ins_perm x zs).cons z).trans (.swap x z zs)
theorem srt_perm : ∀ l : List Int, (srt l).Perm l
  | [] => .refl _
  | x :: l => (ins_perm x (srt l)).trans ((srt_perm l).cons x)
theorem srt_uniq {a ns : List Int} (hp : a.Perm ns) (hs : a.Pairwise (· ≤ ·)) : a = srt ns :=
  PySem.W.ksm_same (hp.trans (srt_perm ns).symm) hs (srt_pw ns)
theorem mem_insU {x y : Int} : ∀ {l : List Int}, y ∈ insU x l ↔ y = x ∨ y ∈ l
  | [] => by simp [insU]
  | z :: zs => by
    unfold insU
    split
    · simp
    · split
      · rename_i h
        subst h
        simp
      · simp only [List.mem_cons, mem_insU (l := zs)]
        constructor
        · rintro (h | h | h)
          · exact .inr (.inl h)
          · exact .inl h
          · exact .inr (.inr h)
        · rintro (h | h | h)
          · exact .inr (.inl h)
          · exact .inl h
          · exact .inr (.inr h)
theorem insU_pw {x : Int} : ∀ {l : List Int}, l.Pairwise (· < ·) → (insU x l).Pairwise (· < ·)
  | [], _ => by simp [insU]
  | z :: zs, h => by
    have h' := h
    unfold insU
    rw [List.pairwise_cons] at h
    split
    · rename_i hx
      rw [List.pairwise_cons]
      refine ⟨fun a ha => ?_, h'⟩
      rcases List.mem_cons.mp ha with e | e
      · rw [e]; exact hx
      · exact Int.lt_trans hx (h.1 a e)
    · split
      · exact h'
      · rw [List.pairwise_cons]
        refine ⟨fun a ha => ?_, insU_pw h.2⟩
        rcases mem_insU.mp ha with e | e
        · rw [e]; omega
        · exact h.1 a e
theorem srtU_pw : ∀ l : List Int, (srtU l).Pairwise (· < ·)
  | [] => List.Pairwise.nil
  | _ :: l => insU_pw (srtU_pw l)
theorem mem_srtU {y : Int} : ∀ {l : List Int}, y ∈ srtU l ↔ y ∈ l
  | [] => Iff.rfl
  | x :: l => by
    show y ∈ insU x (srtU l) ↔ _
    rw [mem_insU, mem_srtU (l := l), List.mem_cons]
theorem pw_uniq : ∀ {a b : List Int}, a.Pairwise (· < ·) → b.Pairwise (· < ·) → (∀ y, y ∈ a ↔ y ∈ b) → a = b
  | [], [], _, _, _ => rfl
  | [], y :: ys, _, _, h => absurd ((h y).mpr List.mem_cons_self) List.not_mem_nil
  | x :: xs, [], _, _, h => absurd ((h x).mp List.mem_cons_self) List.not_mem_nil
  | x :: xs, y :: ys, ha, hb, h => by
    rw [List.pairwise_cons] at ha hb
    have e : x = y := by
      have h1 := (h x).mp List.mem_cons_self
      have h2 := (h y).mpr List.mem_cons_self
      rcases List.mem_cons.mp h1 with e | e
      · exact e
      · rcases List.mem_cons.mp h2 with e2 | e2
        · exact e2.symm
        · have := hb.1 x e
          have := ha.1 y e2
          omega
    subst e
    congr 1
    refine pw_uniq ha.2 hb.2 fun z => ?_
    constructor
    · intro hz
      rcases List.mem_cons.mp ((h z).mp (List.mem_cons_of_mem _ hz)) with e | e
      · have := ha.1 z hz
        omega
      · exact e
    · intro hz
      rcases List.mem_cons.mp ((h z).mpr (List.mem_cons_of_mem _ hz)) with e | e
      · have := hb.1 z hz
        omega
      · exact e
theorem foldl_max : ∀ (ns : List Int) (n : Int), ns.foldl max n ∈ n :: ns ∧ ∀ y ∈ n :: ns, y ≤ ns.foldl max n
  | [], n => ⟨List.mem_cons_self, fun y hy => by rw [List.mem_singleton.mp hy]; exact Int.le_refl _⟩
  | m :: ns, n => by
    have ⟨h1, h2⟩ := foldl_max ns (max n m)
    have h3 := h2 (max n m) List.mem_cons_self
    rw [List.foldl_cons]
    refine ⟨?_, fun y hy => ?_⟩
    · rcases List.mem_cons.mp h1 with e | e
      · rw [e]
        rcases Int.le_total n m with q | q
        · rw [Int.max_eq_right q]; exact List.mem_cons_of_mem _ List.mem_cons_self
        · rw [Int.max_eq_left q]; exact List.mem_cons_self
      · exact List.mem_cons_of_mem _ (List.mem_cons_of_mem _ e)
    · rcases List.mem_cons.mp hy with e | e
      · subst e; exact Int.le_trans (Int.le_max_left ..) h3
      · rcases List.mem_cons.mp e with e | e
        · subst e; exact Int.le_trans (Int.le_max_right ..) h3
        · exact h2 y (List.mem_cons_of_mem _ e)
def maxL (st : Store) (a : D) : Option D := (lstOf st a).bind fun xs => (intsOf xs).bind fun ns => match ns with
  | [] => none
  | n :: ns => some (.int (ns.foldl max n))
def srtL (st : Store) (a : D) : Option D := (lstOf st a).bind fun xs => (intsOf xs).map fun ns => D.lst ((srt ns).map .int)
theorem bi_max_inv {st : Store} {d : D} : ∀ {ds : List D}, biS st .max ds = some d → (∃ i j, ds = [.int i, .int j] ∧ d = .int (max i j)) ∨ ∃ a, ds = [a] ∧ maxL st a = some d
  | [], e => by cases e
  | [a], e => .inr ⟨a, rfl, by
    simp only [biS] at e
    exact e⟩
  | [a, b], e => by
    cases a <;> cases b <;> first
      | exact .inl ⟨_, _, rfl, (Option.some.inj (show some (D.int (max _ _)) = some d from e)).symm⟩
      | cases e
  | a :: b :: c :: _, e => by cases a <;> cases b <;> cases c <;> cases e
theorem bi_tuple_inv {st : Store} {d : D} : ∀ {ds : List D}, biS st .tuple ds = some d → (∃ xs, ds = [.tup xs] ∧ d = .tup xs) ∨ ∃ a, ds = [a] ∧ (lstOf st a).map .tup = some d
  | [], e => by cases e
  | [a], e => by
    cases a <;> first
      | exact .inl ⟨_, rfl, (Option.some.inj (show some (D.tup _) = some d from e)).symm⟩
      | exact .inr ⟨_, rfl, e⟩
  | a :: b :: _, e => by cases a <;> cases b <;> cases e
theorem bi_sorted_inv {st : Store} {d : D} : ∀ {ds : List D}, biS st .sorted ds = some d → (∃ ks, ds = [.set ks] ∧ (if ks.length < 64 then some (D.lst (ks.map .int)) else none) = some d) ∨
    (∃ ks, ds = [.dks ks] ∧ (if ks.length < 64 then some (D.lst ((srt ks).map .int)) else none) = some d) ∨ ∃ a, ds = [a] ∧ srtL st a = some d
  | [], e => by cases e
  | [a], e => by
    cases a <;> first
      | exact .inl ⟨_, rfl, e⟩
      | exact .inr (.inl ⟨_, rfl, e⟩)
      | exact .inr (.inr ⟨_, rfl, e⟩)
  | a :: b :: _, e => by cases a <;> cases b <;> cases e
section
variable {γ : Wd} {H H1 H2 H' : Hp} {κ κ1 κ2 κ' : List Addr} {st st' : Store} {X : Cx} {x y v : V} {d dx dy : D}
def rBi (γ : Wd) (b : Bi) : List V → Hp → VK → Prop := fun xs H Q => ∃ κ st ds d, StOk γ H κ st ∧ Iss γ H κ ds xs ∧ biS st b ds = some d ∧
  ∀ κ' H' v, Ext κ H κ' H' → StOk γ H' κ' st → Is γ H' κ' d v → Q v H'
theorem iss_one {ds : D} {xs : List V} (h : Iss γ H κ [d] xs) : ∃ v, xs = [v] ∧ Is γ H κ d v := by
  obtain ⟨v, r, rfl, h1, h2⟩ := h
  cases (show r = [] from h2)
  exact ⟨v, rfl, h1⟩
theorem seqOf_is {xs : List D} (s : StOk γ H κ st) (h : Is γ H κ d x) (e : seqOf st d = some xs) : ∃ a vs, x = .ref a ∧ (SqL γ.K H a vs ∨ SqT γ.K H a vs) ∧ IsPs γ H κ xs vs := by
  cases d with
  | lst ys =>
    obtain ⟨a, vs, h1, h2, h3⟩ := lstOf_is s h e
    exact ⟨a, vs, h1, .inl (.inl (.inl h2)), h3⟩
  | cell ys =>
    obtain ⟨a, vs, h1, h2, h3⟩ := lstOf_is s h e
    exact ⟨a, vs, h1, .inl (.inl (.inl h2)), h3⟩
  | tup ys =>
    cases (show some ys = some xs from e)
    obtain ⟨a, vs, h1, h2, h3⟩ := is_tup.mp h
    exact ⟨a, vs, h1, .inr h2.sq, h3⟩
  | ro ns =>
    cases (show some (ns.map D.int) = some xs from e)
    obtain ⟨a, h1, h3⟩ := h
    exact ⟨a, _, h1, .inl h3.sq, vals_ints ns⟩
  | _ => cases e
theorem bi_len1 {ds : List D} (e : biS st .len ds = some d) : ∃ a xs, ds = [a] ∧ seqOf st a = some xs ∧ d = .int xs.length := by
  match ds, e with
  | [], e => cases e
  | [a], e =>
    have e' : (seqOf st a).map (fun xs => D.int xs.length) = some d := e
    cases hs : seqOf st a with
    | none => rw [hs] at e'; cases e'
    | some xs =>
      rw [hs] at e'
      exact ⟨a, xs, rfl, hs, (Option.some.inj e').symm⟩
  | _ :: _ :: _, e => cases e
theorem cr_len (L : Lk γ X) : CallR X (.builtin "len") (rBi γ .len) := by
  intro pins s σ H xs us Q I r h
  obtain ⟨κ, st, ds, d, so, hx, e, q⟩ := h
  obtain ⟨a, ys, rfl, e1, rfl⟩ := bi_len1 e
  obtain ⟨v, rfl, hv⟩ := iss_one (ds := a) hx
  obtain ⟨p, vs, rfl, h1, h2⟩ := seqOf_is so hv e1
  refine call_len_seq pins s σ H _ us Q I r ⟨p, vs, rfl, by rw [L.K]; exact h1, ?_⟩
  rw [h2.length]
  exact q κ H _ .refl so rfl
theorem cr_abs : CallR X (.builtin "abs") (rBi γ .abs) := by
  intro pins s σ H xs us Q I r h
  obtain ⟨κ, st, ds, d, so, hx, e, q⟩ := h
  match ds, e with
  | [.int i], e =>
    cases (show some (D.int (i.natAbs : Int)) = some d from e)
    obtain ⟨v, rfl, hv⟩ := iss_one (ds := .int i) hx
    refine call_abs pins s σ H _ us Q I r ⟨i, by rw [hv], ?_⟩
    have e1 : (if i < 0 then -i else i) = (i.natAbs : Int) := by split <;> omega
    rw [e1]
    exact q κ H _ .refl so rfl
theorem cr_int : CallR X (.type "int") (rBi γ .int) := by
  intro pins s σ H xs us Q I r h
  obtain ⟨κ, st, ds, d, so, hx, e, q⟩ := h
  match ds, e with
  | [.int i], e =>
    cases (show some (D.int i) = some d from e)
    obtain ⟨v, rfl, hv⟩ := iss_one (ds := .int i) hx
    exact call_int1 pins s σ H _ us Q I r (.inl ⟨i, by rw [hv], q κ H _ .refl so rfl⟩)
  | [.bl i], e =>
    cases (show some (D.int (if i then 1 else 0)) = some d from e)
    obtain ⟨v, rfl, hv⟩ := iss_one (ds := .bl i) hx
    exact call_int1 pins s σ H _ us Q I r (.inr ⟨i, by rw [hv], q κ H _ .refl so rfl⟩)
theorem iss_two {a b : D} {xs : List V} (h : Iss γ H κ [a, b] xs) : ∃ v w, xs = [v, w] ∧ Is γ H κ a v ∧ Is γ H κ b w := by
  obtain ⟨v, r, rfl, h1, h2⟩ := h
  obtain ⟨w, rfl, h3⟩ := iss_one (ds := b) h2
  exact ⟨v, w, rfl, h1, h3⟩
theorem iss_three {a b c : D} {xs : List V} (h : Iss γ H κ [a, b, c] xs) : ∃ u v w, xs = [u, v, w] ∧ Is γ H κ a u ∧ Is γ H κ b v ∧ Is γ H κ c w := by
  obtain ⟨v, r, rfl, h1, h2⟩ := h
  obtain ⟨u, w, rfl, h3, h4⟩ := iss_two h2
  exact ⟨v, u, w, rfl, h1, h3, h4⟩
theorem cr_minD (hc : X.calm = true) : CallR X (.builtin "min") (rBi γ .min) := by
  intro pins s σ H xs us Q I r h
  obtain ⟨κ, st, ds, d, so, hx, e, q⟩ := h
  match ds, e with
  | [.int i, .int j], e =>
    cases (show some (D.int (min i j)) = some d from e)
    obtain ⟨v, w, rfl, hv, hw⟩ := iss_two hx
    refine call_min2 hc pins s σ H _ us Q I r ⟨i, j, by rw [hv, hw], ?_⟩
    have e1 : (if j < i then j else i) = min i j := by
      split <;> omega
    rw [e1]
    exact q κ H _ .refl so rfl
  | [.int i, .int j, .int k], e =>
    cases (show some (D.int (min i (min j k))) = some d from e)
    obtain ⟨u, v, w, rfl, hu, hv, hw⟩ := iss_three hx
    cases (show u = .int i from hu)
    cases (show v = .int j from hv)
    cases (show w = .int k from hw)
    cases r with
    | cons r1 r =>
      cases r with
      | cons r2 r =>
        cases r with
        | cons r3 r =>
          cases r
          obtain ⟨t1, rfl⟩ := r1
          obtain ⟨t2, rfl⟩ := r2
          obtain ⟨t3, rfl⟩ := r3
          refine min_three_ints (I.ok.hd hc) fun h' tk hk => ⟨.int (min i (min j k)), H, I.kept hk, ?_, q κ H _ .refl so rfl⟩
          split <;> split
          · exact ⟨t3, by congr 1; omega⟩
          · exact ⟨t2, by congr 1; omega⟩
          · exact ⟨t3, by congr 1; omega⟩
          · exact ⟨t1, by congr 1; omega⟩
theorem cr_maxD (hc : X.calm = true) : CallR X (.builtin "max") (rBi γ .max) := by
  intro pins s σ H xs us Q I r h
  obtain ⟨κ, st, ds, d, so, hx, e, q⟩ := h
  rcases bi_max_inv e with ⟨i, j, rfl, rfl⟩ | ⟨a, rfl, e1⟩
  · obtain ⟨v, w, rfl, hv, hw⟩ := iss_two hx
    refine call_max2 hc pins s σ H _ us Q I r ⟨i, j, by rw [hv, hw], ?_⟩
    have e1 : (if j > i then j else i) = max i j := by
      split <;> omega
    rw [e1]
    exact q κ H _ .refl so rfl
  · obtain ⟨v, rfl, hv⟩ := iss_one (ds := a) hx
    unfold maxL at e1
    cases hl : lstOf st a with
    | none => rw [hl] at e1; cases e1
    | some ys =>
      rw [hl, Option.bind_some] at e1
      cases hn : intsOf ys with
      | none => rw [hn] at e1; cases e1
      | some ns =>
        rw [hn, Option.bind_some] at e1
        obtain ⟨p, vs, rfl, h1, h2⟩ := lstOf_is so hv hl
        have e3 := intsOf_eq hn
        subst e3
        have e4 := ints_vals h2
        subst e4
        cases ns with
        | nil => cases e1
        | cons n ns =>
          cases (show some (D.int (ns.foldl max n)) = some d from e1)
          refine cr_max hc pins s σ H _ us Q I r ⟨p, n :: ns, rfl, .inl (.inl h1), Nat.succ_pos _, fun m hm hb => ?_⟩
          have ⟨g1, g2⟩ := foldl_max ns n
          have e5 : m = ns.foldl max n := Int.le_antisymm (g2 m hm) (hb _ g1)
          rw [e5]
          exact q κ H _ .refl so rfl
theorem cr_sumD (hc : X.calm = true) : CallR X (.builtin "sum") (rBi γ .sum) := by
  intro pins s σ H xs us Q I r h
  obtain ⟨κ, st, ds, d, so, hx, e, q⟩ := h
  match ds, e with
  | [a], e =>
    obtain ⟨v, rfl, hv⟩ := iss_one (ds := a) hx
    have e' : ((lstOf st a).bind fun xs => (intsOf xs).map fun ns => D.int ns.sum) = some d := e
    cases hl : lstOf st a with
    | none => rw [hl] at e'; cases e'
    | some ys =>
      rw [hl] at e'
      have e2 : ((intsOf ys).map fun ns => D.int ns.sum) = some d := e'
      cases hn : intsOf ys with
      | none => rw [hn] at e2; cases e2
      | some ns =>
        rw [hn] at e2
        cases (show some (D.int ns.sum) = some d from e2)
        obtain ⟨p, vs, rfl, h1, h2⟩ := lstOf_is so hv hl
        have e3 := intsOf_eq hn
        subst e3
        have e4 := ints_vals h2
        subst e4
        exact cr_sum hc pins s σ H _ us Q I r ⟨p, ns, rfl, .inl (.inl h1), q κ H _ .refl so rfl⟩
def blsF (st : Store) (f : List Bool → Bool) : List D → Option D
  | [a] => (lstOf st a).bind fun xs => (blsOf xs).map fun bs => D.bl (f bs)
  | _ => none
theorem bls_of {ds : List D} {f : List Bool → Bool} (e : blsF st f ds = some d) {xs : List V} (so : StOk γ H κ st) (hx : Iss γ H κ ds xs) :
    ∃ p bs, xs = [.ref p] ∧ H p = some (.lst (bs.map V.bl)) ∧ d = .bl (f bs) := by
  match ds, e with
  | [a], e =>
    obtain ⟨v, rfl, hv⟩ := iss_one (ds := a) hx
    have e' : ((lstOf st a).bind fun xs => (blsOf xs).map fun bs => D.bl (f bs)) = some d := e
    cases hl : lstOf st a with
    | none => rw [hl] at e'; cases e'
    | some ys =>
      rw [hl] at e'
      have e2 : ((blsOf ys).map fun bs => D.bl (f bs)) = some d := e'
      cases hn : blsOf ys with
      | none => rw [hn] at e2; cases e2
      | some bs =>
        rw [hn] at e2
        obtain ⟨p, vs, rfl, h1, h2⟩ := lstOf_is so hv hl
        have e3 := blsOf_eq hn
        subst e3
        have e4 := bls_vals h2
        subst e4
        exact ⟨p, bs, rfl, h1, (Option.some.inj e2).symm⟩
theorem cr_allD (hc : X.calm = true) : CallR X (.builtin "all") (rBi γ .all) := by
  intro pins s σ H xs us Q I r h
  obtain ⟨κ, st, ds, d, so, hx, e, q⟩ := h
  have e' : blsF st (fun bs => bs.all id) ds = some d := by
    match ds, e with
    | [a], e => exact e
  obtain ⟨p, bs, rfl, h1, rfl⟩ := bls_of e' so hx
  exact cr_all hc pins s σ H _ us Q I r ⟨p, bs, rfl, .inl (.inl h1), q κ H _ .refl so rfl⟩
theorem cr_anyD (hc : X.calm = true) : CallR X (.builtin "any") (rBi γ .any) := by
  intro pins s σ H xs us Q I r h
  obtain ⟨κ, st, ds, d, so, hx, e, q⟩ := h
  have e' : blsF st (fun bs => bs.any id) ds = some d := by
    match ds, e with
    | [a], e => exact e
  obtain ⟨p, bs, rfl, h1, rfl⟩ := bls_of e' so hx
  exact cr_any hc pins s σ H _ us Q I r ⟨p, bs, rfl, .inl (.inl h1), q κ H _ .refl so rfl⟩
theorem cr_tuple (L : Lk γ X) : CallR X (.type "tuple") (rBi γ .tuple) := by
  intro pins s σ H xs us Q I r h
  obtain ⟨κ, st, ds, d, so, hx, e, q⟩ := h
  rcases bi_tuple_inv e with ⟨ys, rfl, rfl⟩ | ⟨a, rfl, e1⟩
  · obtain ⟨v, rfl, hv⟩ := iss_one (ds := .tup ys) hx
    obtain ⟨p, vs, rfl, h1, h2⟩ := is_tup.mp hv
    exact call_tuple_of pins s σ H _ us Q I r ⟨p, vs, rfl, .inr ⟨by rw [L.K]; exact h1.sq, q κ H _ .refl so hv⟩⟩
  · obtain ⟨v, rfl, hv⟩ := iss_one (ds := a) hx
    cases hl : lstOf st a with
    | none => rw [hl] at e1; cases e1
    | some ys =>
      rw [hl] at e1
      cases (show some (D.tup ys) = some d from e1)
      obtain ⟨p, vs, rfl, h1, h2⟩ := lstOf_is so hv hl
      exact call_tuple_of pins s σ H _ us Q I r ⟨p, vs, rfl, .inl ⟨.inl (.inl h1), fun l hl => q κ _ _ (Ext.new hl) (so.new hl) (new_tup so hl h2)⟩⟩
theorem cr_sortedD (hc : X.calm = true) (L : Lk γ X) : CallR X (.builtin "sorted") (rBi γ .sorted) := by
  intro pins s σ H xs us Q I r h
  obtain ⟨κ, st, ds, d, so, hx, e, q⟩ := h
  have new : ∀ (ns : List Int), (∀ κ' H' v, Ext κ H κ' H' → StOk γ H' κ' st → Is γ H' κ' (.lst (ns.map .int)) v → Q v H') → ∀ (p : Addr), H p = none → Q (.ref p) (upd H p (.lst (ns.map V.int))) := fun ns k p hp =>
    k κ _ _ (Ext.new hp) (so.new hp) (new_lst so hp (vals_ints ns))
  rcases bi_sorted_inv e with ⟨ks, rfl, e'⟩ | ⟨ks, rfl, e'⟩ | ⟨a, rfl, e1⟩
  · obtain ⟨v, rfl, hv⟩ := iss_one (ds := .set ks) hx
    split at e'
    · cases e'
      obtain ⟨a, n, rfl, h1, h2, h3, h4⟩ := hv
      refine cr_sortedSet hc pins s σ H _ us Q I r ⟨a, _, n, rfl, by rw [L.w]; exact h2, h3, fun ns p g1 g2 _ hn => ?_⟩
      have e5 : ns = ks := pw_uniq g1 h4 fun y => (g2 y).trans decide_eq_true_iff
      subst e5
      exact new _ q p hn
    · cases e'
  · obtain ⟨v, rfl, hv⟩ := iss_one (ds := .dks ks) hx
    split at e'
    · rename_i h64
      cases e'
      obtain ⟨a, kvs, rfl, h1, h2, h3⟩ := hv
      refine call_sortedDI hc pins s σ H _ us Q I r ⟨a, kvs, ks, rfl, .inl h2, h3, h64, fun ys p hp hs hn => ?_⟩
      rw [srt_uniq hp hs]
      exact new _ q p hn
    · cases e'
  · obtain ⟨v, rfl, hv⟩ := iss_one (ds := a) hx
    unfold srtL at e1
    cases hl : lstOf st a with
    | none => rw [hl] at e1; cases e1
    | some ys =>
      rw [hl, Option.bind_some] at e1
      cases hn : intsOf ys with
      | none => rw [hn] at e1; cases e1
      | some ns =>
        rw [hn] at e1
        cases (show some (D.lst ((srt ns).map D.int)) = some d from e1)
        obtain ⟨p, vs, rfl, h1, h2⟩ := lstOf_is so hv hl
        have e3 := intsOf_eq hn
        subst e3
        have e4 := ints_vals h2
        subst e4
        refine cr_sortedI pins s σ H _ us Q I r ⟨p, ns, rfl, .inl (.inl h1), fun ns' p' hp hs hn' => ?_⟩
        rw [srt_uniq hp hs]
        exact new _ q p' hn'
theorem cr_set (hc : X.calm = true) (L : Lk γ X) : CallR X (.type "set") (rBi γ .set) := by
  intro pins s σ H xs us Q I r h
  obtain ⟨κ, st, ds, d, so, hx, e, q⟩ := h
  match ds, e with
  | [a], e =>
    obtain ⟨v, rfl, hv⟩ := iss_one (ds := a) hx
    have e' : ((lstOf st a).bind fun xs => if xs.length < 64 then (intsOf xs).map fun ns => D.set (srtU ns) else none) = some d := e
    cases hl : lstOf st a with
    | none => rw [hl] at e'; cases e'
    | some ys =>
      rw [hl] at e'
      have e2 : (if ys.length < 64 then (intsOf ys).map fun ns => D.set (srtU ns) else none) = some d := e'
      split at e2
      · rename_i h64
        cases hn : intsOf ys with
        | none => rw [hn] at e2; cases e2
        | some ns =>
          rw [hn] at e2
          cases (show some (D.set (srtU ns)) = some d from e2)
          obtain ⟨p, vs, rfl, h1, h2⟩ := lstOf_is so hv hl
          have e3 := intsOf_eq hn
          subst e3
          have e4 := ints_vals h2
          subst e4
          rw [List.length_map] at h64
          rw [Vals.ref1 r]
          obtain ⟨its, rv, pl, hz⟩ := I.list (.inl (.inl h1))
          refine call_set_ints (ns := ns) (I.ok.hd hc) pl.isList (by simpa using Vals.ints rv) (by unfold scanBound; omega) fun h1' t1 c R1 hc1 hk => ?_
          have hp : H s.heap.objs.size = none := I.hok.fresh (Nat.le_refl _)
          have R2 : SetR X.w h1' s.heap.objs.size (fun i => decide (i ∈ srtU ns)) c := R1.congr fun k => by
            rw [Bool.eq_iff_iff, decide_eq_true_iff, decide_eq_true_iff]
            exact mem_srtU
          refine ⟨.ref s.heap.objs.size, upd H s.heap.objs.size (SetO X.w s.heap.objs.size (fun i => decide (i ∈ srtU ns)) c), I.laid hk (Nat.le_refl _) (setO_new R2), rfl, ?_⟩
          refine q κ _ _ (Ext.new hp) (so.new hp) ⟨_, c, rfl, so.fresh hp, by rw [← L.w]; exact upd_same, by omega, srtU_pw ns⟩
      · cases e2
theorem keys_put (kvs : List (Key × V)) (k : Int) (v : V) (ks : List Int) (h : kvs.map (·.1) = ks.map Sum.inl) : (putK kvs (.inl k) v).map (·.1) = (if ks.contains k then ks else ks ++ [k]).map Sum.inl := by
  have hc : (kvs.any fun kv => decide (kv.1 = Sum.inl k)) = ks.contains k := by
    have e1 : (kvs.any fun kv => decide (kv.1 = Sum.inl k)) = (kvs.map (·.1)).any fun z => decide (z = Sum.inl k) := by rw [List.any_map]; rfl
    rw [e1, h, List.any_map]
    induction ks generalizing kvs with
    | nil => rfl
    | cons x xs _ =>
      rw [Bool.eq_iff_iff, List.any_eq_true, List.contains_iff_mem]
      constructor
      · rintro ⟨z, hz, e⟩
        have e2 := of_decide_eq_true e
        rw [← Sum.inl.inj e2]; exact hz
      · intro hz
        exact ⟨k, hz, decide_eq_true rfl⟩
  unfold putK
  rw [hc]
  split
  · rw [List.map_map]
    rw [← h]
    refine List.map_congr_left fun kv _ => ?_
    show (if kv.1 = Sum.inl k then (kv.1, v) else kv).1 = kv.1
    split <;> rfl
  · rw [List.map_append, h, List.map_append]; rfl
theorem keys_merge : ∀ (more kvs : List (Key × V)) (ns ks : List Int), more.map (·.1) = ns.map Sum.inl → kvs.map (·.1) = ks.map Sum.inl →
    (mergeK kvs more).map (·.1) = (ns.foldl (fun acc n => if acc.contains n then acc else acc ++ [n]) ks).map Sum.inl
  | [], kvs, [], ks, _, h => h
  | [], _, _ :: _, _, h, _ => by cases h
  | _ :: _, _, [], _, h, _ => by cases h
  | (k, v) :: more, kvs, n :: ns, ks, h1, h2 => by
    rw [List.map_cons, List.map_cons] at h1
    injection h1 with h3 h4
    have h3 : k = Sum.inl n := h3
    subst h3
    show (mergeK (putK kvs (.inl n) v) more).map (·.1) = _
    rw [List.foldl_cons]
    exact keys_merge more _ ns _ h4 (keys_put kvs n v ks h2)
theorem pairsOf_eq : ∀ {xs : List D} {vs : List V} {ns : List Int}, pairsOf xs = some ns → IsPs γ H κ xs vs →
    ∃ (ps : List Addr) (kvs : List (Key × V)), vs = ps.map V.ref ∧ Paired (fun p kv => SqT γ.K H p [kV kv.1, kv.2]) ps kvs ∧ kvs.map (·.1) = ns.map Sum.inl
  | [], vs, ns, e, h => by
    cases (show some [] = some ns from e)
    simp only [IsPs] at h
    subst h
    exact ⟨[], [], rfl, .nil, rfl⟩
  | x :: xs, vs, ns, e, h => by
    match x, e with
    | .tup [.int i, .int j], e =>
      simp only [pairsOf] at e
      simp only [IsPs] at h
      obtain ⟨v, r, rfl, h1, h2⟩ := h
      cases hn : pairsOf xs with
      | none => rw [hn] at e; cases e
      | some ms =>
        rw [hn] at e
        cases (show some (i :: ms) = some ns from e)
        obtain ⟨ps, kvs, rfl, g1, g2⟩ := pairsOf_eq hn h2
        simp only [IsP] at h1
        obtain ⟨a, ws, rfl, h3, h4⟩ := h1
        simp only [IsPs, IsP] at h4
        obtain ⟨_, _, rfl, rfl, _, _, rfl, rfl, rfl⟩ := h4
        exact ⟨a :: ps, (.inl i, .int j) :: kvs, rfl, .cons h3.sq g1, by rw [List.map_cons, g2]; rfl⟩
theorem cr_dict (hc : X.calm = true) (L : Lk γ X) : CallR X (.type "dict") (rBi γ .dict) := by
  intro pins s σ H xs us Q I r h
  obtain ⟨κ, st, ds, d, so, hx, e, q⟩ := h
  match ds, e with
  | [a], e =>
    obtain ⟨v, rfl, hv⟩ := iss_one (ds := a) hx
    have e' : ((lstOf st a).bind fun xs => if xs.length < 64 then (pairsOf xs).map fun ns => D.dks (keysOf ns) else none) = some d := e
    cases hl : lstOf st a with
    | none => rw [hl] at e'; cases e'
    | some ys =>
      rw [hl] at e'
      have e2 : (if ys.length < 64 then (pairsOf ys).map fun ns => D.dks (keysOf ns) else none) = some d := e'
      split at e2
      · cases hn : pairsOf ys with
        | none => rw [hn] at e2; cases e2
        | some ns =>
          rw [hn] at e2
          cases (show some (D.dks (keysOf ns)) = some d from e2)
          obtain ⟨p, vs, rfl, h1, h2⟩ := lstOf_is so hv hl
          obtain ⟨ps, kvs, rfl, g1, g2⟩ := pairsOf_eq hn h2
          refine call_dictP hc pins s σ H _ us Q I r ⟨p, ps, kvs, rfl, .inl (.inl h1), by rw [L.K]; exact g1, fun l hl => ?_⟩
          refine q κ _ _ (Ext.new hl) (so.new hl) ⟨l, _, rfl, so.fresh hl, upd_same, keys_merge kvs [] ns [] g2 rfl⟩
      · cases e2
end
def nmF : F → PySem.Str
  | .is_number => "is_number"
  | .is_within => "is_within"
  | .sure_within => "sure_within"
  | .sure_width => "sure_width"
  | .top_in => "top_in"
  | .sure_word => "sure_word"
  | .sure_divisor => "sure_divisor"
  | .l_box => "_law_box"
  | .l_take => "_law_take"
  | .l_cells => "_law_cells"
  | .l_of => "_law_of"
  | .l_same => "_law_same"
  | .l_two => "_law_two"
  | .l_divisor => "_law_divisor"
  | .law_k08 => "law"
  | .l_wide => "_law_wide"
  | .l_twos => "_law_twos"
  | .turned_in => "turned_in"
  | .twos_in => "twos_in"
  | .steps_in => "steps_in"
  | .inverse_in => "inverse_in"
  | .l_inverse => "_law_inverse"
  | .l_rolled => "_law_rolled"
  | .test_in => "test_in"
  | .product_in => "product_in"
  | .back_in => "back_in"
  | .sure_both => "sure_both"
  | .multiple_test => "multiple_test"
  | .led_to => "led_to"
  | .led_back => "led_back"
  | .is_multiple => "is_multiple"
  | .leaves => "leaves"
  | .multiple_at => "multiple_at"
  | .l_led => "_law_led"
def psF : F → List PySem.Str
  | .is_number => ["thing"]
  | .is_within => ["thing", "least", "most"]
  | .sure_within => ["thing", "least", "most"]
  | .sure_width => ["value"]
  | .top_in => ["width"]
  | .sure_word => ["width", "value"]
  | .sure_divisor => ["width", "value"]
  | .l_box => ["script", "k"]
  | .l_take => ["tin", "below_so"]
  | .l_cells => ["script", "most_so"]
  | .l_of => ["tin", "goods_so"]
  | .l_same => ["got", "due"]
  | .l_two => ["often_so"]
  | .l_divisor => ["tin", "w"]
  | .law_k08 => ["script"]
  | .l_wide => ["tin"]
  | .l_twos => ["d"]
  | .turned_in => ["width", "word", "often"]
  | .twos_in => ["number"]
  | .steps_in => ["width", "odd"]
  | .inverse_in => ["width", "odd"]
  | .l_inverse => ["w", "o"]
  | .l_rolled => ["w", "n", "often_so"]
  | .test_in => ["width", "divisor"]
  | .product_in => ["width", "divisor", "word"]
  | .back_in => ["width", "divisor", "word"]
  | .sure_both => ["width", "divisor", "word"]
  | .multiple_test => ["width", "divisor"]
  | .led_to => ["width", "divisor", "word"]
  | .led_back => ["width", "divisor", "word"]
  | .is_multiple => ["width", "divisor", "word"]
  | .leaves => ["width", "divisor", "rest", "word"]
  | .multiple_at => ["width", "divisor", "number"]
  | .l_led => ["w", "d", "n"]
def nsF : F → List PySem.Str
  | .is_number => ["thing"]
  | .is_within => ["thing", "least", "most"]
  | .sure_within => ["thing", "least", "most"]
  | .sure_width => ["value"]
  | .top_in => ["width"]
  | .sure_word => ["width", "value"]
  | .sure_divisor => ["width", "value"]
  | .l_box => ["script", "k", "bit_so"]
  | .l_take => ["tin", "below_so", "drawn_so", "once_so", "wide_so", "twice_so"]
  | .l_cells => ["script", "most_so", "cells_so", "k", "bit_so", "at_so"]
  | .l_of => ["tin", "goods_so"]
  | .l_same => ["got", "due", "mine", "its"]
  | .l_two => ["often_so"]
  | .l_divisor => ["tin", "w", "top_so", "found"]
  | .law_k08 => ["script", "tin", "w", "d", "every_so", "k", "o", "bound_so", "goals_so", "x", "lap", "q", "n", "own", "got", "turn"]
  | .l_wide => ["tin"]
  | .l_twos => ["d", "k", "lap"]
  | .turned_in => ["width", "word", "often", "many"]
  | .twos_in => ["number", "often", "left"]
  | .steps_in => ["width", "odd", "found", "bits"]
  | .inverse_in => ["width", "odd"]
  | .l_inverse => ["w", "o", "found", "k"]
  | .l_rolled => ["w", "n", "often_so", "found", "k"]
  | .test_in => ["width", "divisor", "often", "odd"]
  | .product_in => ["width", "divisor", "word", "times", "often", "bound"]
  | .back_in => ["width", "divisor", "word", "often", "odd"]
  | .sure_both => ["width", "divisor", "word", "own", "told"]
  | .multiple_test => ["width", "divisor", "own"]
  | .led_to => ["width", "divisor", "word", "own", "told", "near"]
  | .led_back => ["width", "divisor", "word", "own", "told", "near"]
  | .is_multiple => ["width", "divisor", "word", "own", "told", "near"]
  | .leaves => ["width", "divisor", "rest", "word", "own", "told", "under", "near"]
  | .multiple_at => ["width", "divisor", "number", "own", "told"]
  | .l_led => ["w", "d", "n", "k", "o"]
def xcs : List Xc := [.Unfit]
def nmG : G → PySem.Str
  | .MOST_WIDTH => "MOST_WIDTH"

/-! ### the text against the small language -/
def nmB : Bi → PySem.Str
  | .len => "len" | .abs => "abs" | .int => "int" | .min => "min" | .max => "max" | .sorted => "sorted" | .tuple => "tuple"
  | .all => "all" | .any => "any" | .str => "str" | .sum => "sum" | .set => "set" | .dict => "dict"
def tyB : Bi → Option String
  | .int => some "int" | .tuple => some "tuple" | .str => some "str" | .set => some "set" | .dict => some "dict"
  | _ => none
def nmX : Xc → PySem.Str
  | .Unfit => "Unfit" | .CanNot => "CanNot" | .BadText => "BadText" | .NothingDone => "NothingDone" | .TooMany => "TooMany"
def nmT : Ty → PySem.Str
  | .int => "int" | .bool => "bool" | .str => "str" | .list => "list" | .tuple => "tuple"
def tyT : Ty → String
  | .int => "int" | .bool => "bool" | .str => "str" | .list => "list" | .tuple => "tuple"
/-- names that must be free -/
def freeNames : List PySem.Str := ["len", "abs", "int", "min", "max", "sorted", "tuple", "all", "any", "str", "sum", "set", "dict", "range", "zip", "enumerate", "list", "bool", "isinstance"]
structure Mc where
  N : List PySem.Str
  sc : Scope
  sc0 : Scope
  cm : Bool
def okn (x : PySem.Str) : Bool := !(x == ("__debug__" : PySem.Str)) && !(x == ("__classdict__" : PySem.Str))
def visB (sc : Scope) (x : PySem.Str) : Bool := match sc.names.lookup x with
  | some .local => true
  | some .cell => true
  | some .free => true
  | _ => false
def locB (sc : Scope) (x : PySem.Str) : Bool := match sc.names.lookup x with
  | some .local => true
  | some .cell => true
  | _ => false
def glB (sc : Scope) (x : PySem.Str) : Bool := match sc.names.lookup x with
  | some .globalImplicit => true
  | _ => false
def mcst : D → Const → Bool
  | .non, .none => true
  | .bl b, .bool c => b == c
  | .int i, .int j => decide (i = j)
  | .str x, .str y => decide (y = ⟨x.toArray⟩)
  | _, _ => false
def mVar (m : Mc) (i : Nat) (x : PySem.Str) : Bool := decide (m.N[i]? = some x) && visB m.sc x && okn x
def mGl (m : Mc) (y x : PySem.Str) : Bool := decide (x = y) && glB m.sc x && okn x
def mOne (m : Mc) (i : Nat) : Expr → Bool
  | .Name x _ => decide (m.N[i]? = some x) && locB m.sc0 x
  | _ => false
def mMany (m : Mc) : List Nat → List Expr → Bool
  | [], [] => true
  | i :: is, t :: ts => mOne m i t && mMany m is ts
  | _, _ => false
def mTg (m : Mc) : Tg → Expr → Bool
  | .one i, t => mOne m i t
  | .many is, .Tuple ts _ _ => mMany m is ts && m.cm
  | _, _ => false
def slotsT : Tg → List Nat
  | .one i => [i]
  | .many is => is
def isTupT : Expr → Bool
  | .Tuple _ _ _ => true
  | _ => false
def srcArgs (m : Mc) (tg : Option Expr) : Sk → Expr → Option (List Expr)
  | .val, e => some [e]
  | .range, .Call (.Name x _) es [] _ => if decide (x = ("range" : PySem.Str)) && glB m.sc x then (match es with | [a] => some [a] | [a, b] => some [a, b] | _ => none) else none
  | .zip, .Call (.Name x _) [a, b] [] _ => if decide (x = ("zip" : PySem.Str)) && glB m.sc x && (match tg with | some t => isTupT t | none => false) then some [a, b] else none
  | .enumerate, .Call (.Name x _) [a] [] _ => if decide (x = ("enumerate" : PySem.Str)) && glB m.sc x && (match tg with | some t => isTupT t | none => false) then some [a] else none
  | _, _ => none
def mTy (m : Mc) : List Ty → List Expr → Bool
  | [], [] => true
  | t :: ts, .Name x _ :: r => mGl m (nmT t) x && mTy m ts r
  | _, _ => false
def mTys (m : Mc) (many : Bool) (ts : List Ty) (e : Expr) : Bool := if many then (match e with | .Tuple es _ _ => mTy m ts es && decide (ts.length ≤ 1000) | _ => false) else mTy m ts [e] && ts.length == 1
def isOpB : Operator → Operator → Bool := fun a b => decide (a = b)
mutual
def mE (m : Mc) : E → Expr → Bool
  | .var i, e => (match e with | .Name x _ => mVar m i x | _ => false)
  | .cst d, e => (match e with | .Constant c _ _ => mcst d c | _ => false)
  | .glo g, e => (match e with | .Name x _ => mGl m (nmG g) x | _ => false)
  | .fnv f, e => (match e with | .Name x _ => mGl m (nmF f) x | _ => false)
  | .bin op a b, e => (match e with | .BinOp a' op' b' _ => decide (op = op') && mE m a a' && mE m b b' | _ => false)
  | .neg a, e => (match e with | .UnaryOp .USub a' _ => mE m a a' | _ => false)
  | .not a, e => (match e with | .UnaryOp .Not a' _ => mE m a a' | _ => false)
  | .and a b, e => (match e with | .BoolOp .And (x :: y :: r) p => mE m a x && (match r with | [] => mE m b y | z :: r => mE m b (.BoolOp .And (y :: z :: r) p)) | _ => false)
  | .or a b, e => (match e with | .BoolOp .Or (x :: y :: r) p => mE m a x && (match r with | [] => mE m b y | z :: r => mE m b (.BoolOp .Or (y :: z :: r) p)) | _ => false)
  | .cmp op a b, e => (match e with | .Compare a' [op'] [b'] _ => decide (op = op') && mE m a a' && mE m b b' | _ => false)
  | .chn o1 o2 a b c, e => (match e with | .Compare a' [o1', o2'] [b', c'] _ => decide (o1 = o1') && decide (o2 = o2') && mE m a a' && mE m b b' && mE m c c' | _ => false)
  | .chn3 _ _ _ _ _ _ _, _ => false
  | .ite c a b, e => (match e with | .IfExp c' a' b' _ => mE m c c' && mE m a a' && mE m b b' | _ => false)
  | .tup es, e => (match e with | .Tuple es' _ _ => mEs m es es' && decide (es.length ≤ 1000) | _ => false)
  | .lst es, e => (match e with | .List es' _ => mEs m es es' && decide (es.length ≤ 1000) | _ => false)
  | .lstC es, e => (match e with | .List es' _ => mEs m es es' && decide (es.length ≤ 1000) | _ => false)
  | .idx a i, e => (match e with | .Subscript a' i' _ => mE m a a' && mE m i i' | _ => false)
  | .sli a lo hi, e => (match e with | .Subscript a' (.Slice lo' hi' none _) _ => mE m a a' && mEs m lo lo'.toList && mEs m hi hi'.toList | _ => false)
  | .rev a, e => (match e with | .Subscript a' (.Slice none none (some (.UnaryOp .USub (.Constant (.int 1) _ _) _)) _) _ => mE m a a' | _ => false)
  | .call f es, e => (match e with | .Call (.Name x _) es' [] _ => mGl m (nmF f) x && m.cm && mEs m es es' | _ => false)
  | .callk f es ks, e => (match e with | .Call (.Name x _) [] kws _ => es.isEmpty && mGl m (nmF f) x && m.cm && mEs m ks (kws.map fun q => q.value) && decide ((kws.map fun q => q.arg) = (psF f).map some) | _ => false)
  | .callv i es, e => (match e with | .Call (.Name x _) (e0 :: es') [] _ => mVar m i x && m.cm && mEs m es (e0 :: es') | _ => false)
  | .bi b es, e => (match e with | .Call (.Name x _) (e0 :: es') [] _ => mGl m (nmB b) x && m.cm && mEs m es (e0 :: es') | _ => false)
  | .isi a ts many, e => (match e with | .Call (.Name x _) [a', t'] [] _ => mGl m "isinstance" x && mE m a a' && mTys m many ts t' | _ => false)
  | .isx _, _ => false
  | .lc elt tg k src cond own, e => (match e with
    | .ListComp elt' [⟨tg', it', ifs', 0⟩] scope _ =>
      m.cm && (match srcArgs m (some tg') k it' with | some as => mEs m src as | none => false) &&
      blkC m.N m.sc scope (own.map fun i => (m.N.getD i "", i)) &&
      mTg ⟨m.N, relS scope m.sc, scope, m.cm⟩ tg tg' && (slotsT tg).all (own.contains ·) && mEs ⟨m.N, relS scope m.sc, scope, m.cm⟩ cond ifs' && (cond.length ≤ 1) && mE ⟨m.N, relS scope m.sc, scope, m.cm⟩ elt elt'
    | _ => false)
  | .listV k src, e => (match e with
    | .Call (.Name x _) [it'] [] _ => mGl m "list" x && m.cm && (match k with | .val => true | .range => true | _ => false) && (match srcArgs m none k it' with | some as => mEs m src as && decide (as.length ≤ 2) | none => false)
    | _ => false)
  | .listC k src, e => (match e with
    | .Call (.Name x _) [it'] [] _ => mGl m "list" x && m.cm && (match k with | .val => true | .range => true | _ => false) && (match srcArgs m none k it' with | some as => mEs m src as && decide (as.length ≤ 2) | none => false)
    | _ => false)
  | .mth _ _ _, _ => false
  | .pop o i, e => (match e with
    | .Call (.Attribute (.Name y py) x apos) [i'] [] cpos => decide (x = ("pop" : PySem.Str)) && (apos.endLine == cpos.line) && mE m o (.Name y py) && mE m i i'
    | _ => false)
termination_by structural e => e
def mEs (m : Mc) : List E → List Expr → Bool
  | [], es => (match es with | [] => true | _ => false)
  | a :: r, es => (match es with | e :: es' => mE m a e && mEs m r es' | _ => false)
termination_by structural e => e
end
/-! ### the facts of a context -/
def spC (γ : Wd) (C : F → List D → Store → R D) (f : F) : Sp := fun vs H Q W => vs.length = (psF f).length ∧ ∃ κ st ds, StOk γ H κ st ∧ Iss γ H κ ds vs ∧ PostR γ (Is γ) κ H Q W (C f ds st)
structure Gd (γ : Wd) (C : F → List D → Store → R D) (k : Nat) (X : Cx) : Prop where
  lk : Lk γ X
  len : ∀ f ds st, ds.length ≠ (psF f).length → C f ds st = .no
  fn : ∀ f, FnOk X.prog X.w X.K X.mg X.base (L2.CX X.prog X.w) k (γ.fa f) (γ.fd f) (psF f) (spC γ C f)
  gf : ∀ f, X.mg (nmF f) = some (.ref (γ.fa f))
  kf : ∀ f, PySem.W.keepIn X.K (.ref (γ.fa f)) = true
  bf : ∀ f, L2.Binds X.K (γ.fd f) (psF f) []
  kb : ∀ f (s : Shared) (us : List Value), X.K.In s.heap → us.length = (psF f).length → BindsTo s (γ.fd f) ⟨[], (psF f).zip us⟩ ((psF f).zip us)
  gx : ∀ c ∈ xcs, X.mg (nmX c) = some (.ref (γ.xa c)) ∧ (∃ bm, PySem.W.excIn X.K (γ.xa c) bm "ValueError.__new__" = true ∧ ExcBaseFacts "ValueError" "ValueError.__new__" "ValueError.__init__" bm) ∧ PySem.W.keepIn X.K (.ref (γ.xa c)) = true ∧ PySem.W.subIn X.K (.ref (γ.xa c)) (.type "BaseException") = some true ∧ PySem.W.typeIn X.K (.ref (γ.xa c)) = some (.type "type")
  gb : ∀ n ∈ freeNames, X.mg n = none
  gg : ∀ g, ∃ u v, X.mg (nmG g) = some u ∧ L2.RelV v u ∧ ∀ H κ, Is γ H κ g.val v
structure Mx (γ : Wd) (C : F → List D → Store → R D) (k : Nat) (m : Mc) (X : Cx) : Prop where
  g : Gd γ C k X
  N : X.N = m.N
  nd : m.N.Nodup
  sc : X.env.scope = m.sc
  tg : ∀ x, locB m.sc0 x = true → L2.Loc m.sc x ∧ (X.fn x = true ∨ m.sc.names.lookup x = some .local)
  cm : m.cm = true → X.calm = true ∧ Room k X.A
section
variable {γ : Wd} {C : F → List D → Store → R D} {k : Nat} {m : Mc} {X : Cx} {W : WX} {H H1 H2 H' : Hp} {κ κ1 κ2 κ' : List Addr} {st st' : Store}
theorem vis_of {sc : Scope} {x : PySem.Str} (h : visB sc x = true) : Vis sc x := by
  unfold visB at h
  unfold Vis
  split at h
  · exact .inl (by assumption)
  · exact .inr (.inl (by assumption))
  · exact .inr (.inr (by assumption))
  · cases h
theorem gl_of {x : PySem.Str} (hs : X.env.scope = m.sc) (h : glB m.sc x = true) : Gl X x := by
  unfold glB at h
  show X.env.scope.names.lookup x = _
  rw [hs]
  split at h
  · assumption
  · cases h
theorem okn_of {x : PySem.Str} (h : okn x = true) : (x == ("__debug__" : PySem.Str)) = false ∧ (x == ("__classdict__" : PySem.Str)) = false := by
  unfold okn at h
  rw [Bool.and_eq_true] at h
  exact ⟨by simpa using h.1, by simpa using h.2⟩
theorem mvar_of {i : Nat} {x : PySem.Str} (M : Mx γ C k m X) (h : mVar m i x = true) : X.N[i]? = some x ∧ Vis X.env.scope x ∧ (x == ("__debug__" : PySem.Str)) = false ∧ (x == ("__classdict__" : PySem.Str)) = false := by
  unfold mVar at h
  rw [Bool.and_eq_true, Bool.and_eq_true, decide_eq_true_eq] at h
  exact ⟨by rw [M.N]; exact h.1.1, by rw [M.sc]; exact vis_of h.1.2, okn_of h.2⟩
theorem mgl_of {x y : PySem.Str} (M : Mx γ C k m X) (h : mGl m y x = true) : x = y ∧ Gl X x ∧ (x == ("__debug__" : PySem.Str)) = false := by
  unfold mGl at h
  rw [Bool.and_eq_true, Bool.and_eq_true, decide_eq_true_eq] at h
  exact ⟨h.1.1, gl_of M.sc h.1.2, (okn_of h.2).1⟩
theorem Mx.calm (M : Mx γ C k m X) (h : m.cm = true) : X.calm = true := (M.cm h).1
/-- no star, no set, no slice -/
def plainE : Expr → Bool
  | .Starred _ _ => false
  | .Set _ _ _ => false
  | .Slice _ _ _ _ => false
  | .Tuple es _ _ => true
  | _ => true
theorem mE_plain : ∀ {e : E} {x : Expr}, mE m e x = true → plainE x = true := by
  intro e x h
  cases x <;> first | rfl | (cases e <;> simp [mE] at h)
theorem star_of {e : Expr} {es : List Expr} {env : Env} (h : plainE e = true) : starEach (e :: es) env = (false, eval e env) :: starEach es env := by
  cases e <;> first | rfl | cases h
theorem beh_of {e : Expr} {op : CmpOp} (h : plainE e = true) : behindInMarks op e = false := by
  cases e <;> first | rfl | cases h
theorem fold_of {e : Expr} {env : Env} (h : plainE e = true) (x : Value) : foldedSetIterable e env x = pure x := by
  cases e <;> first | rfl | cases h
theorem mEs_plain : ∀ {es : List E} {xs : List Expr} {env : Env}, mEs m es xs = true → starEach xs env = xs.map fun x => (false, eval x env)
  | [], [], env, _ => rfl
  | [], _ :: _, _, h => by simp [mEs] at h
  | _ :: _, [], _, h => by simp [mEs] at h
  | e :: es, x :: xs, env, h => by
    simp only [mEs, Bool.and_eq_true] at h
    rw [star_of (mE_plain h.1), mEs_plain h.2]
    rfl
theorem back_any (pos : Pos) (xs : List Expr) (env : Env) : ((backTo pos (xs.map fun x => (false, eval x env))).any fun x => x.fst) = false := by
  unfold backTo
  rw [List.map_map, List.any_map]
  exact List.any_eq_false.mpr fun x _ => by simp
theorem back_all (pos : Pos) (xs : List Expr) (env : Env) : ((backTo pos (xs.map fun x => (false, eval x env))).all fun x => !x.fst) = true := by
  unfold backTo
  rw [List.map_map, List.all_map]
  exact List.all_eq_true.mpr fun x _ => rfl
end
/-! ### expressions -/
section
variable {γ : Wd} {C : F → List D → Store → R D} {k : Nat} {m : Mc} {X : Cx} {W : WX} {H H1 H2 H' : Hp} {κ κ1 κ2 κ' : List Addr} {st st' : Store}
variable {a b c : E} {ea eb ec : Expr} {pos p p2 p3 : Pos}
theorem te_var {i : Nat} {x : PySem.Str} (M : Mx γ C k m X) (h : mVar m i x = true) : PE X (.Name x pos) (tE γ C W (.var i)) := by
  obtain ⟨h1, h2, h3, h4⟩ := mvar_of M h
  refine pei (pv i h1 h2 h3 h4) fun σ H Q q => ?_
  obtain ⟨κ, ρ, st, e, q⟩ := q
  simp only [ev] at q
  obtain ⟨d, hd, q⟩ := q.optE
  obtain ⟨v, h5, h6⟩ := e.sl i d hd
  exact ⟨v, h5, q κ H v .refl e.st h6⟩
theorem te_cst {d : D} {y : Const} {j : Nat} (h : mcst d y = true) : PE X (.Constant y j pos) (tE γ C W (.cst d)) := by
  cases d <;> cases y <;> first | (cases h; done) | skip
  · refine pei pe_non fun σ H Q q => ?_
    obtain ⟨κ, ρ, st, e, q⟩ := q
    simp only [ev] at q
    exact q κ H _ .refl e.st rfl
  · rename_i b b'
    have e1 : b = b' := by simpa [mcst] using h
    subst e1
    refine pei pe_bl fun σ H Q q => ?_
    obtain ⟨κ, ρ, st, e, q⟩ := q
    simp only [ev] at q
    exact q κ H _ .refl e.st rfl
  · rename_i b b'
    have e1 : b = b' := by simpa [mcst] using h
    subst e1
    refine pei pe_int fun σ H Q q => ?_
    obtain ⟨κ, ρ, st, e, q⟩ := q
    simp only [ev] at q
    exact q κ H _ .refl e.st rfl
  · rename_i b b'
    have e1 : b' = ⟨b.toArray⟩ := by simpa [mcst] using h
    subst e1
    refine pei pe_str fun σ H Q q => ?_
    obtain ⟨κ, ρ, st, e, q⟩ := q
    simp only [ev] at q
    exact q κ H _ .refl e.st rfl
theorem te_glo {g : G} {x : PySem.Str} (M : Mx γ C k m X) (h : mGl m (nmG g) x = true) : PE X (.Name x pos) (tE γ C W (.glo g)) := by
  obtain ⟨h1, h2, h3⟩ := mgl_of M h
  subst h1
  obtain ⟨u, v, g1, g2, g3⟩ := M.g.gg g
  refine pei (pe_glob h2 g1 g2 h3) fun σ H Q q => ?_
  obtain ⟨κ, ρ, st, e, q⟩ := q
  simp only [ev] at q
  exact q κ H v .refl e.st (g3 H κ)
theorem te_fnv {f : F} {x : PySem.Str} (M : Mx γ C k m X) (h : mGl m (nmF f) x = true) : PE X (.Name x pos) (tE γ C W (.fnv f)) := by
  obtain ⟨h1, h2, h3⟩ := mgl_of M h
  subst h1
  refine pei (pe_glob (v := .ref (γ.fa f)) h2 (M.g.gf f) rfl h3) fun σ H Q q => ?_
  obtain ⟨κ, ρ, st, e, q⟩ := q
  simp only [ev] at q
  exact q κ H _ .refl e.st (by show IsP γ H κ (.fn f) _; simp only [IsP])
theorem te_bin (M : Mx γ C k m X) {op : Operator} (ha : PE X ea (tE γ C W a)) (hb : PE X eb (tE γ C W b)) : PE X (.BinOp ea op eb pos) (tE γ C W (.bin op a b)) := by
  refine pei (pe_op (op_bin M.g.lk) ha hb) fun σ H Q q => ?_
  obtain ⟨κ, ρ, st, e, q⟩ := q
  simp only [ev] at q
  refine ⟨κ, ρ, st, e, q.bnd fun dx s1 κ1 H1 x e1 so1 hx q => ⟨κ1, ρ, s1, e.mono e1 so1, q.bnd fun dy s2 κ2 H2 y e2 so2 hy q => ?_⟩⟩
  obtain ⟨d, hd, q⟩ := q.optE
  exact ⟨κ2, s2, dx, dy, d, so2, hx.mono e2, hy, hd, q⟩
theorem te_neg (ha : PE X ea (tE γ C W a)) : PE X (.UnaryOp .USub ea pos) (tE γ C W (.neg a)) := by
  refine pei (pe_un (un_negD (γ := γ)) ha) fun σ H Q q => ?_
  obtain ⟨κ, ρ, st, e, q⟩ := q
  simp only [ev] at q
  refine ⟨κ, ρ, st, e, q.bnd fun dx s1 κ1 H1 x e1 so1 hx q => ?_⟩
  obtain ⟨d, hd, q⟩ := q.optE
  exact ⟨κ1, s1, dx, d, so1, hx, hd, fun v hv => q κ1 H1 v .refl so1 hv⟩
theorem te_not (M : Mx γ C k m X) (ha : PE X ea (tE γ C W a)) : PE X (.UnaryOp .Not ea pos) (tE γ C W (.not a)) := by
  refine pei (pe_notT ha) fun σ H Q q => ?_
  obtain ⟨κ, ρ, st, e, q⟩ := q
  simp only [ev] at q
  refine ⟨κ, ρ, st, e, q.bnd fun dx s1 κ1 H1 x e1 so1 hx q => ?_⟩
  obtain ⟨d, hd, q⟩ := q.optE
  cases ht : truth s1 dx with
  | none => rw [ht] at hd; cases hd
  | some t =>
    rw [ht] at hd
    cases hd
    exact ⟨t, by rw [M.g.lk.K]; exact truth_is so1 hx ht, q κ1 H1 _ .refl so1 rfl⟩
theorem PostR.br {α β : Type} {rel : Hp → List Addr → α → β → Prop} {Q : β → Hp → Prop} {Wd' : Value → Option Addr → Hp → Prop} {o : Option Bool} {x y : R α} (h : PostR γ rel κ H Q Wd' (brR o x y)) :
    ∃ t, o = some t ∧ PostR γ rel κ H Q Wd' (if t = true then x else y) := by
  cases o with
  | none => exact h.elim
  | some t => exact ⟨t, rfl, h⟩
theorem te_and (M : Mx γ C k m X) {rest : List Expr} (ha : PE X ea (tE γ C W a)) (hb : PE X (.BoolOp .And (eb :: rest) pos) (tE γ C W b)) : PE X (.BoolOp .And (ea :: eb :: rest) pos) (tE γ C W (.and a b)) := by
  refine pei (pe_andT ha hb) fun σ H Q q => ?_
  obtain ⟨κ, ρ, st, e, q⟩ := q
  simp only [ev] at q
  refine ⟨κ, ρ, st, e, q.bnd fun dx s1 κ1 H1 x e1 so1 hx q => ?_⟩
  obtain ⟨t, ht, q⟩ := q.br
  refine ⟨t, by rw [M.g.lk.K]; exact truth_is so1 hx ht, ?_⟩
  cases t with
  | true => exact ⟨κ1, ρ, s1, e.mono e1 so1, q⟩
  | false => exact q κ1 H1 x .refl so1 hx
theorem te_or (M : Mx γ C k m X) {rest : List Expr} (ha : PE X ea (tE γ C W a)) (hb : PE X (.BoolOp .Or (eb :: rest) pos) (tE γ C W b)) : PE X (.BoolOp .Or (ea :: eb :: rest) pos) (tE γ C W (.or a b)) := by
  refine pei (pe_orT ha hb) fun σ H Q q => ?_
  obtain ⟨κ, ρ, st, e, q⟩ := q
  simp only [ev] at q
  refine ⟨κ, ρ, st, e, q.bnd fun dx s1 κ1 H1 x e1 so1 hx q => ?_⟩
  obtain ⟨t, ht, q⟩ := q.br
  refine ⟨t, by rw [M.g.lk.K]; exact truth_is so1 hx ht, ?_⟩
  cases t with
  | false => exact ⟨κ1, ρ, s1, e.mono e1 so1, q⟩
  | true => exact q κ1 H1 x .refl so1 hx
theorem te_cmp (M : Mx γ C k m X) {op : CmpOp} (ha : PE X ea (tE γ C W a)) (hb : PE X eb (tE γ C W b)) (hm : plainE eb = true) : PE X (.Compare ea [op] [eb] pos) (tE γ C W (.cmp op a b)) := by
  refine pei (pe_cmpR (op_cmp M.g.lk) ha hb (beh_of hm)) fun σ H Q q => ?_
  obtain ⟨κ, ρ, st, e, q⟩ := q
  simp only [ev] at q
  refine ⟨κ, ρ, st, e, q.bnd fun dx s1 κ1 H1 x e1 so1 hx q => ⟨κ1, ρ, s1, e.mono e1 so1, q.bnd fun dy s2 κ2 H2 y e2 so2 hy q => ?_⟩⟩
  obtain ⟨d, hd, q⟩ := q.optE
  cases ht : cmpS s2 op dx dy with
  | none => rw [ht] at hd; cases hd
  | some t =>
    rw [ht] at hd
    cases hd
    exact ⟨κ2, s2, dx, dy, t, so2, hx.mono e2, hy, ht, q κ2 H2 _ .refl so2 rfl⟩
theorem last2 {o1 o2 : CmpOp} (hm : plainE ec = true) : lastMarks [o1, o2] [eb, ec] = false := beh_of hm
theorem te_chn (M : Mx γ C k m X) {o1 o2 : CmpOp} (ha : PE X ea (tE γ C W a)) (hb : PE X eb (tE γ C W b)) (hc : PE X ec (tE γ C W c)) (hm : plainE ec = true) :
    PE X (.Compare ea [o1, o2] [eb, ec] pos) (tE γ C W (.chn o1 o2 a b c)) := by
  refine pei (pe_chain (op_cmp M.g.lk) (op_cmp M.g.lk) ha hb hc (last2 hm)) fun σ H Q q => ?_
  obtain ⟨κ, ρ, st, e, q⟩ := q
  simp only [ev] at q
  refine ⟨κ, ρ, st, e, q.bnd fun dx s1 κ1 H1 x e1 so1 hx q => ⟨κ1, ρ, s1, e.mono e1 so1, q.bnd fun dy s2 κ2 H2 y e2 so2 hy q => ?_⟩⟩
  obtain ⟨t, ht, q⟩ := q.br
  refine ⟨κ2, s2, dx, dy, t, so2, hx.mono e2, hy, ht, t, rfl, ?_⟩
  cases t with
  | false => exact q κ2 H2 _ .refl so2 rfl
  | true =>
    refine ⟨κ2, ρ, s2, (e.mono e1 so1).mono e2 so2, PostR.bnd q fun dz s3 κ3 H3 z e3 so3 hz q => ?_⟩
    obtain ⟨d, hd, q⟩ := q.optE
    cases ht : cmpS s3 o2 dy dz with
    | none => rw [ht] at hd; cases hd
    | some t =>
      rw [ht] at hd
      cases hd
      exact ⟨κ3, s3, dy, dz, t, so3, hy.mono e3, hz, ht, q κ3 H3 _ .refl so3 rfl⟩
theorem te_ite (hc : PT X ec (tT γ C W c)) (ha : PE X ea (tE γ C W a)) (hb : PE X eb (tE γ C W b)) : PE X (.IfExp ec ea eb pos) (tE γ C W (.ite c a b)) := by
  refine pei (pe_ifExp hc ha hb) fun σ H Q q => ?_
  obtain ⟨κ, ρ, st, e, q⟩ := q
  simp only [ev] at q
  have q' : PostR γ (Is γ) κ H Q (fun c d H' => W c d σ H') ((tst C c ρ st).bind fun t s1 => if t = true then ev C a ρ s1 else ev C b ρ s1) := by
    unfold tst
    cases hx : ev C c ρ st with
    | ok x s1 =>
      rw [hx] at q
      obtain ⟨t, ht, q⟩ := PostR.br (show PostR _ _ _ _ _ _ (brR (truth s1 x) _ _) from q)
      show PostR _ _ _ _ _ _ (((R.ok x s1).bind fun x s1 => R.opt (truth s1 x) s1).bind _)
      rw [bind_ok, ht]
      exact q
    | exc c xs s1 => rw [hx] at q; exact q
    | no => rw [hx] at q; exact q
  refine ⟨κ, ρ, st, e, q'.bnd fun t s1 κ1 H1 t' e1 so1 ht q => ?_⟩
  subst ht
  cases t' with
  | true => exact ⟨κ1, ρ, s1, e.mono e1 so1, q⟩
  | false => exact ⟨κ1, ρ, s1, e.mono e1 so1, q⟩
theorem te_nil : PA X [] (tEs γ C W []) := by
  refine pai pa_nil fun σ H Q q => ?_
  obtain ⟨κ, ρ, st, e, q⟩ := q
  simp only [evs] at q
  exact q κ H [] .refl e.st rfl
theorem te_cons {es : List E} {xs : List Expr} (ha : PE X ea (tE γ C W a)) (hr : PA X xs (tEs γ C W es)) (hm : plainE ea = true) : PA X (ea :: xs) (tEs γ C W (a :: es)) := by
  refine pai (pa_cons ha hr (star_of hm)) fun σ H Q q => ?_
  obtain ⟨κ, ρ, st, e, q⟩ := q
  simp only [evs] at q
  refine ⟨κ, ρ, st, e, q.bnd fun dx s1 κ1 H1 x e1 so1 hx q => ⟨κ1, ρ, s1, e.mono e1 so1, q.bnd fun dr s2 κ2 H2 r e2 so2 hr q => ?_⟩⟩
  exact q κ2 H2 _ .refl so2 ⟨x, r, rfl, hx.mono e2, hr⟩
theorem evs_length : ∀ {es : List E} {ρ : Fr} {st st' : Store} {ds : List D}, evs C es ρ st = .ok ds st' → ds.length = es.length
  | [], ρ, st, st', ds, h => by
    simp only [evs] at h
    cases h
    rfl
  | e :: es, ρ, st, st', ds, h => by
    simp only [evs] at h
    cases h1 : ev C e ρ st with
    | ok x s1 =>
      rw [h1, bind_ok] at h
      cases h2 : evs C es ρ s1 with
      | ok r s2 =>
        rw [h2, bind_ok] at h
        cases h
        rw [List.length_cons, List.length_cons, evs_length h2]
      | exc => rw [h2] at h; cases h
      | no => rw [h2] at h; cases h
    | exc => rw [h1] at h; cases h
    | no => rw [h1] at h; cases h
theorem PostR.bndL {α β : Type} {rel : Hp → List Addr → α → β → Prop} {Q : β → Hp → Prop} {Q1 : List V → Hp → Prop} {Wd' : Value → Option Addr → Hp → Prop} {es : List E} {ρ : Fr} {f : List D → Store → R α}
    (h : PostR γ rel κ H Q Wd' ((evs C es ρ st).bind f)) (k : ∀ a st1 κ1 H1 b, a.length = es.length → Ext κ H κ1 H1 → StOk γ H1 κ1 st1 → Iss γ H1 κ1 a b → PostR γ rel κ1 H1 Q Wd' (f a st1) → Q1 b H1) : PostR γ (Iss γ) κ H Q1 Wd' (evs C es ρ st) := by
  cases hx : evs C es ρ st with
  | ok a s1 =>
    rw [hx] at h
    exact fun κ' H' b x so q => k a s1 κ' H' b (evs_length hx) x so q (PostR.ext x h)
  | exc => rw [hx] at h; exact h
  | no => rw [hx] at h; exact h
end
section
variable {γ : Wd} {C : F → List D → Store → R D} {k : Nat} {m : Mc} {X : Cx} {W : WX} {H H1 H2 H' : Hp} {κ κ1 κ2 κ' : List Addr} {st st' : Store}
variable {a b c : E} {ea eb ec : Expr} {pos p p2 p3 : Pos} {es : List E} {xs : List Expr}
theorem len_le {n : Nat} (h : n ≤ 1000) : n ≤ sizeLine := line_le (by omega)
theorem te_tup {j : Nat} (hl : es.length ≤ 1000) (hr : PA X xs (tEs γ C W es)) : PE X (.Tuple xs j pos) (tE γ C W (.tup es)) := by
  refine pei (pe_tup hr) fun σ H Q q => ?_
  obtain ⟨κ, ρ, st, e, q⟩ := q
  simp only [ev] at q
  refine ⟨κ, ρ, st, e, q.bndL fun ds s1 κ1 H1 vs hn e1 so1 hx q => ?_⟩
  refine ⟨by rw [hx.length, hn]; exact len_le hl, fun p hp => ?_⟩
  split at q
  · rename_i hd
    exact q _ _ _ (Ext.new hp) (so1.new hp) (new_tup so1 hp (hx.toP hd))
  · exact q.elim
theorem te_lst (hl : es.length ≤ 1000) (hr : PA X xs (tEs γ C W es)) : PE X (.List xs pos) (tE γ C W (.lst es)) := by
  refine pei (pe_lst hr) fun σ H Q q => ?_
  obtain ⟨κ, ρ, st, e, q⟩ := q
  simp only [ev] at q
  refine ⟨κ, ρ, st, e, q.bndL fun ds s1 κ1 H1 vs hn e1 so1 hx q => ?_⟩
  refine ⟨by rw [hx.length, hn]; exact len_le hl, fun p hp => ?_⟩
  split at q
  · rename_i hd
    exact q _ _ _ (Ext.new hp) (so1.new hp) (new_lst so1 hp (hx.toP hd))
  · exact q.elim
theorem new_cell {p : Addr} {ds : List D} {vs : List V} (s : StOk γ H κ st) : Is γ (upd H p (.lst vs)) (κ ++ [p]) (.cell st.length) (.ref p) :=
  ⟨p, by rw [← s.len, List.getElem?_append_right (Nat.le_refl _), Nat.sub_self]; rfl, rfl⟩
theorem te_lstC (hl : es.length ≤ 1000) (hr : PA X xs (tEs γ C W es)) : PE X (.List xs pos) (tE γ C W (.lstC es)) := by
  refine pei (pe_lst hr) fun σ H Q q => ?_
  obtain ⟨κ, ρ, st, e, q⟩ := q
  simp only [ev] at q
  refine ⟨κ, ρ, st, e, q.bndL fun ds s1 κ1 H1 vs hn e1 so1 hx q => ?_⟩
  refine ⟨by rw [hx.length, hn]; exact len_le hl, fun p hp => ?_⟩
  split at q
  · rename_i hd
    exact q _ _ _ (Ext.cell hp) (so1.cell hp (hx.toP hd)) (new_cell (ds := ds) so1)
  · exact q.elim
theorem plainIx {b : Expr} (h : plainE b = true) : PlainIx b := fun o i => by
  cases b <;> first | rfl | cases h
theorem te_idx (M : Mx γ C k m X) (ha : PE X ea (tE γ C W a)) (hb : PE X eb (tE γ C W b)) (hm : plainE eb = true) : PE X (.Subscript ea eb pos) (tE γ C W (.idx a b)) := by
  refine pei (pe_ix (ix_idx M.g.lk) ha hb (plainIx hm)) fun σ H Q q => ?_
  obtain ⟨κ, ρ, st, e, q⟩ := q
  simp only [ev] at q
  refine ⟨κ, ρ, st, e, q.bnd fun dx s1 κ1 H1 x e1 so1 hx q => ⟨κ1, ρ, s1, e.mono e1 so1, q.bnd fun dy s2 κ2 H2 y e2 so2 hy q => ?_⟩⟩
  obtain ⟨d, hd, q⟩ := q.optE
  exact ⟨κ2, s2, dx, dy, d, so2, hx.mono e2, hy, hd, fun v hv => q κ2 H2 v .refl so2 hv⟩
/-- a part of a slice -/
def tO (γ : Wd) (C : F → List D → Store → R D) (W : WX) (es : List E) : TO := fun σ H Q => ∃ κ ρ st, Env_ γ σ H κ ρ st ∧ PostR γ (fun _ _ d o => o = d) κ H Q (fun c d H' => W c d σ H') ((evs C es ρ st).bind fun l s => R.opt (partI l) s)
theorem poi {t t' : TO} {o : Option Expr} (h : PO X o t) (i : ∀ σ H Q, t' σ H Q → t σ H Q) : PO X o t' := ⟨fun p s σ H Q I q => h.run p s σ H Q I (i σ H Q q)⟩
theorem to_none : PO X none (tO γ C W []) := by
  refine poi po_none fun σ H Q q => ?_
  obtain ⟨κ, ρ, st, e, q⟩ := q
  simp only [evs, bind_ok] at q
  exact q κ H _ .refl e.st rfl
theorem to_some (ha : PE X ea (tE γ C W a)) : PO X (some ea) (tO γ C W [a]) := by
  refine poi (po_some ha) fun σ H Q q => ?_
  obtain ⟨κ, ρ, st, e, q⟩ := q
  simp only [evs] at q
  refine ⟨κ, ρ, st, e, ?_⟩
  cases hx : ev C a ρ st with
  | ok d s1 =>
    rw [hx] at q
    intro κ1 H1 v e1 so1 hv
    cases d with
    | int i =>
      cases (show v = .int i from hv)
      exact ⟨i, rfl, q κ1 H1 (some i) e1 so1 rfl⟩
    | _ => exact q.elim
  | exc => rw [hx] at q; exact q
  | no => rw [hx] at q; exact q
theorem te_sli (M : Mx γ C k m X) {lo hi : List E} {elo ehi : Option Expr} (ha : PE X ea (tE γ C W a)) (hl : PO X elo (tO γ C W lo)) (hh : PO X ehi (tO γ C W hi)) : PE X (.Subscript ea (.Slice elo ehi none p) pos) (tE γ C W (.sli a lo hi)) := by
  refine pei (pe_slice (sl_sli M.g.lk) ha hl hh) fun σ H Q q => ?_
  obtain ⟨κ, ρ, st, e, q⟩ := q
  simp only [ev] at q
  refine ⟨κ, ρ, st, e, q.bnd fun dx s1 κ1 H1 x e1 so1 hx q => ⟨κ1, ρ, s1, e.mono e1 so1, q.bnd fun l s2 κ2 H2 l' e2 so2 hy q => ⟨κ2, ρ, s2, (e.mono e1 so1).mono e2 so2, q.bnd fun h s3 κ3 H3 h' e3 so3 hz q => ?_⟩⟩⟩
  subst hy hz
  obtain ⟨d, hd, q⟩ := q.optE
  exact ⟨κ3, s3, dx, d, so3, (hx.mono e2).mono e3, hd, q⟩
theorem te_rev (M : Mx γ C k m X) {j : Nat} {p4 : Pos} (ha : PE X ea (tE γ C W a)) : PE X (.Subscript ea (.Slice none none (some (.UnaryOp .USub (.Constant (.int 1) j p4) p3)) p2) pos) (tE γ C W (.rev a)) := by
  refine pei (pe_revL ha) fun σ H Q q => ?_
  obtain ⟨κ, ρ, st, e, q⟩ := q
  simp only [ev] at q
  refine ⟨κ, ρ, st, e, q.bnd fun dx s1 κ1 H1 x e1 so1 hx q => ?_⟩
  obtain ⟨d, hd, q⟩ := q.optE
  have hr : ∃ ys, lstOf s1 dx = some ys ∧ d = .lst ys.reverse := by
    cases dx <;> first | (cases hd; done) | skip
    · exact ⟨_, rfl, (Option.some.inj hd).symm⟩
    · exact ⟨_, rfl, (Option.some.inj hd).symm⟩
  obtain ⟨ys, h1, rfl⟩ := hr
  obtain ⟨t, vs, rfl, h2, h3⟩ := lstOf_is so1 hx h1
  exact ⟨t, vs, rfl, .inl (.inl h2), fun l hl => q _ _ _ (Ext.new hl) (so1.new hl) (new_lst so1 hl h3.reverse)⟩
/-! ### calls -/
theorem te_call (M : Mx γ C k m X) (tk : Takes X W) {f : F} {x : PySem.Str} (hc : m.cm = true) (hg : mGl m (nmF f) x = true) (hes : mEs m es xs = true) (hr : PA X xs (tEs γ C W es)) :
    PE X (.Call (.Name x p) xs [] pos) (tE γ C W (.call f es)) := by
  obtain ⟨h1, h2, h3⟩ := mgl_of M hg
  subst h1
  have key : ∀ σ H Q, tE γ C W (.call f es) σ H Q → tEs γ C W es σ H fun vs H1 => spC γ C f vs H1 Q (fun c d H' => W c d σ H') := by
    intro σ H Q q
    obtain ⟨κ, ρ, st, e, q⟩ := q
    simp only [ev] at q
    refine ⟨κ, ρ, st, e, q.bnd fun ds s1 κ1 H1 vs e1 so1 hx q => ?_⟩
    refine ⟨?_, κ1, s1, ds, so1, hx, q⟩
    rw [hx.length]
    by_cases hl : ds.length = (psF f).length
    · exact hl
    · rw [M.g.len f ds s1 hl] at q
      exact q.elim
  cases xs with
  | nil =>
    refine ⟨fun pins s σ H Q I q => ?_⟩
    refine wpAny_Call_Name_kw (ld_glob I h2 (M.g.gf f) ?_ h3)
    have hn : es = [] := by cases es with | nil => rfl | cons => simp [mEs] at hes
    subst hn
    obtain ⟨κ, ρ, st, e, q⟩ := key σ H Q q
    simp only [evs] at q
    exact PySem.W.callWith_K0 I.kIn (M.g.kf f) (run_fnS (us := []) (E := fun σ c d H' => W c d σ H') (M.g.fn f) (M.cm hc).2 (M.g.bf f) (passAt tk σ) I .nil (q κ H [] .refl e.st rfl))
  | cons x0 xs =>
    have hst := mEs_plain (env := X.env) hes
    refine pei (pe_callS (E := fun σ c d H' => W c d σ H') (M.g.fn f) (M.cm hc).2 h2 (M.g.gf f) (M.g.kf f) (M.g.bf f) (fun σ => passAt tk σ) hr h3 ?_ ?_) key
    · rw [hst]
      cases es with
      | nil => simp [mEs] at hes
      | cons a es =>
        simp only [mEs, Bool.and_eq_true] at hes
        rw [mEs_plain hes.2]
        rfl
    · cases es with
      | nil => simp [mEs] at hes
      | cons a es =>
        simp only [mEs, Bool.and_eq_true] at hes
        rw [mEs_plain hes.2]
        exact back_any pos xs X.env
theorem te_callv (M : Mx γ C k m X) (tk : Takes X W) {i : Nat} {x : PySem.Str} {x0 : Expr} (hc : m.cm = true) (hg : mVar m i x = true) (hes : mEs m es (x0 :: xs) = true) (hr : PA X (x0 :: xs) (tEs γ C W es)) :
    PE X (.Call (.Name x p) (x0 :: xs) [] pos) (tE γ C W (.callv i es)) := by
  obtain ⟨h1, h2, h3, h4⟩ := mvar_of M hg
  refine ⟨fun pins s σ H Q I q => ?_⟩
  obtain ⟨κ, ρ, st, e, q⟩ := q
  simp only [ev] at q
  cases hd : getS ρ i with
  | none => rw [hd] at q; exact q.elim
  | some d =>
    rw [hd] at q
    cases d with
    | fn f =>
      obtain ⟨v, g1, g2⟩ := e.sl i _ hd
      have g2 : v = .ref (γ.fa f) := by
        have g3 : IsP γ H κ (.fn f) v := g2
        simpa only [IsP] using g3
      subst g2
      refine wpAny_Call_Name_kw (thn ((pe_var (pos := p) h1 h2 h3 h4).run pins s σ H (fun v H1 => v = .ref (γ.fa f) ∧ H1 = H) I ⟨.ref (γ.fa f), g1, rfl, rfl⟩) fun u s1 ⟨v, H1, I1, r1, q1⟩ => ?_)
      obtain ⟨rfl, rfl⟩ := q1
      cases r1
      have q2 : tEs γ C W es σ H1 fun vs H1 => spC γ C f vs H1 Q (fun c d H' => W c d σ H') := by
        refine ⟨κ, ρ, st, e, PostR.bnd q fun ds s1 κ1 H1 vs e1 so1 hx q => ?_⟩
        refine ⟨?_, κ1, s1, ds, so1, hx, q⟩
        rw [hx.length]
        by_cases hl : ds.length = (psF f).length
        · exact hl
        · rw [M.g.len f ds s1 hl] at q
          exact q.elim
      have hst := mEs_plain (env := X.env) hes
      have he : starEach (x0 :: xs) X.env = (false, eval x0 X.env) :: starEach xs X.env := by
        rw [hst]
        cases es with
        | nil => simp [mEs] at hes
        | cons a es =>
          simp only [mEs, Bool.and_eq_true] at hes
          rw [mEs_plain hes.2]
          rfl
      have hp : ((backTo pos (starEach xs X.env)).any fun x => x.fst) = false := by
        cases es with
        | nil => simp [mEs] at hes
        | cons a es =>
          simp only [mEs, Bool.and_eq_true] at hes
          rw [mEs_plain hes.2]
          exact back_any pos xs X.env
      refine PySem.W.callWith_K (h₀ := X.base) I.ok.mod.kin (M.g.kf f) (thn (hr.run pos pins s1 σ _ _ I1 q2) fun us s2 ⟨vs, H2, I2, r, q⟩ => ⟨I2.kIn, ?_⟩) he hp
      exact run_fnS (E := fun σ c d H' => W c d σ H') (M.g.fn f) (M.cm hc).2 (M.g.bf f) (passAt tk σ) I2 r q
    | _ => exact q.elim
theorem kwEach : ∀ (kws : List Keyword) (env : Env), keywordEach kws env = kws.map fun q => (q.arg, eval q.value env)
  | [], _ => rfl
  | ⟨_, _, _⟩ :: kws, env => by
    rw [List.map_cons, ← kwEach kws env]; rfl
theorem te_callk (M : Mx γ C k m X) (tk : Takes X W) {f : F} {x : PySem.Str} {kws : List Keyword} (hc : m.cm = true) (hg : mGl m (nmF f) x = true) (hn : (kws.map fun q => q.arg) = (psF f).map some) (hr : PK X kws (tEs γ C W es)) :
    PE X (.Call (.Name x p) [] kws pos) (tE γ C W (.callk f [] es)) := by
  obtain ⟨h1, h2, h3⟩ := mgl_of M hg
  subst h1
  have key : ∀ σ H Q, tE γ C W (.callk f [] es) σ H Q → tEs γ C W es σ H fun vs H1 => spC γ C f vs H1 Q (fun c d H' => W c d σ H') := by
    intro σ H Q q
    obtain ⟨κ, ρ, st, e, q⟩ := q
    simp only [ev, evs, bind_ok, List.nil_append] at q
    refine ⟨κ, ρ, st, e, q.bnd fun ds s1 κ1 H1 vs e1 so1 hx q => ?_⟩
    refine ⟨?_, κ1, s1, ds, so1, hx, q⟩
    rw [hx.length]
    by_cases hl : ds.length = (psF f).length
    · exact hl
    · rw [M.g.len f ds s1 hl] at q
      exact q.elim
  have e1 : ∀ (l : List Keyword), (backToKw pos (keywordEach l X.env)).map (fun x => x.1) = l.map fun q => q.arg := by
    intro l
    unfold backToKw
    rw [kwEach, List.map_map, List.map_map]
    rfl
  have e2 : ∀ (l : List (Option PySem.Str × Sem Value)) (ns : List PySem.Str), l.map (fun x => x.1) = ns.map some → l.all (fun x => x.1.isSome) = true ∧ l.filterMap (fun x => x.1) = ns ∧ (l.any fun x => x.1.isNone) = false := by
    intro l
    induction l with
    | nil => intro ns h; cases ns with | nil => exact ⟨rfl, rfl, rfl⟩ | cons => cases h
    | cons y l ih =>
      intro ns h
      cases ns with
      | nil => cases h
      | cons n ns =>
        rw [List.map_cons, List.map_cons] at h
        injection h with h4 h5
        obtain ⟨g1, g2, g3⟩ := ih ns h5
        refine ⟨by rw [List.all_cons, h4, g1]; rfl, by rw [List.filterMap_cons, h4, g2], by rw [List.any_cons, h4, g3]; rfl⟩
  obtain ⟨g1, g2, g3⟩ := e2 _ _ ((e1 kws).trans hn)
  refine ⟨fun pins s σ H Q I q => ?_⟩
  refine wpAny_Call_Name_kw (ld_glob I h2 (M.g.gf f) ?_ h3)
  refine PySem.W.callWith_KW0 (h₀ := X.base) I.ok.mod.kin (M.g.kf f) g1 ?_ (by rw [g3]; rfl)
  refine thn (hr.run pos pins s σ H _ I (key σ H Q q)) fun ws s2 ⟨zs, H2, I2, rz, q2⟩ => ⟨I2.kIn, ?_⟩
  rw [g2]
  refine wpAny_call (codeAny_mono ((M.g.fn f).run X.A X.stack s2 H2 ⟨[], (psF f).zip ws⟩ ws zs Q (fun c d H' => W c d σ H') (M.cm hc).2 I2.env0 (M.g.kb f s2 ws I2.kIn (rz.length.symm.trans q2.1)) rz q2) fun r s' hq => ?_)
  cases r with
  | error e => exact passAt tk σ pins H2 s2 e s' I2 hq
  | ok fl =>
    cases fl with
    | ret u => exact I2.after hq
    | next => exact False.elim hq
    | brk => exact False.elim hq
    | cont => exact False.elim hq
end
section
variable {γ : Wd} {C : F → List D → Store → R D} {k : Nat} {m : Mc} {X : Cx} {W : WX} {H H1 H2 H' : Hp} {κ κ1 κ2 κ' : List Addr} {st st' : Store}
variable {a b c : E} {ea eb ec : Expr} {pos p p2 p3 : Pos} {es : List E} {xs : List Expr}
/-! ### built-in functions -/
theorem key_bi {bi : Bi} : ∀ σ H Q, tE γ C W (.bi bi es) σ H Q → tEs γ C W es σ H fun vs H1 => rBi γ bi vs H1 Q := by
  intro σ H Q q
  obtain ⟨κ, ρ, st, e, q⟩ := q
  simp only [ev] at q
  refine ⟨κ, ρ, st, e, q.bnd fun ds s1 κ1 H1 vs e1 so1 hx q => ?_⟩
  obtain ⟨d, hd, q⟩ := q.optE
  exact ⟨κ1, s1, ds, d, so1, hx, hd, q⟩
theorem free_in (M : Mx γ C k m X) {x : PySem.Str} (h : freeNames.contains x = true) : X.mg x = none := M.g.gb x (by simpa using h)
theorem te_biB (M : Mx γ C k m X) {bi : Bi} {id : String} {x0 : Expr} (cr : CallR X (.builtin id) (rBi γ bi)) (hv : bootBuiltins (nmB bi) = some (.builtin id)) (hf : freeNames.contains (nmB bi) = true) (hn : (nmB bi) ≠ ("__name__" : PySem.Str))
    {x : PySem.Str} (hg : mGl m (nmB bi) x = true) (hes : mEs m es (x0 :: xs) = true) (hr : PA X (x0 :: xs) (tEs γ C W es)) : PE X (.Call (.Name x p) (x0 :: xs) [] pos) (tE γ C W (.bi bi es)) := by
  obtain ⟨h1, h2, h3⟩ := mgl_of M hg
  subst h1
  have hst := mEs_plain (env := X.env) hes
  refine pei (pe_callB cr h2 (free_in M hf) hv hr hn h3 ?_ ?_) key_bi
  · rw [hst]
    cases es with
    | nil => simp [mEs] at hes
    | cons a es =>
      simp only [mEs, Bool.and_eq_true] at hes
      rw [mEs_plain hes.2]
      rfl
  · cases es with
    | nil => simp [mEs] at hes
    | cons a es =>
      simp only [mEs, Bool.and_eq_true] at hes
      rw [mEs_plain hes.2]
      exact back_any pos xs X.env
theorem te_biT (M : Mx γ C k m X) {bi : Bi} {id : String} {x0 : Expr} (cr : CallR X (.type id) (rBi γ bi)) (hv : bootBuiltins (nmB bi) = some (.type id)) (hf : freeNames.contains (nmB bi) = true) (hn : (nmB bi) ≠ ("__name__" : PySem.Str))
    {x : PySem.Str} (hg : mGl m (nmB bi) x = true) (hes : mEs m es (x0 :: xs) = true) (hr : PA X (x0 :: xs) (tEs γ C W es)) : PE X (.Call (.Name x p) (x0 :: xs) [] pos) (tE γ C W (.bi bi es)) := by
  obtain ⟨h1, h2, h3⟩ := mgl_of M hg
  subst h1
  have hst := mEs_plain (env := X.env) hes
  refine pei (pe_callTy cr h2 (free_in M hf) hv hr hn h3 ?_ ?_) key_bi
  · rw [hst]
    cases es with
    | nil => simp [mEs] at hes
    | cons a es =>
      simp only [mEs, Bool.and_eq_true] at hes
      rw [mEs_plain hes.2]
      rfl
  · cases es with
    | nil => simp [mEs] at hes
    | cons a es =>
      simp only [mEs, Bool.and_eq_true] at hes
      rw [mEs_plain hes.2]
      exact back_any pos xs X.env
theorem cr_str : CallR X (.type "str") (rBi γ .str) := by
  intro pins s σ H xs us Q I r h
  obtain ⟨κ, st, ds, d, so, hx, e, q⟩ := h
  match ds, e with
  | [], e => cases e
  | [_], e => cases e
  | _ :: _ :: _, e => cases e
theorem te_bi (M : Mx γ C k m X) {bi : Bi} {x0 : Expr} {x : PySem.Str} (hc : m.cm = true) (hg : mGl m (nmB bi) x = true) (hes : mEs m es (x0 :: xs) = true) (hr : PA X (x0 :: xs) (tEs γ C W es)) :
    PE X (.Call (.Name x p) (x0 :: xs) [] pos) (tE γ C W (.bi bi es)) := by
  have L := M.g.lk
  have hc := M.calm hc
  cases bi
  · exact te_biB M (cr_len L) (by decide +kernel) (by decide +kernel) (by decide +kernel) hg hes hr
  · exact te_biB M cr_abs (by decide +kernel) (by decide +kernel) (by decide +kernel) hg hes hr
  · exact te_biT M cr_int (by decide +kernel) (by decide +kernel) (by decide +kernel) hg hes hr
  · exact te_biB M (cr_minD hc) (by decide +kernel) (by decide +kernel) (by decide +kernel) hg hes hr
  · exact te_biB M (cr_maxD hc) (by decide +kernel) (by decide +kernel) (by decide +kernel) hg hes hr
  · exact te_biB M (cr_sortedD hc L) (by decide +kernel) (by decide +kernel) (by decide +kernel) hg hes hr
  · exact te_biT M (cr_tuple L) (by decide +kernel) (by decide +kernel) (by decide +kernel) hg hes hr
  · exact te_biB M (cr_allD hc) (by decide +kernel) (by decide +kernel) (by decide +kernel) hg hes hr
  · exact te_biB M (cr_anyD hc) (by decide +kernel) (by decide +kernel) (by decide +kernel) hg hes hr
  · exact te_biT M cr_str (by decide +kernel) (by decide +kernel) (by decide +kernel) hg hes hr
  · exact te_biB M (cr_sumD hc) (by decide +kernel) (by decide +kernel) (by decide +kernel) hg hes hr
  · exact te_biT M (cr_set hc L) (by decide +kernel) (by decide +kernel) (by decide +kernel) hg hes hr
  · exact te_biT M (cr_dict hc L) (by decide +kernel) (by decide +kernel) (by decide +kernel) hg hes hr
/-! ### isinstance -/
def tyD : D → String
  | .non => "NoneType" | .bl _ => "bool" | .int _ => "int" | .str _ => "str" | .tup _ => "tuple" | _ => "list"
theorem tyx_of {K : PySem.W.Frag} {d : D} {v : V} (hK : γ.K = K) (so : StOk γ H κ st) (h : Is γ H κ d v) (ho : tyOk d = true) : TyX K H v (.type (tyD d)) := by
  subst hK
  cases d <;> first | (cases ho; done) | skip
  · cases (show v = .non from h); exact .base .non
  · cases (show v = .bl _ from h); exact .base (.bl _)
  · cases (show v = .int _ from h); exact .base (.int _)
  · cases (show v = .str _ from h); exact .base (.str _)
  · obtain ⟨a, vs, rfl, h1, h2⟩ := is_tup.mp h
    rcases h1 with ⟨h1, _⟩ | ⟨o, its, n, h1, h2, h3⟩
    · exact .base (.tup h1)
    · exact .kTuple h1 h2
  · obtain ⟨a, vs, rfl, h1, h2⟩ := is_lst.mp h
    exact .base (.lst h1.1)
  · obtain ⟨a, rfl, h1⟩ := h
    rcases h1 with ⟨h1 | ⟨o, h1⟩, _⟩ | ⟨o, its, n, h1, h2, h3⟩
    · exact .base (.lst h1)
    · exact .base (.frz h1)
    · exact .kList h1 h2
  · obtain ⟨a, h1, rfl⟩ := h
    obtain ⟨vs, h2⟩ := so.there (List.mem_of_getElem? h1)
    exact .base (.lst h2)
theorem kit_is {K : PySem.W.Frag} {d : D} {t : Ty} (ho : tyOk d = true) : PySem.W.kitOne K (.type (tyD d)) (.type (tyT t)) = some (isTy d t) := by
  refine kit_ty ?_
  cases d <;> first | (cases ho; done) | skip
  all_goals cases t <;> simp only [tyD, isTy] <;> decide +kernel
theorem bty (t : Ty) : bootBuiltins (nmT t) = some (.type (tyT t)) := by cases t <;> decide +kernel
theorem free_ty (t : Ty) : freeNames.contains (nmT t) = true := by cases t <;> decide +kernel
theorem nty (t : Ty) : nmT t ≠ ("__name__" : PySem.Str) := by cases t <;> decide +kernel
theorem pe_ty (M : Mx γ C k m X) {t : Ty} {x : PySem.Str} (hg : mGl m (nmT t) x = true) : PE X (.Name x p) (tC (.ty (tyT t))) := by
  obtain ⟨h1, h2, h3⟩ := mgl_of M hg
  subst h1
  exact pe_bltn h2 (free_in M (free_ty t)) (bty t) rfl (nty t) h3
theorem te_isi1 (M : Mx γ C k m X) {t : Ty} {x y : PySem.Str} (hg : mGl m "isinstance" x = true) (hy : mGl m (nmT t) y = true) (ha : PE X ea (tE γ C W a)) (hm : plainE ea = true) :
    PE X (.Call (.Name x p) [ea, .Name y p2] [] pos) (tE γ C W (.isi a [t] false)) := by
  obtain ⟨h1, h2, h3⟩ := mgl_of M hg
  subst h1
  refine pei (pe_callB call_isi h2 (free_in M (by decide +kernel)) (by decide +kernel) (pa_cons ha (pa_cons (pe_ty M hy) pa_nil (star_of rfl)) (star_of hm)) (by decide +kernel) h3 (star_of hm) rfl) fun σ H Q q => ?_
  obtain ⟨κ, ρ, st, e, q⟩ := q
  simp only [ev] at q
  refine ⟨κ, ρ, st, e, q.bnd fun dx s1 κ1 H1 v e1 so1 hx q => ?_⟩
  split at q
  · rename_i ho
    refine ⟨v, .ty (tyT t), _, _, isTy dx t, rfl, .ty _, tyx_of M.g.lk.K.symm so1 hx ho, kit_is ho, ?_⟩
    have e2 : ([t].any (isTy dx)) = isTy dx t := by simp
    rw [← e2]
    exact q κ1 H1 _ .refl so1 rfl
  · exact q.elim
def clsV : List Ty → List V := List.map fun t => .ty (tyT t)
theorem pa_ty (M : Mx γ C k m X) : ∀ {ts : List Ty} {xs : List Expr}, mTy m ts xs = true → PA X xs (fun σ H Q => Q (clsV ts) H)
  | [], [], _ => pa_nil
  | [], _ :: _, h => by simp [mTy] at h
  | _ :: _, [], h => by simp [mTy] at h
  | t :: ts, x :: xs, h => by
    cases x <;> first | (simp [mTy] at h; done) | skip
    simp only [mTy, Bool.and_eq_true] at h
    exact pai (pa_cons (pe_ty M h.1) (pa_ty M h.2) (star_of rfl)) fun σ H Q q => q
theorem kitAny_is {K : PySem.W.Frag} {d : D} (ho : tyOk d = true) : ∀ ts : List Ty, PySem.W.kitAny K (.type (tyD d)) (ts.map fun t => Value.type (tyT t)) = some (ts.any (isTy d))
  | [] => rfl
  | t :: ts => by
    rw [List.map_cons, List.any_cons]
    refine kitAny_cons (kit_is ho) (fun e => ?_) (fun e => ?_)
    · rw [kitAny_is ho ts, e]; rfl
    · rw [e]; rfl
theorem paired_ty : ∀ ts : List Ty, Paired ClsV (clsV ts) (ts.map fun t => Value.type (tyT t))
  | [] => .nil
  | t :: ts => .cons (.ty _) (paired_ty ts)
theorem te_isiT (M : Mx γ C k m X) {ts : List Ty} {x : PySem.Str} {j : Nat} (hl : ts.length ≤ 1000) (hg : mGl m "isinstance" x = true) (hy : mTy m ts xs = true) (ha : PE X ea (tE γ C W a)) (hm : plainE ea = true) :
    PE X (.Call (.Name x p) [ea, .Tuple xs j p2] [] pos) (tE γ C W (.isi a ts true)) := by
  obtain ⟨h1, h2, h3⟩ := mgl_of M hg
  subst h1
  refine pei (pe_callB call_isiT h2 (free_in M (by decide +kernel)) (by decide +kernel) (pa_cons ha (pa_cons (pe_tup (pa_ty M hy)) pa_nil (star_of rfl)) (star_of hm)) (by decide +kernel) h3 (star_of hm) rfl) fun σ H Q q => ?_
  obtain ⟨κ, ρ, st, e, q⟩ := q
  simp only [ev] at q
  refine ⟨κ, ρ, st, e, q.bnd fun dx s1 κ1 H1 v e1 so1 hx q => ?_⟩
  refine ⟨by show (clsV ts).length ≤ _; rw [clsV, List.length_map]; exact len_le hl, fun tp htp => ?_⟩
  split at q
  · rename_i ho
    exact ⟨v, tp, _, _, _, _, rfl, upd_same, paired_ty ts, tyx_of M.g.lk.K.symm (so1.new htp) (hx.mono (Ext.new htp)) ho, kitAny_is ho ts, q _ _ _ (Ext.new htp) (so1.new htp) rfl⟩
  · exact q.elim
/-! ### pop -/
theorem te_pop (M : Mx γ C k m X) {y : PySem.Str} {apos cpos py : Pos} (hl : (apos.endLine == cpos.line) = true) (ha : PE X (.Name y py) (tE γ C W a)) (hb : PE X eb (tE γ C W b)) (hm : plainE eb = true) :
    PE X (.Call (.Attribute (.Name y py) "pop" apos) [eb] [] cpos) (tE γ C W (.pop a b)) := by
  refine pei (pe_bm PySem.F.plainAttrs_list PySem.F.slot_list_pop PySem.F.type_list_pop mt_popAt ha (pa_cons hb pa_nil (star_of hm)) rfl ?_ hl (star_of hm) rfl) fun σ H Q q => ?_
  · rw [star_of hm]; rfl
  obtain ⟨κ, ρ, st, e, q⟩ := q
  simp only [ev] at q
  refine ⟨κ, ρ, st, e, q.bnd fun dx s1 κ1 H1 x e1 so1 hx q => ?_⟩
  cases dx with
  | cell j =>
    obtain ⟨l, hl1, rfl⟩ := hx
    obtain ⟨vs, hvs⟩ := so1.there (List.mem_of_getElem? hl1)
    refine ⟨.inl ⟨rfl, vs, .inl (.inl hvs)⟩, ⟨κ1, ρ, s1, e.mono e1 so1, q.bnd fun dy s2 κ2 H2 y e2 so2 hy q => ?_⟩⟩
    cases dy with
    | int i =>
      cases (show y = .int i from hy)
      have hl2 : κ2[j]? = some l := by
        obtain ⟨mo, em, _⟩ := e2.pre
        rw [em]; exact (List.getElem?_append_left (List.getElem?_eq_some_iff.mp hl1).1).trans hl1
      dsimp only at q
      split at q
      · rename_i hi
        cases hg : (s2.getD j [])[i.toNat]? with
        | none => rw [hg] at q; exact q.elim
        | some d =>
          rw [hg] at q
          have hj : j < s2.length := by rw [← so2.len]; exact (List.getElem?_eq_some_iff.mp hl2).1
          have hgd : s2[j]? = some (s2.getD j []) := by rw [List.getD_eq_getElem?_getD, List.getElem?_eq_getElem hj]; rfl
          obtain ⟨ws, hw, his⟩ := so2.at_ j l _ hl2 hgd
          obtain ⟨v, hv, hvd⟩ := his.get hg
          have hil : i.toNat < ws.length := (List.getElem?_eq_some_iff.mp hv).1
          have hm2 := List.mem_of_getElem? hl2
          refine ⟨l, ws, i, i.toNat, v, rfl, rfl, hw, by omega, by omega, ?_, hv, ?_⟩
          · exact (ixN_seq (by unfold ixN; rw [if_pos (by omega), if_pos (by omega)])).1
          · have e3 : Ext κ2 H2 κ2 (upd H2 l (.lst (ws.eraseIdx i.toNat))) := Ext.write hm2 (by rw [hw]; exact fun q => nomatch q)
            refine q κ2 _ v e3 (so2.write hl2 (his.erase i.toNat)) (Is.ofP (IsP.mono e3 _ _ hvd))
      · exact q.elim
    | _ => exact q.elim
  | _ => exact q.elim
end
section
variable {γ : Wd} {C : F → List D → Store → R D} {k : Nat} {m : Mc} {X : Cx} {W : WX} {H H1 H2 H' : Hp} {κ κ1 κ2 κ' : List Addr} {st st' : Store}
variable {a b c : E} {ea eb ec : Expr} {pos p p2 p3 : Pos} {es : List E} {xs : List Expr}
/-! ### what is walked -/
def Srv (γ : Wd) (κ : List Addr) (H : Hp) (J : It) (sv : Sv) : Prop := ∀ κ' H' st', Ext κ H κ' H' → StOk γ H' κ' st' → ∀ i, match sv.at st' i with
  | some d => J.go i H' ∧ ∀ x H'', J.yld i H' x H'' → Ext κ' H' κ' H'' ∧ StOk γ H'' κ' st' ∧ Is γ H'' κ' d x
  | none => J.stop i H'
theorem Srv.ext {J : It} {sv : Sv} (e : Ext κ H κ1 H1) (h : Srv γ κ H J sv) : Srv γ κ1 H1 J sv := fun κ' H' st' x so => h κ' H' st' (e.trans x) so
theorem Srv.congr {J : It} {sv sv' : Sv} (he : ∀ st i, sv'.at st i = sv.at st i) (h : Srv γ κ H J sv) : Srv γ κ H J sv' := fun κ' H' st' x so i => by
  rw [he]
  exact h κ' H' st' x so i
/-- a list at p is served by sv -/
def LSrv (γ : Wd) (S : Hp → Addr → List V → Prop) (κ : List Addr) (H : Hp) (p : Addr) (sv : Sv) : Prop := ∀ κ' H' st', Ext κ H κ' H' → StOk γ H' κ' st' → ∃ vs ds, S H' p vs ∧ IsPs γ H' κ' ds vs ∧ ∀ i, sv.at st' i = ds[i]?
theorem IsPs.none {xs : List D} {vs : List V} {i : Nat} (h : IsPs γ H κ xs vs) (e : xs[i]? = .none) : vs.length ≤ i := by
  rw [h.length]
  exact List.getElem?_eq_none_iff.mp e
theorem srv_itl {p : Addr} {sv : Sv} (h : LSrv γ (SqL γ.K) κ H p sv) : Srv γ κ H (Itl γ.K p) sv := fun κ' H' st' x so i => by
  obtain ⟨vs, ds, h1, h2, h3⟩ := h κ' H' st' x so
  rw [h3]
  cases hd : ds[i]? with
  | none => exact ⟨vs, h1, h2.none hd⟩
  | some d =>
    obtain ⟨v, hv, hi⟩ := h2.get hd
    refine ⟨⟨vs, v, h1, hv⟩, fun y H'' ⟨e, q⟩ => ?_⟩
    subst e
    have e2 := (q vs h1).symm.trans hv
    cases e2
    exact ⟨.refl, so, .ofP hi⟩
theorem srv_itt {p : Addr} {sv : Sv} (h : LSrv γ (SqT γ.K) κ H p sv) : Srv γ κ H (Itt γ.K p) sv := fun κ' H' st' x so i => by
  obtain ⟨vs, ds, h1, h2, h3⟩ := h κ' H' st' x so
  rw [h3]
  cases hd : ds[i]? with
  | none => exact ⟨vs, h1, h2.none hd⟩
  | some d =>
    obtain ⟨v, hv, hi⟩ := h2.get hd
    refine ⟨⟨vs, v, h1, hv⟩, fun y H'' ⟨e, q⟩ => ?_⟩
    subst e
    have e2 := (q vs h1).symm.trans hv
    cases e2
    exact ⟨.refl, so, .ofP hi⟩
theorem is_pair {p : Addr} {d1 d2 : D} {v w : V} (so : StOk γ H κ st) (hp : H p = none) (h1 : IsP γ H κ d1 v) (h2 : IsP γ H κ d2 w) : Is γ (upd H p (.tup [v, w])) κ (.tup [d1, d2]) (.ref p) :=
  new_tup so hp (by simp only [IsPs]; exact ⟨v, [w], rfl, h1, w, [], rfl, h2, rfl⟩)
theorem srv_itz {p q : Addr} {sv sw : Sv} (h : LSrv γ (SqL γ.K) κ H p sv) (h' : LSrv γ (SqL γ.K) κ H q sw) : Srv γ κ H (Itz γ.K p q) (.z sv sw) := fun κ' H' st' x so i => by
  obtain ⟨vs, ds, h1, h2, h3⟩ := h κ' H' st' x so
  obtain ⟨ws, es, g1, g2, g3⟩ := h' κ' H' st' x so
  simp only [Sv.at, h3, g3]
  cases hd : ds[i]? with
  | none => exact ⟨vs, ws, h1, g1, .inl (h2.none hd)⟩
  | some d =>
    cases he : es[i]? with
    | none => exact ⟨vs, ws, h1, g1, .inr (g2.none he)⟩
    | some e =>
      obtain ⟨v, hv, hi⟩ := h2.get hd
      obtain ⟨w, hw, hj⟩ := g2.get he
      refine ⟨⟨vs, ws, v, w, h1, g1, hv, hw⟩, fun y H'' ⟨T, x1, y1, e1, e2, e3, e4, e5⟩ => ?_⟩
      have z1 := (e4 vs h1).symm.trans hv
      have z2 := (e5 ws g1).symm.trans hw
      cases z1
      cases z2
      subst e1 e3
      exact ⟨Ext.new e2, so.new e2, is_pair so e2 hi hj⟩
theorem srv_itzT {p q : Addr} {sv sw : Sv} (h : LSrv γ (SqT γ.K) κ H p sv) (h' : LSrv γ (SqT γ.K) κ H q sw) : Srv γ κ H (RZ.ItzT γ.K p q) (.z sv sw) := fun κ' H' st' x so i => by
  obtain ⟨vs, ds, h1, h2, h3⟩ := h κ' H' st' x so
  obtain ⟨ws, es, g1, g2, g3⟩ := h' κ' H' st' x so
  simp only [Sv.at, h3, g3]
  cases hd : ds[i]? with
  | none => exact ⟨vs, ws, h1, g1, .inl (h2.none hd)⟩
  | some d =>
    cases he : es[i]? with
    | none => exact ⟨vs, ws, h1, g1, .inr (g2.none he)⟩
    | some e =>
      obtain ⟨v, hv, hi⟩ := h2.get hd
      obtain ⟨w, hw, hj⟩ := g2.get he
      refine ⟨⟨vs, ws, v, w, h1, g1, hv, hw⟩, fun y H'' ⟨T, x1, y1, e1, e2, e3, e4, e5⟩ => ?_⟩
      have z1 := (e4 vs h1).symm.trans hv
      have z2 := (e5 ws g1).symm.trans hw
      cases z1
      cases z2
      subst e1 e3
      exact ⟨Ext.new e2, so.new e2, is_pair so e2 hi hj⟩
theorem srv_ite {p : Addr} {sv : Sv} (h : LSrv γ (SqL γ.K) κ H p sv) : Srv γ κ H (Ite γ.K p) (.en sv) := fun κ' H' st' x so i => by
  obtain ⟨vs, ds, h1, h2, h3⟩ := h κ' H' st' x so
  simp only [Sv.at, h3]
  cases hd : ds[i]? with
  | none => exact ⟨vs, h1, h2.none hd⟩
  | some d =>
    obtain ⟨v, hv, hi⟩ := h2.get hd
    refine ⟨⟨vs, v, h1, hv⟩, fun y H'' ⟨T, x1, e1, e2, e3, e4⟩ => ?_⟩
    have z1 := (e4 vs h1).symm.trans hv
    cases z1
    subst e1 e3
    exact ⟨Ext.new e2, so.new e2, is_pair so e2 (by simp only [IsP]) hi⟩
theorem range_get (a : Int) (n i : Nat) : (rangeL a n)[i]? = if i < n then some (.int (a + (i : Int))) else none := by
  unfold rangeL
  rw [List.getElem?_map]
  by_cases h : i < n
  · rw [if_pos h, List.getElem?_range h]; rfl
  · rw [if_neg h, List.getElem?_eq_none (by rw [List.length_range]; omega)]; rfl
theorem srv_itr {a : Int} {n : Nat} : Srv γ κ H (Itr a n) (.l (rangeL a n)) := fun κ' H' st' x so i => by
  show match (rangeL a n)[i]? with | some d => _ | none => _
  rw [range_get]
  by_cases h : i < n
  · rw [if_pos h]
    refine ⟨h, fun y H'' ⟨e1, e2⟩ => ?_⟩
    subst e1 e2
    exact ⟨.refl, so, rfl⟩
  · rw [if_neg h]
    exact Nat.le_of_not_lt h
/-- what a list | a tuple is served by -/
theorem lsrv_lst {d : D} {v : V} {xs : List D} (h : Is γ H κ d v) (e : d = .lst xs) : ∃ p, v = .ref p ∧ LSrv γ (SqL γ.K) κ H p (.l xs) := by
  subst e
  obtain ⟨p, vs, rfl, h1, h2⟩ := is_lst.mp h
  exact ⟨p, rfl, fun κ' H' st' x so => ⟨vs, xs, (h1.mono x).sq, IsPs.mono x _ _ h2, fun i => rfl⟩⟩
theorem lsrv_ro {v : V} {ns : List Int} (h : Is γ H κ (.ro ns) v) : ∃ p, v = .ref p ∧ LSrv γ (SqL γ.K) κ H p (.l (ns.map .int)) := by
  have h' := h
  obtain ⟨p, rfl, h1⟩ := h
  refine ⟨p, rfl, fun κ' H' st' x so => ?_⟩
  obtain ⟨p', e, h4⟩ := h'.mono x
  cases e
  exact ⟨_, _, h4.sq, vals_ints ns, fun i => rfl⟩
theorem lsrv_cell {v : V} {j : Nat} (so0 : StOk γ H κ st) (h : Is γ H κ (.cell j) v) : ∃ p, v = .ref p ∧ LSrv γ (SqL γ.K) κ H p (.c j) := by
  obtain ⟨p, h1, rfl⟩ := h
  refine ⟨p, rfl, fun κ' H' st' x so => ?_⟩
  obtain ⟨mo, em, _⟩ := x.pre
  have hl : κ'[j]? = some p := by
    rw [em]; exact (List.getElem?_append_left (List.getElem?_eq_some_iff.mp h1).1).trans h1
  have hj : j < st'.length := by rw [← so.len]; exact (List.getElem?_eq_some_iff.mp hl).1
  have hg : st'[j]? = some (st'.getD j []) := by rw [List.getD_eq_getElem?_getD, List.getElem?_eq_getElem hj]; rfl
  obtain ⟨vs, h3, h4⟩ := so.at_ j p _ hl hg
  exact ⟨vs, _, SqL.of h3, h4, fun i => rfl⟩
theorem lsrv_tup {v : V} {xs : List D} (h : Is γ H κ (.tup xs) v) : ∃ p, v = .ref p ∧ LSrv γ (SqT γ.K) κ H p (.l xs) := by
  obtain ⟨p, vs, rfl, h1, h2⟩ := is_tup.mp h
  exact ⟨p, rfl, fun κ' H' st' x so => ⟨vs, xs, (h1.mono x).sq, IsPs.mono x _ _ h2, fun i => rfl⟩⟩
theorem LSrv.here {S : Hp → Addr → List V → Prop} {p : Addr} {sv : Sv} (so : StOk γ H κ st) (h : LSrv γ S κ H p sv) : ∃ vs, S H p vs := by
  obtain ⟨vs, _, h1, _⟩ := h κ H st .refl so
  exact ⟨vs, h1⟩
theorem sv_of {d : D} {v : V} {sv : Sv} (so : StOk γ H κ st) (h : Is γ H κ d v) (e : svOf d = some sv) : ∃ p, v = .ref p ∧ (LSrv γ (SqL γ.K) κ H p sv ∨ LSrv γ (SqT γ.K) κ H p sv) := by
  cases d <;> first | (cases e; done) | skip
  · cases e
    obtain ⟨p, h1, h2⟩ := lsrv_tup h
    exact ⟨p, h1, .inr h2⟩
  · cases e
    obtain ⟨p, h1, h2⟩ := lsrv_lst h rfl
    exact ⟨p, h1, .inl h2⟩
  · cases e
    obtain ⟨p, h1, h2⟩ := lsrv_ro h
    exact ⟨p, h1, .inl h2⟩
  · cases e
    obtain ⟨p, h1, h2⟩ := lsrv_cell so h
    exact ⟨p, h1, .inl h2⟩
/-- the reading of a source -/
def tI (γ : Wd) (C : F → List D → Store → R D) (W : WX) (kd : Sk) (src : List E) : TI := fun σ H Z => ∃ κ ρ st, Env_ γ σ H κ ρ st ∧ PostR γ (fun H' κ' sv J => Srv γ κ' H' J sv) κ H Z (fun c d H' => W c d σ H') ((evs C src ρ st).bind fun ds s1 => R.opt (srcS s1 kd ds) s1)
theorem pii {tg it : Expr} {t t' : TI} (h : PI X tg it t) (i : ∀ σ H Q, t' σ H Q → t σ H Q) : PI X tg it t' := ⟨fun p s σ H Q I q => h.run p s σ H Q I (i σ H Q q)⟩
theorem pii2 {tg it : Expr} {t1 t2 t' : TI} (h1 : PI X tg it t1) (h2 : PI X tg it t2) (i : ∀ σ H Q, t' σ H Q → t1 σ H Q ∨ t2 σ H Q) : PI X tg it t' := ⟨fun p s σ H Q I q => by
  rcases i σ H Q q with q | q
  · exact h1.run p s σ H Q I q
  · exact h2.run p s σ H Q I q⟩
theorem ti_val (M : Mx γ C k m X) {tg : Expr} (ha : PE X ea (tE γ C W a)) : PI X tg ea (tI γ C W .val [a]) := by
  refine pii2 (pi_list ha) (pi_tup ha) fun σ H Z q => ?_
  obtain ⟨κ, ρ, st, e, q⟩ := q
  simp only [evs] at q
  have hK := M.g.lk.K
  cases hx : ev C a ρ st with
  | ok d s1 =>
    rw [hx] at q
    replace q := show PostR _ _ _ _ _ _ (R.opt (srcS s1 .val [d]) s1) from q
    by_cases ht : ∃ ys, d = .tup ys
    · obtain ⟨ys, rfl⟩ := ht
      refine .inr ⟨κ, ρ, st, e, ?_⟩
      rw [hx]
      intro κ1 H1 v e1 so1 hv
      obtain ⟨sv, hs, q⟩ := q.optE
      cases hs
      obtain ⟨p, rfl, h1⟩ := lsrv_tup hv
      rw [hK]
      exact ⟨p, rfl, h1.here so1, q κ1 H1 _ e1 so1 (srv_itt h1)⟩
    · refine .inl ⟨κ, ρ, st, e, ?_⟩
      rw [hx]
      intro κ1 H1 v e1 so1 hv
      obtain ⟨sv, hs, q⟩ := q.optE
      have hl : ∃ p, v = .ref p ∧ LSrv γ (SqL γ.K) κ1 H1 p sv := by
        cases d <;> first | (cases hs; done) | skip
        · exact absurd ⟨_, rfl⟩ ht
        · cases hs; exact lsrv_lst hv rfl
        · cases hs; exact lsrv_ro hv
        · cases hs; exact lsrv_cell so1 hv
      obtain ⟨p, rfl, h1⟩ := hl
      rw [hK]
      exact ⟨p, rfl, h1.here so1, q κ1 H1 _ e1 so1 (srv_itl h1)⟩
  | exc => rw [hx] at q; exact .inl ⟨κ, ρ, st, e, by rw [hx]; exact q⟩
  | no => rw [hx] at q; exact q.elim
theorem ti_range1 (M : Mx γ C k m X) {tg : Expr} {pa : Pos} (hg : glB m.sc "range" = true) (hr : PA X [ea] (tEs γ C W es)) (hm : plainE ea = true) (hl : es.length = 1) :
    PI X tg (.Call (.Name "range" p) [ea] [] pos) (tI γ C W .range es) := by
  refine pii (pi_range1 (gl_of M.sc hg) (free_in M (by decide +kernel)) hr (star_of hm)) fun σ H Z q => ?_
  obtain ⟨κ, ρ, st, e, q⟩ := q
  refine ⟨κ, ρ, st, e, q.bndL fun ds s1 κ1 H1 vs hn e1 so1 hx q => ?_⟩
  obtain ⟨sv, hs, q⟩ := q.optE
  rw [hl] at hn
  match ds, hs with
  | [.int j], hs =>
    have hs := show (if -1000000 ≤ j ∧ j ≤ 1000000 then some (Sv.l (rangeL 0 j.toNat)) else none) = some sv from hs
    split at hs
    · cases hs
      obtain ⟨v, rfl, hv⟩ := iss_one (ds := .int j) hx
      exact ⟨j, by rw [hv], by omega, by omega, q κ1 H1 _ .refl so1 srv_itr⟩
    · cases hs
  | _ :: _ :: _, _ => cases hn
theorem src_range2 {ds : List D} {sv : Sv} (e : srcS st .range ds = some sv) (hl : ds.length = 2) :
    ∃ i j, ds = [.int i, .int j] ∧ -1000000000000000000 ≤ i ∧ i ≤ 1000000000000000000 ∧ j ≤ i + 1000000 ∧ -1000000000000000000 ≤ j ∧ sv = .l (rangeL i (j - i).toNat) := by
  match ds, hl with
  | [x, y], _ =>
    cases x <;> first | (simp only [srcS] at e; cases e; done) | skip
    cases y <;> first | (simp only [srcS] at e; cases e; done) | skip
    simp only [srcS] at e
    split at e
    · rename_i h
      exact ⟨_, _, rfl, h.1, h.2.1, h.2.2.1, h.2.2.2, (Option.some.inj e).symm⟩
    · cases e
theorem ti_range2 (M : Mx γ C k m X) {tg : Expr} (hg : glB m.sc "range" = true) (hr : PA X [ea, eb] (tEs γ C W es)) (hm : plainE ea = true) (hm2 : plainE eb = true) (hl : es.length = 2) :
    PI X tg (.Call (.Name "range" p) [ea, eb] [] pos) (tI γ C W .range es) := by
  refine pii (pi_range2 (gl_of M.sc hg) (free_in M (by decide +kernel)) hr (by rw [star_of hm, star_of hm2]; rfl) (star_of hm2)) fun σ H Z q => ?_
  obtain ⟨κ, ρ, st, e, q⟩ := q
  refine ⟨κ, ρ, st, e, q.bndL fun ds s1 κ1 H1 vs hn e1 so1 hx q => ?_⟩
  obtain ⟨sv, hs, q⟩ := q.optE
  rw [hl] at hn
  obtain ⟨i, j, rfl, h1, h2, h3, h4, rfl⟩ := src_range2 hs hn
  obtain ⟨v, w, rfl, hv, hw⟩ := iss_two hx
  exact ⟨i, j, by rw [hv, hw], ⟨by omega, by omega, by omega, by omega⟩, q κ1 H1 _ .refl so1 srv_itr⟩
theorem zip_get (xs ys : List D) (st : Store) (i : Nat) : (Sv.l (List.zipWith (fun x y => .tup [x, y]) xs ys)).at st i = (Sv.z (.l xs) (.l ys)).at st i := by
  show (List.zipWith (fun x y => D.tup [x, y]) xs ys)[i]? = match xs[i]?, ys[i]? with
    | some x, some y => some (D.tup [x, y])
    | _, _ => none
  rw [List.getElem?_zipWith]
  cases xs[i]? <;> cases ys[i]? <;> rfl
theorem enum_get : ∀ (xs : List D) (n i : Nat), (enumFrom n xs)[i]? = (xs[i]?).map fun x => .tup [.int ((n + i : Nat) : Int), x]
  | [], _, _ => rfl
  | x :: xs, n, 0 => rfl
  | x :: xs, n, i + 1 => by
    show (enumFrom (n + 1) xs)[i]? = _
    rw [enum_get xs (n + 1) i]
    have e1 : n + 1 + i = n + (i + 1) := by omega
    rw [e1]
    rfl
theorem ti_zip (M : Mx γ C k m X) {elts : List Expr} {kk : Nat} {tpos : Pos} (hg : glB m.sc "zip" = true) (hr : PA X [ea, eb] (tEs γ C W es)) (hm : plainE ea = true) (hm2 : plainE eb = true) (hl : es.length = 2) :
    PI X (.Tuple elts kk tpos) (.Call (.Name "zip" p) [ea, eb] [] pos) (tI γ C W .zip es) := by
  refine pii (RZ.pi_zipA (gl_of M.sc hg) (free_in M (by decide +kernel)) hr (by rw [star_of hm]) (by rw [star_of hm2]; rfl)) fun σ H Z q => ?_
  obtain ⟨κ, ρ, st, e, q⟩ := q
  refine ⟨κ, ρ, st, e, q.bndL fun ds s1 κ1 H1 vs hn e1 so1 hx q => ?_⟩
  obtain ⟨sv, hs, q⟩ := q.optE
  rw [hl] at hn
  rw [M.g.lk.K]
  match ds, hs with
  | [x, y], hs =>
    obtain ⟨v, w, rfl, hv, hw⟩ := iss_two hx
    have hs := show zipS x y = some sv from hs
    cases x <;> first | (cases hs; done) | skip
    all_goals cases y <;> first | (cases hs; done) | skip
    · cases hs
      obtain ⟨p1, rfl, h1⟩ := lsrv_tup hv
      obtain ⟨p2, rfl, h2⟩ := lsrv_tup hw
      obtain ⟨xs1, g1⟩ := h1.here so1
      obtain ⟨ys1, g2⟩ := h2.here so1
      exact ⟨p1, p2, xs1, ys1, rfl, .inr ⟨g1, g2, q κ1 H1 _ .refl so1 (Srv.congr (fun st i => zip_get _ _ st i) (srv_itzT h1 h2))⟩⟩
    · cases hs
      obtain ⟨p1, rfl, h1⟩ := lsrv_lst hv rfl
      obtain ⟨p2, rfl, h2⟩ := lsrv_lst hw rfl
      obtain ⟨xs1, g1⟩ := h1.here so1
      obtain ⟨ys1, g2⟩ := h2.here so1
      exact ⟨p1, p2, xs1, ys1, rfl, .inl ⟨g1, g2, q κ1 H1 _ .refl so1 (Srv.congr (fun st i => zip_get _ _ st i) (srv_itz h1 h2))⟩⟩
    · cases hs
      obtain ⟨p1, rfl, h1⟩ := lsrv_lst hv rfl
      obtain ⟨p2, rfl, h2⟩ := lsrv_cell so1 hw
      obtain ⟨xs1, g1⟩ := h1.here so1
      obtain ⟨ys1, g2⟩ := h2.here so1
      exact ⟨p1, p2, xs1, ys1, rfl, .inl ⟨g1, g2, q κ1 H1 _ .refl so1 (srv_itz h1 h2)⟩⟩
    · cases hs
      obtain ⟨p1, rfl, h1⟩ := lsrv_cell so1 hv
      obtain ⟨p2, rfl, h2⟩ := lsrv_lst hw rfl
      obtain ⟨xs1, g1⟩ := h1.here so1
      obtain ⟨ys1, g2⟩ := h2.here so1
      exact ⟨p1, p2, xs1, ys1, rfl, .inl ⟨g1, g2, q κ1 H1 _ .refl so1 (srv_itz h1 h2)⟩⟩
    · cases hs
      obtain ⟨p1, rfl, h1⟩ := lsrv_cell so1 hv
      obtain ⟨p2, rfl, h2⟩ := lsrv_cell so1 hw
      obtain ⟨xs1, g1⟩ := h1.here so1
      obtain ⟨ys1, g2⟩ := h2.here so1
      exact ⟨p1, p2, xs1, ys1, rfl, .inl ⟨g1, g2, q κ1 H1 _ .refl so1 (srv_itz h1 h2)⟩⟩
  | [], _ => cases hn
  | [_], _ => cases hn
  | _ :: _ :: _ :: _, _ => cases hn
theorem ti_enum (M : Mx γ C k m X) {elts : List Expr} {kk : Nat} {tpos : Pos} (hg : glB m.sc "enumerate" = true) (hr : PA X [ea] (tEs γ C W es)) (hm : plainE ea = true) (hl : es.length = 1) :
    PI X (.Tuple elts kk tpos) (.Call (.Name "enumerate" p) [ea] [] pos) (tI γ C W .enumerate es) := by
  refine pii (pi_enum (gl_of M.sc hg) (free_in M (by decide +kernel)) hr (star_of hm)) fun σ H Z q => ?_
  obtain ⟨κ, ρ, st, e, q⟩ := q
  refine ⟨κ, ρ, st, e, q.bndL fun ds s1 κ1 H1 vs hn e1 so1 hx q => ?_⟩
  obtain ⟨sv, hs, q⟩ := q.optE
  rw [hl] at hn
  rw [M.g.lk.K]
  match ds, hs with
  | [x], hs =>
    obtain ⟨v, rfl, hv⟩ := iss_one (ds := x) hx
    cases x <;> first | (cases hs; done) | skip
    · cases hs
      obtain ⟨p1, rfl, h1⟩ := lsrv_lst hv rfl
      obtain ⟨xs1, g1⟩ := h1.here so1
      refine ⟨p1, xs1, rfl, g1, q κ1 H1 _ .refl so1 (Srv.congr (fun st i => ?_) (srv_ite h1))⟩
      show (enumFrom 0 _)[i]? = ((_ : List D)[i]?).map fun x => .tup [.int i, x]
      rw [enum_get, Nat.zero_add]
    · cases hs
      obtain ⟨p1, rfl, h1⟩ := lsrv_cell so1 hv
      obtain ⟨xs1, g1⟩ := h1.here so1
      exact ⟨p1, xs1, rfl, g1, q κ1 H1 _ .refl so1 (srv_ite h1)⟩
  | _ :: _ :: _, _ => cases hn
def AllPE (γ : Wd) (C : F → List D → Store → R D) (W : WX) (X : Cx) : List E → List Expr → Prop
  | [], [] => True
  | e :: es, x :: xs => PE X x (tE γ C W e) ∧ AllPE γ C W X es xs
  | _, _ => False
theorem pa_all : ∀ {es : List E} {xs : List Expr}, mEs m es xs = true → AllPE γ C W X es xs → PA X xs (tEs γ C W es)
  | [], [], _, _ => te_nil
  | [], _ :: _, h, _ => by simp [mEs] at h
  | _ :: _, [], h, _ => by simp [mEs] at h
  | e :: es, x :: xs, h, hp => by
    simp only [mEs, Bool.and_eq_true] at h
    exact te_cons hp.1 (pa_all h.2 hp.2) (mE_plain h.1)
theorem pki {kws : List Keyword} {t t' : TA} (h : PK X kws t) (i : ∀ σ H Q, t' σ H Q → t σ H Q) : PK X kws t' := ⟨fun pos p s σ H Q I q => h.run pos p s σ H Q I (i σ H Q q)⟩
theorem pk_all : ∀ {es : List E} {kws : List Keyword}, mEs m es (kws.map fun q => q.value) = true → AllPE γ C W X es (kws.map fun q => q.value) → PK X kws (tEs γ C W es)
  | [], [], _, _ => pki pk_nil fun σ H Q q => by
    obtain ⟨κ, ρ, st, e, q⟩ := q
    simp only [evs] at q
    exact q κ H [] .refl e.st rfl
  | [], _ :: _, h, _ => by simp [mEs] at h
  | _ :: _, [], h, _ => by simp [mEs] at h
  | e :: es, ⟨_, x, _⟩ :: kws, h, hp => by
    simp only [List.map_cons, mEs, Bool.and_eq_true] at h
    refine pki (pk_cons hp.1 (pk_all h.2 hp.2)) fun σ H Q q => ?_
    obtain ⟨κ, ρ, st, e, q⟩ := q
    simp only [evs] at q
    refine ⟨κ, ρ, st, e, q.bnd fun dx s1 κ1 H1 x e1 so1 hx q => ⟨κ1, ρ, s1, e.mono e1 so1, q.bnd fun dr s2 κ2 H2 r e2 so2 hr q => ?_⟩⟩
    exact q κ2 H2 _ .refl so2 ⟨x, r, rfl, hx.mono e2, hr⟩
/-- any source of the text -/
theorem ti_src (M : Mx γ C k m X) {kd : Sk} {tg it : Expr} {as : List Expr} (h : srcArgs m (some tg) kd it = some as) (hes : mEs m es as = true) (hp : AllPE γ C W X es as) :
    PI X tg it (tI γ C W kd es) ∧ plainE it = true := by
  have hr := pa_all hes hp
  unfold srcArgs at h
  dsimp only at h
  split at h
  · cases h
    match es, hes with
    | [a], hes =>
      simp only [mEs, Bool.and_eq_true] at hes
      exact ⟨ti_val M hp.1, mE_plain hes.1⟩
    | _ :: _ :: _, hes => simp [mEs] at hes
  · split at h
    · rename_i hc
      rw [Bool.and_eq_true, decide_eq_true_eq] at hc
      obtain ⟨rfl, hc⟩ := hc
      split at h
      · cases h
        match es, hes with
        | [a], hes =>
          simp only [mEs, Bool.and_eq_true] at hes
          exact ⟨ti_range1 M (pa := ⟨0, 0, 0, 0⟩) hc hr (mE_plain hes.1) rfl, rfl⟩
        | _ :: _ :: _, hes => simp [mEs] at hes
      · cases h
        match es, hes with
        | [a, b], hes =>
          simp only [mEs, Bool.and_eq_true] at hes
          exact ⟨ti_range2 M hc hr (mE_plain hes.1) (mE_plain hes.2.1) rfl, rfl⟩
        | [_], hes => simp [mEs] at hes
        | _ :: _ :: _ :: _, hes => simp [mEs] at hes
      · cases h
    · cases h
  · split at h
    · rename_i hc
      simp only [Bool.and_eq_true, decide_eq_true_eq] at hc
      obtain ⟨⟨rfl, hc⟩, ht⟩ := hc
      cases h
      cases tg <;> first | (cases ht; done) | skip
      match es, hes with
      | [a, b], hes =>
        simp only [mEs, Bool.and_eq_true] at hes
        exact ⟨ti_zip M hc hr (mE_plain hes.1) (mE_plain hes.2.1) rfl, rfl⟩
      | [_], hes => simp [mEs] at hes
      | _ :: _ :: _ :: _, hes => simp [mEs] at hes
    · cases h
  · split at h
    · rename_i hc
      simp only [Bool.and_eq_true, decide_eq_true_eq] at hc
      obtain ⟨⟨rfl, hc⟩, ht⟩ := hc
      cases h
      cases tg <;> first | (cases ht; done) | skip
      match es, hes with
      | [a], hes =>
        simp only [mEs, Bool.and_eq_true] at hes
        exact ⟨ti_enum M hc hr (mE_plain hes.1) rfl, rfl⟩
      | _ :: _ :: _, hes => simp [mEs] at hes
    · cases h
  · cases h
/-! ### list(..) -/
theorem svl_is {d : D} {v : V} {sv : Sv} {ys : List D} (so : StOk γ H κ st) (h : Is γ H κ d v) (e : svOf d = some sv) (e2 : svL st sv = some ys) : ∃ p vs, v = .ref p ∧ (SqL γ.K H p vs ∨ SqT γ.K H p vs) ∧ IsPs γ H κ ys vs := by
  have hy : ∀ i, sv.at st i = ys[i]? := by
    intro i
    cases sv with
    | l zs =>
      have e3 := show (if zs.length ≤ 1000000 then some zs else none) = some ys from e2
      split at e3
      · cases e3; rfl
      · cases e3
    | c j => cases (show some (st.getD j []) = some ys from e2); rfl
    | z => cases e2
    | en => cases e2
  obtain ⟨p, rfl, h1 | h1⟩ := sv_of so h e
  · obtain ⟨vs, ds, g1, g2, g3⟩ := h1 κ H st .refl so
    have e4 : ds = ys := List.ext_getElem? fun i => (g3 i).symm.trans (hy i)
    subst e4
    exact ⟨p, vs, rfl, .inl g1, g2⟩
  · obtain ⟨vs, ds, g1, g2, g3⟩ := h1 κ H st .refl so
    have e4 : ds = ys := List.ext_getElem? fun i => (g3 i).symm.trans (hy i)
    subst e4
    exact ⟨p, vs, rfl, .inr g1, g2⟩
/-- what list(..) makes, before it is decided whether it is a cell -/
def tLi (γ : Wd) (C : F → List D → Store → R D) (W : WX) (kd : Sk) (src : List E) : TE := fun σ H Q => ∃ κ ρ st, Env_ γ σ H κ ρ st ∧
  PostR γ (fun H' κ' ys vs => IsPs γ H' κ' ys vs) κ H (fun vs H' => ∀ p, H' p = none → Q (.ref p) (upd H' p (.lst vs))) (fun c d H' => W c d σ H') ((evs C src ρ st).bind fun ds s1 => (R.opt (srcS s1 kd ds) s1).bind fun sv s1 => R.opt (svL s1 sv) s1)
theorem tli_val (M : Mx γ C k m X) {x : PySem.Str} (hg : mGl m "list" x = true) (ha : PE X ea (tE γ C W a)) (hm : plainE ea = true) : PE X (.Call (.Name x p) [ea] [] pos) (tLi γ C W .val [a]) := by
  obtain ⟨h1, h2, h3⟩ := mgl_of M hg
  subst h1
  refine pei (pe_callTy call_list_of h2 (free_in M (by decide +kernel)) boot_list (pa_cons ha pa_nil (star_of hm)) (by decide +kernel) h3 (star_of hm) rfl) fun σ H Q q => ?_
  obtain ⟨κ, ρ, st, e, q⟩ := q
  simp only [evs] at q
  refine ⟨κ, ρ, st, e, ?_⟩
  cases hx : ev C a ρ st with
  | ok d s1 =>
    rw [hx] at q
    intro κ1 H1 v e1 so1 hv
    replace q := show PostR _ _ _ _ _ _ ((R.opt (svOf d) s1).bind fun sv s1 => R.opt (svL s1 sv) s1) from q
    cases hs : svOf d with
    | none => rw [hs] at q; exact q.elim
    | some sv =>
      rw [hs] at q
      obtain ⟨ys, hy, q⟩ := PostR.optE (show PostR _ _ _ _ _ _ (R.opt (svL s1 sv) s1) from q)
      obtain ⟨p1, vs, rfl, g1, g2⟩ := svl_is so1 hv hs hy
      rw [M.g.lk.K]
      exact ⟨p1, vs, rfl, g1, fun l hl => q κ1 H1 vs e1 so1 g2 l hl⟩
  | exc => rw [hx] at q; exact q
  | no => rw [hx] at q; exact q
theorem rg_is (a b : Int) : IsPs γ H κ (rangeL a (b - a).toNat) (rgV a b) := by
  unfold rangeL rgV
  generalize (b - a).toNat = n
  have h : ∀ l : List Nat, IsPs γ H κ (l.map fun (i : Nat) => D.int (a + (i : Int))) (l.map fun i => V.int (a + (i : Nat))) := by
    intro l
    induction l with
    | nil => simp only [List.map_nil, IsPs]
    | cons x xs ih =>
      simp only [List.map_cons, IsPs]
      exact ⟨_, _, rfl, by simp only [IsP], ih⟩
  exact h _
theorem tli_range1 (M : Mx γ C k m X) {x : PySem.Str} (hc : m.cm = true) (hg : mGl m "list" x = true) (hg2 : glB m.sc "range" = true) (ha : PE X ea (tE γ C W a)) (hm : plainE ea = true) :
    PE X (.Call (.Name x p) [.Call (.Name "range" p2) [ea] [] p3] [] pos) (tLi γ C W .range [a]) := by
  obtain ⟨h1, h2, h3⟩ := mgl_of M hg
  subst h1
  refine pei (pe_listRg (M.calm hc) h2 (free_in M (by decide +kernel)) (prg_1 (gl_of M.sc hg2) (free_in M (by decide +kernel)) ha (star_of hm)) rfl) fun σ H Q q => ?_
  obtain ⟨κ, ρ, st, e, q⟩ := q
  simp only [evs] at q
  refine ⟨κ, ρ, st, e, ?_⟩
  cases hx : ev C a ρ st with
  | ok d s1 =>
    rw [hx] at q
    intro κ1 H1 v e1 so1 hv
    replace q := show PostR _ _ _ _ _ _ ((R.opt (srcS s1 .range [d]) s1).bind fun sv s1 => R.opt (svL s1 sv) s1) from q
    cases d <;> first | exact q.elim | skip
    rename_i j
    cases (show v = .int j from hv)
    have e5 : srcS s1 .range [.int j] = if -1000000 ≤ j ∧ j ≤ 1000000 then some (Sv.l (rangeL 0 j.toNat)) else none := rfl
    rw [e5] at q
    split at q
    · rename_i hj
      obtain ⟨ys, hy, q⟩ := PostR.optE (show PostR _ _ _ _ _ _ (R.opt (svL s1 (Sv.l (rangeL 0 j.toNat))) s1) from q)
      have hl : (rangeL 0 j.toNat).length ≤ 1000000 := by
        unfold rangeL
        rw [List.length_map, List.length_range]
        omega
      have hy := (if_pos hl).symm.trans (show (if (rangeL 0 j.toNat).length ≤ 1000000 then some (rangeL 0 j.toNat) else none) = some ys from hy)
      cases hy
      have hr := rg_is (γ := γ) (H := H1) (κ := κ1) 0 j
      rw [Int.sub_zero] at hr
      exact ⟨j, rfl, ⟨by omega, by omega, by omega, by omega, by omega⟩, fun l hl => q κ1 H1 _ e1 so1 hr l hl⟩
    · exact q.elim
  | exc => rw [hx] at q; exact q
  | no => rw [hx] at q; exact q
theorem tli_range2 (M : Mx γ C k m X) {x : PySem.Str} (hc : m.cm = true) (hg : mGl m "list" x = true) (hg2 : glB m.sc "range" = true) (ha : PE X ea (tE γ C W a)) (hb : PE X eb (tE γ C W b)) (hm : plainE ea = true) (hm2 : plainE eb = true) :
    PE X (.Call (.Name x p) [.Call (.Name "range" p2) [ea, eb] [] p3] [] pos) (tLi γ C W .range [a, b]) := by
  obtain ⟨h1, h2, h3⟩ := mgl_of M hg
  subst h1
  refine pei (pe_listRg (M.calm hc) h2 (free_in M (by decide +kernel)) (prg_2 (gl_of M.sc hg2) (free_in M (by decide +kernel)) ha hb (star_of hm) (star_of hm2) (by rw [star_of hm2]; rfl)) rfl) fun σ H Q q => ?_
  obtain ⟨κ, ρ, st, e, q⟩ := q
  simp only [evs] at q
  refine ⟨κ, ρ, st, e, ?_⟩
  cases hx : ev C a ρ st with
  | ok d s1 =>
    rw [hx] at q
    intro κ1 H1 v e1 so1 hv
    refine ⟨κ1, ρ, s1, e.mono e1 so1, ?_⟩
    cases hy : ev C b ρ s1 with
    | ok d' s2 =>
      rw [bind_ok, hy] at q
      intro κ2 H2 w e2 so2 hw
      replace q := show PostR _ _ _ _ _ _ ((R.opt (srcS s2 .range [d, d']) s2).bind fun sv s1 => R.opt (svL s1 sv) s1) from q
      cases hs : srcS s2 .range [d, d'] with
      | none => rw [hs] at q; exact q.elim
      | some sv =>
        rw [hs] at q
        obtain ⟨i, j, h4, h5, h6, h7, h8, rfl⟩ := src_range2 hs rfl
        cases h4
        obtain ⟨ys, hy, q⟩ := PostR.optE (show PostR _ _ _ _ _ _ (R.opt (svL s2 (Sv.l (rangeL i (j - i).toNat))) s2) from q)
        have hl : (rangeL i (j - i).toNat).length ≤ 1000000 := by
          unfold rangeL
          rw [List.length_map, List.length_range]
          omega
        have hy := (if_pos hl).symm.trans (show (if (rangeL i (j - i).toNat).length ≤ 1000000 then some (rangeL i (j - i).toNat) else none) = some ys from hy)
        cases hy
        exact ⟨i, j, hv, hw, ⟨by omega, by omega, by omega, by omega, by omega⟩, fun l hl => q κ2 H2 _ (e1.trans e2) so2 (rg_is i j) l hl⟩
    | exc => rw [bind_ok, hy] at q; exact PostR.ext e1 q
    | no => rw [bind_ok, hy] at q; exact q.elim
  | exc => rw [hx] at q; exact q
  | no => rw [hx] at q; exact q
theorem tli_src (M : Mx γ C k m X) {kd : Sk} {it : Expr} {x : PySem.Str} {as : List Expr} (hc : m.cm = true) (hg : mGl m "list" x = true) (hk : (match kd with | .val => true | .range => true | _ => false) = true) (h : srcArgs m none kd it = some as) (hes : mEs m es as = true) (hp : AllPE γ C W X es as) :
    PE X (.Call (.Name x p) [it] [] pos) (tLi γ C W kd es) := by
  unfold srcArgs at h
  split at h
  · cases h
    match es, hes with
    | [a], hes =>
      simp only [mEs, Bool.and_eq_true] at hes
      exact tli_val M hg hp.1 (mE_plain hes.1)
    | _ :: _ :: _, hes => simp [mEs] at hes
  · split at h
    · rename_i hc2
      rw [Bool.and_eq_true, decide_eq_true_eq] at hc2
      obtain ⟨rfl, hc2⟩ := hc2
      split at h
      · cases h
        match es, hes with
        | [a], hes =>
          simp only [mEs, Bool.and_eq_true] at hes
          exact tli_range1 M hc hg hc2 hp.1 (mE_plain hes.1)
        | _ :: _ :: _, hes => simp [mEs] at hes
      · cases h
        match es, hes with
        | [a, b], hes =>
          simp only [mEs, Bool.and_eq_true] at hes
          exact tli_range2 M hc hg hc2 hp.1 hp.2.1 (mE_plain hes.1) (mE_plain hes.2.1)
        | [_], hes => simp [mEs] at hes
        | _ :: _ :: _ :: _, hes => simp [mEs] at hes
      · cases h
    · cases h
  · dsimp only at h
    simp only [Bool.and_false, Bool.false_eq_true, if_false] at h
    cases h
  · dsimp only at h
    simp only [Bool.and_false, Bool.false_eq_true, if_false] at h
    cases h
  · cases h
theorem te_listV {kd : Sk} {e0 : Expr} (h : PE X e0 (tLi γ C W kd es)) : PE X e0 (tE γ C W (.listV kd es)) := by
  refine pei h fun σ H Q q => ?_
  obtain ⟨κ, ρ, st, e, q⟩ := q
  simp only [ev] at q
  refine ⟨κ, ρ, st, e, ?_⟩
  cases hx : evs C es ρ st with
  | ok ds s1 =>
    rw [hx] at q
    replace q := show PostR _ _ _ _ _ _ ((R.opt (srcS s1 kd ds) s1).bind fun sv s1 => (R.opt (svL s1 sv) s1).bind fun xs s1 => R.ok (D.lst xs) s1) from q
    show PostR _ _ _ _ _ _ ((R.opt (srcS s1 kd ds) s1).bind fun sv s1 => R.opt (svL s1 sv) s1)
    cases hs : srcS s1 kd ds with
    | none => rw [hs] at q; exact q.elim
    | some sv =>
      rw [hs] at q
      replace q := show PostR _ _ _ _ _ _ ((R.opt (svL s1 sv) s1).bind fun xs s1 => R.ok (D.lst xs) s1) from q
      show PostR _ _ _ _ _ _ (R.opt (svL s1 sv) s1)
      cases hy : svL s1 sv with
      | none => rw [hy] at q; exact q.elim
      | some ys =>
        rw [hy] at q
        intro κ1 H1 vs e1 so1 hv l hl
        exact q κ1 _ _ (e1.trans (Ext.new hl)) (so1.new hl) (new_lst so1 hl hv)
  | exc => rw [hx] at q; exact q
  | no => rw [hx] at q; exact q
theorem te_listC {kd : Sk} {e0 : Expr} (h : PE X e0 (tLi γ C W kd es)) : PE X e0 (tE γ C W (.listC kd es)) := by
  refine pei h fun σ H Q q => ?_
  obtain ⟨κ, ρ, st, e, q⟩ := q
  simp only [ev] at q
  refine ⟨κ, ρ, st, e, ?_⟩
  cases hx : evs C es ρ st with
  | ok ds s1 =>
    rw [hx] at q
    replace q := show PostR _ _ _ _ _ _ ((R.opt (srcS s1 kd ds) s1).bind fun sv s1 => (R.opt (svL s1 sv) s1).bind fun xs s1 => R.ok (D.cell s1.length) (s1 ++ [xs])) from q
    show PostR _ _ _ _ _ _ ((R.opt (srcS s1 kd ds) s1).bind fun sv s1 => R.opt (svL s1 sv) s1)
    cases hs : srcS s1 kd ds with
    | none => rw [hs] at q; exact q.elim
    | some sv =>
      rw [hs] at q
      replace q := show PostR _ _ _ _ _ _ ((R.opt (svL s1 sv) s1).bind fun xs s1 => R.ok (D.cell s1.length) (s1 ++ [xs])) from q
      show PostR _ _ _ _ _ _ (R.opt (svL s1 sv) s1)
      cases hy : svL s1 sv with
      | none => rw [hy] at q; exact q.elim
      | some ys =>
        rw [hy] at q
        intro κ1 H1 vs e1 so1 hv l hl
        exact q _ _ _ (e1.trans (Ext.cell hl)) (so1.cell hl hv) (new_cell (ds := ys) so1)
  | exc => rw [hx] at q; exact q
  | no => rw [hx] at q; exact q
end
section
variable {γ : Wd} {C : F → List D → Store → R D} {k : Nat} {m : Mc} {X : Cx} {W : WX} {H H1 H2 H' : Hp} {κ κ1 κ2 κ' : List Addr} {st st' : Store}
variable {a b c : E} {ea eb ec : Expr} {pos p p2 p3 : Pos} {es : List E} {xs : List Expr}
/-! ### targets -/
theorem wipe_get (σ : L2.St) (j : Nat) : ∀ vs : List Nat, (L2.wipe σ vs)[j]? = if j ∈ vs then (σ[j]?).map (fun _ => none) else σ[j]?
  | [] => by simp [L2.wipe]
  | v :: vs => by
    unfold L2.wipe
    by_cases h : j = v
    · subst h
      rw [if_pos List.mem_cons_self]
      by_cases hl : j < σ.length
      · rw [List.getElem?_set_self (by rw [wipe_length]; exact hl), List.getElem?_eq_getElem hl]; rfl
      · rw [List.getElem?_eq_none (by rw [List.length_set, wipe_length]; omega), List.getElem?_eq_none (by omega)]; rfl
    · rw [List.getElem?_set_ne (Ne.symm h), wipe_get σ j vs]
      have e : (j ∈ v :: vs) ↔ j ∈ vs := by simp [h]
      simp only [e]
theorem wipe_set {σ : L2.St} {i : Nat} {x : Option V} {vs : List Nat} (h : i ∈ vs) : L2.wipe (σ.set i x) vs = L2.wipe σ vs := by
  refine List.ext_getElem? fun j => ?_
  rw [wipe_get, wipe_get]
  by_cases hj : j = i
  · subst hj
    rw [if_pos h, if_pos h]
    by_cases hl : j < σ.length
    · rw [List.getElem?_set_self hl, List.getElem?_eq_getElem hl]; rfl
    · rw [List.getElem?_eq_none (by rw [List.length_set]; omega), List.getElem?_eq_none (by omega)]
  · rw [List.getElem?_set_ne (Ne.symm hj)]
def tG (γ : Wd) (tg : Tg) : TG := fun v σ H Q => ∃ κ ρ st d ρ', Env_ γ σ H κ ρ st ∧ Is γ H κ d v ∧ bindT ρ tg d = some ρ' ∧ ∀ σ', Env_ γ σ' H κ ρ' st → (∀ vs, (∀ i ∈ slotsT tg, i ∈ vs) → L2.wipe σ' vs = L2.wipe σ vs) → Q σ' H
theorem pgi {tg : Expr} {t t' : TG} (h : PG X tg t) (i : ∀ v σ H Q, t' v σ H Q → t v σ H Q) : PG X tg t' := ⟨fun pins s σ H v u Q I r q => h.run pins s σ H v u Q I r (i v σ H Q q)⟩
theorem pg_one (M : Mx γ C k m X) {i : Nat} (h : mOne m i ea = true) : PG X ea (gName i) := by
  cases ea <;> first | (cases h; done) | skip
  replace h := show (decide (m.N[i]? = some _) && locB m.sc0 _) = true from h
  rw [Bool.and_eq_true, decide_eq_true_eq] at h
  obtain ⟨h1, h2⟩ := M.tg _ h.2
  exact pg_name (by rw [M.N]; exact M.nd) (by rw [M.N]; exact h.1) (by rw [M.sc]; exact h1) (by rw [M.sc]; exact h2)
def gsOf : List Nat → TGs
  | [] => gNil
  | i :: is => gCons (gName i) (gsOf is)
theorem pgs_many (M : Mx γ C k m X) : ∀ {is : List Nat} {ts : List Expr}, mMany m is ts = true → PGs X ts (gsOf is) ∧ (assignEach ts X.env).length = is.length ∧ List.findIdx? (fun x => x.fst) (assignEach ts X.env) = none
  | [], [], _ => ⟨pgs_nil, rfl, rfl⟩
  | [], _ :: _, h => by cases h
  | _ :: _, [], h => by cases h
  | i :: is, t :: ts, h => by
    replace h := show (mOne m i t && mMany m is ts) = true from h
    rw [Bool.and_eq_true] at h
    obtain ⟨g1, g2, g3⟩ := pgs_many M h.2
    cases t <;> first | (cases h.1; done) | skip
    rename_i x px
    have e1 : assignEach (Expr.Name x px :: ts) X.env = (false, assign (.Name x px) X.env) :: assignEach ts X.env := rfl
    refine ⟨pgs_cons (pg_one M h.1) g1 (by rw [e1]; rfl), by rw [e1, List.length_cons, g2]; rfl, ?_⟩
    rw [e1, List.findIdx?_cons, g3]
    rfl
theorem gs_run : ∀ {is : List Nat} {ds : List D} {vs : List V} {ρ ρ' : Fr} {σ : L2.St} {Q : L2.St → Hp → Prop}, Env_ γ σ H κ ρ st → IsPs γ H κ ds vs → setMany ρ is ds = some ρ' →
    (∀ σ', Env_ γ σ' H κ ρ' st → (∀ ws, (∀ i ∈ is, i ∈ ws) → L2.wipe σ' ws = L2.wipe σ ws) → Q σ' H) → gsOf is vs σ H Q
  | [], [], vs, ρ, ρ', σ, Q, e, h, hs, q => by
    simp only [IsPs] at h
    subst h
    cases (show some ρ = some ρ' from hs)
    exact ⟨rfl, q σ e fun _ _ => rfl⟩
  | [], _ :: _, _, _, _, _, _, _, _, hs, _ => by cases hs
  | _ :: _, [], _, _, _, _, _, _, _, hs, _ => by cases hs
  | i :: is, d :: ds, vs, ρ, ρ', σ, Q, e, h, hs, q => by
    simp only [IsPs] at h
    obtain ⟨v, r, rfl, h1, h2⟩ := h
    refine ⟨v, r, rfl, ?_⟩
    refine gs_run (e.set (.ofP h1)) h2 (show setMany (setS ρ i d) is ds = some ρ' from hs) fun σ' e' hw => q σ' e' fun ws hi => ?_
    rw [hw ws fun j hj => hi j (List.mem_cons_of_mem _ hj)]
    exact wipe_set (hi i List.mem_cons_self)
theorem pg_tg (M : Mx γ C k m X) {tg : Tg} (h : mTg m tg ea = true) : PG X ea (tG γ tg) := by
  cases tg with
  | one i =>
    refine pgi (pg_one M h) fun v σ H Q q => ?_
    obtain ⟨κ, ρ, st, d, ρ', e, hv, hb, q⟩ := q
    cases (show some (setS ρ i d) = some ρ' from hb)
    exact q _ (e.set hv) fun vs hi => wipe_set (hi i (List.mem_singleton.mpr rfl))
  | many is =>
    cases ea <;> first | (cases h; done) | skip
    replace h := show (mMany m is _ && m.cm) = true from h
    rw [Bool.and_eq_true] at h
    obtain ⟨g1, g2, g3⟩ := pgs_many M h.1
    refine pgi (pg_tup (M.calm h.2) g1 g2 g3) fun v σ H Q q => ?_
    obtain ⟨κ, ρ, st, d, ρ', e, hv, hb, q⟩ := q
    cases d <;> first | (cases hb; done) | skip
    rename_i ds
    replace hb := show setMany ρ is ds = some ρ' from hb
    obtain ⟨p1, vs, rfl, h1, h2⟩ := is_tup.mp hv
    have hl : ds.length = is.length := by
      clear h1 h2 hv g1 g2 g3 h q e
      induction is generalizing ds ρ with
      | nil => cases ds with | nil => rfl | cons => cases hb
      | cons i is ih => cases ds with
        | nil => cases hb
        | cons d ds => rw [List.length_cons, List.length_cons, ih (ρ := setS ρ i d) ds hb]
    exact ⟨p1, vs, rfl, by rw [M.g.lk.K]; exact h1.sq, by rw [h2.length]; exact hl, gs_run e h2 hb q⟩
end
section
variable {γ : Wd} {C : F → List D → Store → R D} {k : Nat} {m : Mc} {X : Cx} {W : WX} {H H1 H2 H' : Hp} {κ κ1 κ2 κ' : List Addr} {st st' : Store}
variable {a b c : E} {ea eb ec : Expr} {pos p p2 p3 : Pos} {es : List E} {xs : List Expr}
/-! ### comprehensions -/
theorem Gd.to {X' : Cx} (g : Gd γ C k X) (h1 : X'.prog = X.prog) (h2 : X'.w = X.w) (h3 : X'.K = X.K) (h4 : X'.mg = X.mg) (h5 : X'.base = X.base) (h6 : X'.A.units = X.A.units) : Gd γ C k X' :=
  ⟨⟨h1.trans g.lk.P, h2.trans g.lk.w, h3.trans g.lk.K, h4.trans g.lk.mg, by rw [h6]; exact g.lk.hu⟩, g.len, by rw [h1, h2, h3, h4, h5]; exact g.fn, by rw [h4]; exact g.gf, by rw [h3]; exact g.kf, by rw [h3]; exact g.bf, by rw [h3]; exact g.kb, by rw [h3, h4]; exact g.gx, by rw [h4]; exact g.gb, by rw [h4]; exact g.gg⟩
abbrev W0 : WX := fun _ _ _ _ => False
theorem loc_cases {sc : Scope} {x : PySem.Str} (h : locB sc x = true) : sc.names.lookup x = some .local ∨ sc.names.lookup x = some .cell := by
  unfold locB at h
  split at h
  · exact .inl (by assumption)
  · exact .inr (by assumption)
  · cases h
theorem Mx.blk (M : Mx γ C k m X) {scope : Scope} (s : Shared) (H : Hp) (Cc : Addr) (cl : List (PySem.Str × Addr)) (fp : List Addr) :
    Mx γ C k ⟨m.N, relS scope m.sc, scope, m.cm⟩ (X.blk s H scope (compEnvC scope cl Cc X.env) fp) where
  g := M.g.to rfl rfl rfl rfl rfl rfl
  N := M.N
  nd := M.nd
  sc := by rw [← M.sc]; rfl
  tg := fun x h => by
    rcases loc_cases h with h | h
    · have e := lookup_relS_keep (sc := m.sc) (by intro q; cases q) h
      exact ⟨.inl e, .inr e⟩
    · have e := lookup_relS_keep (sc := m.sc) (by intro q; cases q) h
      refine ⟨.inr e, .inl ?_⟩
      show (List.lookup x scope.names == some NameKind.cell) = true
      rw [h]; rfl
  cm := M.cm
theorem bind_assoc {α β δ : Type} (x : R α) (f : α → Store → R β) (g : β → Store → R δ) : (x.bind f).bind g = x.bind fun a s => (f a s).bind g := by cases x <;> rfl
def tTs (γ : Wd) (C : F → List D → Store → R D) (W : WX) (cs : List E) : TT := fun σ H Q => ∃ κ ρ st, Env_ γ σ H κ ρ st ∧ PostR γ (fun _ _ a b => b = a) κ H Q (fun c d H' => W c d σ H') ((evs C cs ρ st).bind fun ds s => R.opt (tsts ds) s)
theorem ptsi {cs : List Expr} {t t' : TT} (h : PTs X cs t) (i : ∀ σ H Q, t' σ H Q → t σ H Q) : PTs X cs t' := ⟨fun p s σ H Q I q => h.run p s σ H Q I (i σ H Q q)⟩
theorem tts_nil : PTs X [] (tTs γ C W []) := by
  refine ptsi pts_nil fun σ H Q q => ?_
  obtain ⟨κ, ρ, st, e, q⟩ := q
  simp only [evs, bind_ok] at q
  exact q κ H true .refl e.st rfl
theorem tts_one (h : PT X ea (tT γ C W a)) : PTs X [ea] (tTs γ C W [a]) := by
  refine ptsi (pts_one h) fun σ H Q q => ?_
  obtain ⟨κ, ρ, st, e, q⟩ := q
  refine ⟨κ, ρ, st, e, ?_⟩
  simp only [evs] at q
  unfold tst
  cases hx : ev C a ρ st with
  | ok d s1 =>
    rw [hx] at q
    cases d <;> first | exact q.elim | exact q
  | exc => rw [hx] at q; exact q
  | no => rw [hx] at q; exact q
/-- one turn of a comprehension's body -/
def lcF (C : F → List D → Store → R D) (ρ : Fr) (elt : E) (tg : Tg) (cond : List E) (own : List Nat) (d : D) (s2 : Store) : R (Option D) :=
  (R.opt (bindT (wipeS ρ own) tg d) s2).bind fun ρ1 s2 => ((evs C cond ρ1 s2).bind fun cs s3 => .opt (tsts cs) s3).bind fun t s3 => if t then (ev C elt ρ1 s3).bind fun y s4 => if isP y then .ok (some y) s4 else .no else .ok none s3
theorem wipe_wipe (σ : L2.St) (vs : List Nat) : L2.wipe (L2.wipe σ vs) vs = L2.wipe σ vs := by
  refine List.ext_getElem? fun j => ?_
  rw [wipe_get, wipe_get]
  by_cases h : j ∈ vs
  · rw [if_pos h, if_pos h]
    cases σ[j]? <;> rfl
  · rw [if_neg h, if_neg h]
theorem lcf_ok {ρ : Fr} {elt : E} {tg : Tg} {cond : List E} {own : List Nat} {d : D} {s2 s4 : Store} {o : Option D} (h : lcF C ρ elt tg cond own d s2 = .ok o s4) :
    ∃ ρ1 s3 t, bindT (wipeS ρ own) tg d = some ρ1 ∧ ((evs C cond ρ1 s2).bind fun cs s3 => R.opt (tsts cs) s3) = .ok t s3 ∧
      ((t = false ∧ o = none ∧ s4 = s3) ∨ (t = true ∧ ∃ y, ev C elt ρ1 s3 = .ok y s4 ∧ isP y = true ∧ o = some y)) := by
  unfold lcF at h
  cases h1 : bindT (wipeS ρ own) tg d with
  | none => rw [h1] at h; cases h
  | some ρ1 =>
    rw [h1] at h
    replace h := show (((evs C cond ρ1 s2).bind fun cs s3 => R.opt (tsts cs) s3).bind fun t s3 => if t then (ev C elt ρ1 s3).bind fun y s4 => if isP y then .ok (some y) s4 else .no else .ok none s3) = .ok o s4 from h
    cases h2 : ((evs C cond ρ1 s2).bind fun cs s3 => R.opt (tsts cs) s3) with
    | no => rw [h2] at h; cases h
    | exc => rw [h2] at h; cases h
    | ok t s3 =>
      rw [h2, bind_ok] at h
      refine ⟨ρ1, s3, t, rfl, h2, ?_⟩
      cases t with
      | false =>
        cases h
        exact .inl ⟨rfl, rfl, rfl⟩
      | true =>
        refine .inr ⟨rfl, ?_⟩
        replace h := show ((ev C elt ρ1 s3).bind fun y s4 => if isP y then .ok (some y) s4 else .no) = R.ok o s4 from h
        cases h3 : ev C elt ρ1 s3 with
        | no => rw [h3] at h; cases h
        | exc => rw [h3] at h; cases h
        | ok y s5 =>
          rw [h3, bind_ok] at h
          split at h
          · rename_i hp
            cases h
            exact ⟨y, rfl, hp, rfl⟩
          · cases h
theorem PostR.got {α β α' : Type} {rel : Hp → List Addr → α → β → Prop} {Q : β → Hp → Prop} {Wd' : Value → Option Addr → Hp → Prop} {r : R α'} {f : α' → Store → R α} (h : PostR γ rel κ H Q Wd' (r.calm.bind f)) :
    ∃ o s, r = .ok o s ∧ PostR γ rel κ H Q Wd' (f o s) := by
  cases r with
  | ok o s => exact ⟨o, s, rfl, h⟩
  | exc => exact h.elim
  | no => exact h.elim
def restG (f : D → Store → R (Option D)) (n : Nat) (sv : Sv) (i j : Nat) (st : Store) : R (List D) := match sv with
  | .l xs => if xs.length ≤ i + j then lcL f n (xs.drop i) st else .no
  | sv => lcG f n sv j i st
theorem rest_step (f : D → Store → R (Option D)) (n : Nat) (sv : Sv) (i j : Nat) (st : Store) :
    restG f n sv i j st = .no ∨ (sv.at st i = none ∧ restG f n sv i j st = .ok (st.getD n []) (st.take n)) ∨
      ∃ d j', sv.at st i = some d ∧ j' < j ∧ restG f n sv i j st = (f d st).bind fun o s => lcP n o s (restG f n sv (i + 1) j') := by
  have gen : ∀ sv, (∀ xs, sv ≠ .l xs) → (lcG f n sv j i st = .no ∨ (sv.at st i = none ∧ lcG f n sv j i st = .ok (st.getD n []) (st.take n)) ∨
      ∃ d j', sv.at st i = some d ∧ j' < j ∧ lcG f n sv j i st = (f d st).bind fun o s => lcP n o s (lcG f n sv j' (i + 1))) := by
    intro sv _
    cases j with
    | zero => exact .inl rfl
    | succ j =>
      cases h : sv.at st i with
      | none => exact .inr (.inl ⟨rfl, by unfold lcG; rw [h]⟩)
      | some d => exact .inr (.inr ⟨d, j, rfl, Nat.lt_succ_self _, by rw [lcG, h]⟩)
  cases sv with
  | l xs =>
    by_cases hl : xs.length ≤ i + j
    · have e1 : restG f n (.l xs) i j st = lcL f n (xs.drop i) st := if_pos hl
      rw [e1]
      refine .inr ?_
      by_cases hi : i < xs.length
      · refine .inr ⟨xs[i], j - 1, List.getElem?_eq_getElem hi, by omega, ?_⟩
        rw [List.drop_eq_getElem_cons hi]
        have e2 : restG f n (.l xs) (i + 1) (j - 1) = lcL f n (xs.drop (i + 1)) := by
          funext s
          exact if_pos (by omega)
        rw [e2]
        rfl
      · refine .inl ⟨List.getElem?_eq_none (by omega), ?_⟩
        rw [List.drop_eq_nil_of_le (by omega)]
        rfl
    · exact .inl (if_neg hl)
  | c => exact gen _ (fun _ q => nomatch q)
  | z => exact gen _ (fun _ q => nomatch q)
  | en => exact gen _ (fun _ q => nomatch q)
theorem lcS_rest (f : D → Store → R (Option D)) (st : Store) (sv : Sv) : ∃ j, lcS f st sv = restG f st.length sv 0 j (st ++ [[]]) := by
  cases sv with
  | l xs => exact ⟨xs.length, (if_pos (by omega)).symm⟩
  | c => exact ⟨1000001, rfl⟩
  | z => exact ⟨1000001, rfl⟩
  | en => exact ⟨1000001, rfl⟩
theorem lcP_post {α β : Type} {rel : Hp → List Addr → α → β → Prop} {Q : β → Hp → Prop} {Wd' : Value → Option Addr → Hp → Prop} {n : Nat} {y : D} {s : Store} {f : Store → R (List D)} {g : List D → Store → R α}
    (h : PostR γ rel κ H Q Wd' ((lcP n (some y) s f).bind g)) : (s.getD n []).length < 1000000 ∧ PostR γ rel κ H Q Wd' ((f (s.set n (s.getD n [] ++ [y]))).bind g) := by
  unfold lcP at h
  dsimp only at h
  split at h
  · rename_i hl
    exact ⟨hl, h⟩
  · exact h.elim
theorem te_lc (M : Mx γ C k m X) (hc : m.cm = true) {elt : E} {tg : Tg} {kd : Sk} {src cond : List E} {own : List Nat} {elt' tg' it' : Expr} {ifs' : List Expr} {scope : Scope}
    (hi : PI X tg' it' (tI γ C W kd src)) (hpl : plainE it' = true) (ok : blkC m.N m.sc scope (own.map fun i => (m.N.getD i "", i)) = true) (hsl : ∀ i ∈ slotsT tg, i ∈ own)
    (htg : mTg ⟨m.N, relS scope m.sc, scope, m.cm⟩ tg tg' = true)
    (hcd : ∀ (s : Shared) (H : Hp) (Cc : Addr) (cl : List (PySem.Str × Addr)) (fp : List Addr), PTs (X.blk s H scope (compEnvC scope cl Cc X.env) fp) ifs' (tTs γ C W0 cond))
    (hel : ∀ (s : Shared) (H : Hp) (Cc : Addr) (cl : List (PySem.Str × Addr)) (fp : List Addr), PE (X.blk s H scope (compEnvC scope cl Cc X.env) fp) elt' (tE γ C W0 elt)) :
    PE X (.ListComp elt' [⟨tg', it', ifs', 0⟩] scope pos) (tE γ C W (.lc elt tg kd src cond own)) ∧
      ∀ σ H Q, tE γ C W (.lc elt tg kd src cond own) σ H Q → tLc (tI γ C W kd src) (tG γ tg) (tTs γ C W0 cond) (tE γ C W0 elt) own σ H Q := by
  have hok : BlkOk X.N X.env.scope scope (own.map fun i => (m.N.getD i "", i)) := by rw [M.N, M.sc]; exact blkOk_by ok
  have key : ∀ σ H Q, tE γ C W (.lc elt tg kd src cond own) σ H Q → tLc (tI γ C W kd src) (tG γ tg) (tTs γ C W0 cond) (tE γ C W0 elt) own σ H Q := by
    intro σ H Q q
    obtain ⟨κ, ρ, st, e, q⟩ := q
    simp only [ev] at q
    rw [← bind_assoc] at q
    refine ⟨κ, ρ, st, e, q.bnd fun sv s1 κ1 H1 J e1 so1 hJ q => fun Dd hD => ?_⟩
    obtain ⟨j0, hj0⟩ := lcS_rest (fun d s2 => R.calm (lcF C ρ elt tg cond own d s2)) s1 sv
    replace q := show PostR γ (Is γ) κ1 H1 Q (fun c d H' => W c d σ H') ((lcS (fun d s2 => R.calm (lcF C ρ elt tg cond own d s2)) s1 sv).bind fun ys s5 => R.ok (D.lst ys) s5) from q
    rw [hj0] at q
    have hn : s1.length = κ1.length := so1.len.symm
    refine ⟨fun i j H' => ∃ more st', Ext κ1 H1 (κ1 ++ Dd :: more) H' ∧ StOk γ H' (κ1 ++ Dd :: more) st' ∧
      PostR γ (Is γ) κ1 H1 Q (fun c d H' => W c d σ H') ((restG (fun d s2 => R.calm (lcF C ρ elt tg cond own d s2)) s1.length sv i j st').bind fun ys s5 => R.ok (D.lst ys) s5), ⟨j0, [], _, Ext.cell hD, so1.cell hD (by simp only [IsPs]), q⟩, ?_⟩
    rintro i j H' ⟨more, st', e2, so2, q2⟩
    have eD : (κ1 ++ Dd :: more)[s1.length]? = some Dd := by
      rw [hn, List.getElem?_append_right (Nat.le_refl _), Nat.sub_self]; rfl
    rcases rest_step (fun d s2 => R.calm (lcF C ρ elt tg cond own d s2)) s1.length sv i j st' with hs | ⟨hat, hs⟩ | ⟨d, j', hat, hj, hs⟩
    · rw [hs] at q2; exact q2.elim
    · rw [hs, bind_ok] at q2
      have hst := hJ _ _ _ e2 so2 i
      rw [hat] at hst
      refine .inl ⟨hst, ?_⟩
      have hlt : s1.length < st'.length := by
        rw [← so2.len, List.length_append, List.length_cons, hn]; omega
      have hg : st'[s1.length]? = some (st'.getD s1.length []) := by rw [List.getD_eq_getElem?_getD, List.getElem?_eq_getElem hlt]; rfl
      obtain ⟨vs, h3, h4⟩ := so2.at_ _ _ _ eD hg
      refine q2 κ1 H' (.ref Dd) e2.cut (StOk.cut hn so2) (is_lst.mpr ⟨Dd, vs, rfl, ⟨h3, so1.fresh hD⟩, IsPs.sub (fun b hb => List.mem_append_left _ hb) _ _ h4⟩)
    · rw [hs, bind_assoc] at q2
      obtain ⟨o, s4, ho, q2⟩ := q2.got
      obtain ⟨ρ1, s3, t, hb, hcs, hto⟩ := lcf_ok ho
      have hst := hJ _ _ _ e2 so2 i
      rw [hat] at hst
      obtain ⟨hgo, hy⟩ := hst
      refine .inr ⟨hgo, _, fun H'' hw => ⟨j', hj, hw⟩, fun x H'' hyl => ?_⟩
      obtain ⟨e3, so3, hx⟩ := hy x H'' hyl
      have env3 : Env_ γ σ H'' (κ1 ++ Dd :: more) ρ st' := e.mono (e1.trans (e2.trans e3)) so3
      refine ⟨_, _, _, d, ρ1, env3.wiped own, hx, hb, fun σ' e' hw => ⟨(hw own hsl).trans (wipe_wipe σ own), _, _, _, e', ?_⟩⟩
      rw [hcs]
      intro κ3 H3 t' e4 so4 ht
      subst ht
      obtain ⟨mo, em, _⟩ := e4.pre
      have em2 : κ3 = κ1 ++ Dd :: (more ++ mo) := by rw [em, List.append_assoc]; rfl
      subst em2
      have e14 := e2.trans (e3.trans e4)
      rcases hto with ⟨rfl, rfl, rfl⟩ | ⟨rfl, y, hev, hp, rfl⟩
      · rw [if_neg (by decide)]
        exact ⟨_, _, e14, so4, q2⟩
      · rw [if_pos rfl]
        refine ⟨_, _, _, e'.mono e4 so4, ?_⟩
        rw [hev]
        intro κ4 H4 v e5 so5 hv
        obtain ⟨mo', em', _⟩ := e5.pre
        have em3 : κ4 = κ1 ++ Dd :: (more ++ mo ++ mo') := by rw [em', List.append_assoc]; simp
        subst em3
        have eD4 : (κ1 ++ Dd :: (more ++ mo ++ mo'))[s1.length]? = some Dd := by
          rw [hn, List.getElem?_append_right (Nat.le_refl _), Nat.sub_self]; rfl
        have hlt : s1.length < s4.length := by
          rw [← so5.len, List.length_append, List.length_cons, hn]; omega
        have hg : s4[s1.length]? = some (s4.getD s1.length []) := by rw [List.getD_eq_getElem?_getD, List.getElem?_eq_getElem hlt]; rfl
        obtain ⟨vs, h3, h4⟩ := so5.at_ _ _ _ eD4 hg
        obtain ⟨hl, q2⟩ := lcP_post q2
        have hmem := List.mem_of_getElem? eD4
        refine ⟨vs, h3, by rw [h4.length]; exact line_lt hl, _, _, (e14.trans e5).trans (Ext.write hmem (by rw [h3]; exact fun q => nomatch q)), so5.write eD4 (h4.append (by simp only [IsPs]; exact ⟨v, [], rfl, hv.toP hp, rfl⟩)), q2⟩
  refine ⟨?_, key⟩
  have e0 : (own.map fun i => (m.N.getD i "", i)).map (fun x => x.2) = own := by rw [List.map_map]; exact List.map_id _
  have h := pe_lc (pos := pos) (own := own.map fun i => (m.N.getD i "", i)) (M.calm hc) (by rw [M.N]; exact M.nd) hi hok (fun s H Cc cl fp => pg_tg (M.blk s H Cc cl fp) htg) hcd hel (fold_of hpl)
  rw [e0] at h
  exact pei h key
end
section
variable {γ : Wd} {C : F → List D → Store → R D} {k : Nat} {m : Mc} {X : Cx} {W : WX} {H H1 H2 H' : Hp} {κ κ1 κ2 κ' : List Addr} {st st' : Store}
variable {a b c : E} {ea eb ec : Expr} {pos p p2 p3 : Pos} {es : List E} {xs : List Expr}
/-! ### tests -/
/-- what is tested by its value -/
def valTest : Expr → Bool
  | .BoolOp _ _ _ => false
  | .UnaryOp .Not _ _ => false
  | .Compare _ _ _ _ => false
  | .IfExp _ _ _ _ => false
  | .NamedExpr _ _ _ => false
  | _ => true
theorem tt_val (M : Mx γ C k m X) (he : PE X ea (tE γ C W a)) (hi : ∀ whole, isTrue ea X.env whole = (do let v ← whole; standAt ea.pos; holding [v] (truthy v))) : PT X ea (tT γ C W a) := by
  refine pti (pt_truth he hi) fun σ H Q q => ?_
  obtain ⟨κ, ρ, st, e, q⟩ := q
  unfold tst at q
  refine ⟨κ, ρ, st, e, q.bnd fun dx s1 κ1 H1 x e1 so1 hx q => ?_⟩
  obtain ⟨t, ht, q⟩ := q.optE
  exact ⟨t, by rw [M.g.lk.K]; exact truth_is so1 hx ht, q κ1 H1 t .refl so1 rfl⟩
theorem tt_not (ha : PT X ea (tT γ C W a)) : PT X (.UnaryOp .Not ea pos) (tT γ C W (.not a)) := by
  refine pti (pt_not ha) fun σ H Q q => ?_
  obtain ⟨κ, ρ, st, e, q⟩ := q
  refine ⟨κ, ρ, st, e, ?_⟩
  unfold tst at q ⊢
  simp only [ev] at q
  cases hx : ev C a ρ st with
  | ok d s1 =>
    rw [hx] at q
    replace q := show PostR _ _ _ _ _ _ ((R.opt ((truth s1 d).map fun b => D.bl (!b)) s1).bind fun x s1 => R.opt (truth s1 x) s1) from q
    show PostR _ _ _ _ _ _ (R.opt (truth s1 d) s1)
    cases ht : truth s1 d with
    | none => rw [ht] at q; exact q
    | some t =>
      rw [ht] at q
      intro κ1 H1 b e1 so1 hb
      subst hb
      exact q κ1 H1 (!b) e1 so1 rfl
  | exc => rw [hx] at q; exact q
  | no => rw [hx] at q; exact q
theorem tt_cmp (M : Mx γ C k m X) {op : CmpOp} (ha : PE X ea (tE γ C W a)) (hb : PE X eb (tE γ C W b)) (hm : plainE eb = true) : PT X (.Compare ea [op] [eb] pos) (tT γ C W (.cmp op a b)) := by
  refine pti (pt_cmpR (op_cmp M.g.lk) ha hb (beh_of hm)) fun σ H Q q => ?_
  obtain ⟨κ, ρ, st, e, q⟩ := q
  unfold tst at q
  simp only [ev, bind_assoc] at q
  refine ⟨κ, ρ, st, e, q.bnd fun dx s1 κ1 H1 x e1 so1 hx q => ⟨κ1, ρ, s1, e.mono e1 so1, PostR.bnd q fun dy s2 κ2 H2 y e2 so2 hy q => ?_⟩⟩
  cases ht : cmpS s2 op dx dy with
  | none => rw [ht] at q; exact q.elim
  | some t =>
    rw [ht] at q
    exact ⟨κ2, s2, dx, dy, t, so2, hx.mono e2, hy, ht, t, rfl, q κ2 H2 t .refl so2 rfl⟩
theorem tt_chn (M : Mx γ C k m X) {o1 o2 : CmpOp} (ha : PE X ea (tE γ C W a)) (hb : PE X eb (tE γ C W b)) (hc : PE X ec (tE γ C W c)) (hm : plainE ec = true) :
    PT X (.Compare ea [o1, o2] [eb, ec] pos) (tT γ C W (.chn o1 o2 a b c)) := by
  refine pti (pt_chain (op_cmp M.g.lk) (op_cmp M.g.lk) ha hb hc (last2 hm)) fun σ H Q q => ?_
  obtain ⟨κ, ρ, st, e, q⟩ := q
  unfold tst at q
  simp only [ev, bind_assoc] at q
  refine ⟨κ, ρ, st, e, q.bnd fun dx s1 κ1 H1 x e1 so1 hx q => ⟨κ1, ρ, s1, e.mono e1 so1, PostR.bnd q fun dy s2 κ2 H2 y e2 so2 hy q => ?_⟩⟩
  cases ht : cmpS s2 o1 dx dy with
  | none => rw [ht] at q; exact q.elim
  | some t =>
    rw [ht] at q
    refine ⟨κ2, s2, dx, dy, t, so2, hx.mono e2, hy, ht, t, rfl, ?_⟩
    cases t with
    | false => exact ⟨false, rfl, q κ2 H2 false .refl so2 rfl⟩
    | true =>
      replace q := show PostR γ (fun _ _ a b => b = a) κ2 H2 Q (fun c d H' => W c d σ H') (((ev C c ρ s2).bind fun z s3 => R.opt ((cmpS s3 o2 dy z).map .bl) s3).bind fun x s1 => R.opt (truth s1 x) s1) from q
      rw [bind_assoc] at q
      refine ⟨κ2, ρ, s2, (e.mono e1 so1).mono e2 so2, q.bnd fun dz s3 κ3 H3 z e3 so3 hz q => ?_⟩
      cases ht : cmpS s3 o2 dy dz with
      | none => rw [ht] at q; exact q.elim
      | some t =>
        rw [ht] at q
        exact ⟨κ3, s3, dy, dz, t, so3, hy.mono e3, hz, ht, t, rfl, q κ3 H3 t .refl so3 rfl⟩
theorem pwi {x : Expr} {t t' : TT} (h : PW X x t) (i : ∀ σ H Q, t' σ H Q → t σ H Q) : PW X x t' := ⟨fun w p s σ H Q I q => h.run w p s σ H Q I (i σ H Q q)⟩
theorem tt_and {rest : List Expr} (ha : PT X ea (tT γ C W a)) (hb : PW X (.BoolOp .And (eb :: rest) pos) (tT γ C W b)) : PW X (.BoolOp .And (ea :: eb :: rest) pos) (tT γ C W (.and a b)) := by
  refine pwi (pw_and ha hb) fun σ H Q q => ?_
  obtain ⟨κ, ρ, st, e, q⟩ := q
  unfold tst at q
  simp only [ev, bind_assoc] at q
  have q' : PostR γ (fun _ _ a b => b = a) κ H Q (fun c d H' => W c d σ H') ((tst C a ρ st).bind fun t s1 => if t = true then tst C b ρ s1 else .ok false s1) := by
    unfold tst
    cases hx : ev C a ρ st with
    | ok x s1 =>
      rw [hx] at q
      replace q := show PostR γ (fun _ _ a b => b = a) κ H Q (fun c d H' => W c d σ H') ((brR (truth s1 x) (ev C b ρ s1) (.ok x s1)).bind fun x s1 => R.opt (truth s1 x) s1) from q
      show PostR _ _ _ _ _ _ ((R.opt (truth s1 x) s1).bind _)
      cases ht : truth s1 x with
      | none => rw [ht] at q; exact q.elim
      | some t =>
        rw [ht] at q
        cases t with
        | true => exact q
        | false =>
          replace q := show PostR γ (fun _ _ a b => b = a) κ H Q (fun c d H' => W c d σ H') (R.opt (truth s1 x) s1) from q
          rw [ht] at q
          exact q
    | exc c xs s1 => rw [hx] at q; exact q
    | no => rw [hx] at q; exact q
  refine ⟨κ, ρ, st, e, q'.bnd fun t s1 κ1 H1 t' e1 so1 ht q => ?_⟩
  subst ht
  cases t' with
  | true => exact ⟨κ1, ρ, s1, e.mono e1 so1, q⟩
  | false => exact q κ1 H1 false .refl so1 rfl
theorem tt_or {rest : List Expr} (ha : PT X ea (tT γ C W a)) (hb : PW X (.BoolOp .Or (eb :: rest) pos) (tT γ C W b)) : PW X (.BoolOp .Or (ea :: eb :: rest) pos) (tT γ C W (.or a b)) := by
  refine pwi (pw_or ha hb) fun σ H Q q => ?_
  obtain ⟨κ, ρ, st, e, q⟩ := q
  unfold tst at q
  simp only [ev, bind_assoc] at q
  have q' : PostR γ (fun _ _ a b => b = a) κ H Q (fun c d H' => W c d σ H') ((tst C a ρ st).bind fun t s1 => if t = true then .ok true s1 else tst C b ρ s1) := by
    unfold tst
    cases hx : ev C a ρ st with
    | ok x s1 =>
      rw [hx] at q
      replace q := show PostR γ (fun _ _ a b => b = a) κ H Q (fun c d H' => W c d σ H') ((brR (truth s1 x) (.ok x s1) (ev C b ρ s1)).bind fun x s1 => R.opt (truth s1 x) s1) from q
      show PostR _ _ _ _ _ _ ((R.opt (truth s1 x) s1).bind _)
      cases ht : truth s1 x with
      | none => rw [ht] at q; exact q.elim
      | some t =>
        rw [ht] at q
        cases t with
        | false => exact q
        | true =>
          replace q := show PostR γ (fun _ _ a b => b = a) κ H Q (fun c d H' => W c d σ H') (R.opt (truth s1 x) s1) from q
          rw [ht] at q
          exact q
    | exc c xs s1 => rw [hx] at q; exact q
    | no => rw [hx] at q; exact q
  refine ⟨κ, ρ, st, e, q'.bnd fun t s1 κ1 H1 t' e1 so1 ht q => ?_⟩
  subst ht
  cases t' with
  | false => exact ⟨κ1, ρ, s1, e.mono e1 so1, q⟩
  | true => exact q κ1 H1 true .refl so1 rfl
theorem tt_ite (hc : PT X ec (tT γ C W c)) (ha : PT X ea (tT γ C W a)) (hb : PT X eb (tT γ C W b)) : PT X (.IfExp ec ea eb pos) (tT γ C W (.ite c a b)) := by
  refine ⟨fun pins s σ H Q I q => ?_⟩
  rw [PySem.arm_isTrue_IfExp]
  obtain ⟨κ, ρ, st, e, q⟩ := q
  unfold tst at q
  simp only [ev, bind_assoc] at q
  have q' : PostR γ (fun _ _ a b => b = a) κ H Q (fun c d H' => W c d σ H') ((tst C c ρ st).bind fun t s1 => if t = true then tst C a ρ s1 else tst C b ρ s1) := by
    unfold tst
    cases hx : ev C c ρ st with
    | ok x s1 =>
      rw [hx] at q
      replace q := show PostR γ (fun _ _ a b => b = a) κ H Q (fun c d H' => W c d σ H') ((brR (truth s1 x) (ev C a ρ s1) (ev C b ρ s1)).bind fun x s1 => R.opt (truth s1 x) s1) from q
      show PostR _ _ _ _ _ _ ((R.opt (truth s1 x) s1).bind _)
      cases ht : truth s1 x with
      | none => rw [ht] at q; exact q.elim
      | some t =>
        rw [ht] at q
        cases t with
        | false => exact q
        | true => exact q
    | exc c xs s1 => rw [hx] at q; exact q
    | no => rw [hx] at q; exact q
  have q2 : tT γ C W c σ H fun t H1 => if t = true then tT γ C W a σ H1 Q else tT γ C W b σ H1 Q := by
    refine ⟨κ, ρ, st, e, q'.bnd fun t s1 κ1 H1 t' e1 so1 ht q => ?_⟩
    subst ht
    cases t' with
    | false => exact ⟨κ1, ρ, s1, e.mono e1 so1, q⟩
    | true => exact ⟨κ1, ρ, s1, e.mono e1 so1, q⟩
  refine wpAny_bind (thn (hc.run pins s σ H _ I q2) fun t s1 ⟨H1, I1, q1⟩ => ?_)
  cases t with
  | true => exact ha.run pins s1 σ H1 Q I1 q1
  | false => exact hb.run pins s1 σ H1 Q I1 q1
end
section
variable {γ : Wd} {C : F → List D → Store → R D} {k : Nat}
/-! ### every expression of the text -/
structure T3 (γ : Wd) (C : F → List D → Store → R D) (W : WX) (X : Cx) (e : E) (x : Expr) : Prop where
  pe : PE X x (tE γ C W e)
  pt : PT X x (tT γ C W e)
  pw : ∀ op vs p, x = .BoolOp op vs p → PW X x (tT γ C W e)
def AllT3 (γ : Wd) (C : F → List D → Store → R D) (W : WX) (X : Cx) : List E → List Expr → Prop
  | [], [] => True
  | e :: es, x :: xs => T3 γ C W X e x ∧ AllT3 γ C W X es xs
  | _, _ => False
theorem AllT3.pe {W : WX} {X : Cx} : ∀ {es : List E} {xs : List Expr}, AllT3 γ C W X es xs → AllPE γ C W X es xs
  | [], [], _ => trivial
  | [], _ :: _, h => h.elim
  | _ :: _, [], h => h.elim
  | _ :: _, _ :: _, h => ⟨h.1.pe, AllT3.pe h.2⟩
theorem t3v {W : WX} {X : Cx} {m : Mc} {e : E} {x : Expr} (M : Mx γ C k m X) (h : PE X x (tE γ C W e)) (hi : ∀ whole, isTrue x X.env whole = (do let v ← whole; standAt x.pos; holding [v] (truthy v))) (hb : ∀ op vs p, x ≠ .BoolOp op vs p) : T3 γ C W X e x :=
  ⟨h, tt_val M h hi, fun op vs p q => absurd q (hb op vs p)⟩
theorem t3n {W : WX} {X : Cx} {e : E} {x : Expr} (h : PE X x (tE γ C W e)) (ht : PT X x (tT γ C W e)) (hb : ∀ op vs p, x ≠ .BoolOp op vs p) : T3 γ C W X e x :=
  ⟨h, ht, fun op vs p q => absurd q (hb op vs p)⟩
theorem opt_list {m : Mc} {es : List E} {o : Option Expr} {W : WX} {X : Cx} (h : mEs m es o.toList = true) (hp : AllPE γ C W X es o.toList) : PO X o (tO γ C W es) := by
  cases o with
  | none =>
    cases es with
    | nil => exact to_none
    | cons => simp [mEs] at h
  | some x =>
    cases es with
    | nil => simp [mEs] at h
    | cons a es =>
      cases es with
      | nil => exact to_some hp.1
      | cons => simp [mEs] at h
theorem mty1 {m : Mc} {t : Ty} {y : Expr} (h : mTy m [t] [y] = true) : ∃ x p, y = .Name x p ∧ mGl m (nmT t) x = true := by
  cases y <;> first | (simp [mTy] at h; done) | skip
  simp only [mTy, Bool.and_eq_true] at h
  exact ⟨_, _, rfl, h.1⟩
mutual
theorem sE : ∀ (e : E) (m : Mc) (X : Cx) (W : WX) (x : Expr), mE m e x = true → Mx γ C k m X → Takes X W → T3 γ C W X e x
  | .var i, m, X, W, x, h, M, tk => by
    cases x <;> first | (simp [mE] at h; done) | skip
    simp only [mE] at h
    exact t3v M (te_var M h) (fun _ => rfl) (fun _ _ _ q => nomatch q)
  | .cst d, m, X, W, x, h, M, tk => by
    cases x <;> first | (simp [mE] at h; done) | skip
    simp only [mE] at h
    exact t3v M (te_cst h) (fun _ => rfl) (fun _ _ _ q => nomatch q)
  | .glo g, m, X, W, x, h, M, tk => by
    cases x <;> first | (simp [mE] at h; done) | skip
    simp only [mE] at h
    exact t3v M (te_glo M h) (fun _ => rfl) (fun _ _ _ q => nomatch q)
  | .fnv f, m, X, W, x, h, M, tk => by
    cases x <;> first | (simp [mE] at h; done) | skip
    simp only [mE] at h
    exact t3v M (te_fnv M h) (fun _ => rfl) (fun _ _ _ q => nomatch q)
  | .bin op a b, m, X, W, x, h, M, tk => by
    cases x <;> first | (simp [mE] at h; done) | skip
    simp only [mE, Bool.and_eq_true, decide_eq_true_eq] at h
    obtain ⟨⟨rfl, h1⟩, h2⟩ := h
    exact t3v M (te_bin M (sE a m X W _ h1 M tk).pe (sE b m X W _ h2 M tk).pe) (fun _ => rfl) (fun _ _ _ q => nomatch q)
  | .neg a, m, X, W, x, h, M, tk => by
    cases x <;> first | (simp [mE] at h; done) | skip
    rename_i op x pos
    cases op <;> first | (simp [mE] at h; done) | skip
    simp only [mE] at h
    exact t3v M (te_neg (sE a m X W _ h M tk).pe) (fun _ => rfl) (fun _ _ _ q => nomatch q)
  | .not a, m, X, W, x, h, M, tk => by
    cases x <;> first | (simp [mE] at h; done) | skip
    rename_i op x pos
    cases op <;> first | (simp [mE] at h; done) | skip
    simp only [mE] at h
    have ih := sE a m X W _ h M tk
    exact t3n (te_not M ih.pe) (tt_not ih.pt) (fun _ _ _ q => nomatch q)
  | .and a b, m, X, W, x, h, M, tk => by
    cases x <;> first | (simp [mE] at h; done) | skip
    rename_i op vs pos
    cases op <;> first | (simp [mE] at h; done) | skip
    match vs, h with
    | [], h => simp [mE] at h
    | [_], h => simp [mE] at h
    | [v, w], h =>
      simp only [mE, Bool.and_eq_true] at h
      have ia := sE a m X W _ h.1 M tk
      have ib := sE b m X W _ h.2 M tk
      have hw : PW X (.BoolOp .And [v, w] pos) (tT γ C W (.and a b)) := tt_and ia.pt (pw_and1 ib.pt)
      exact ⟨te_and M ia.pe (pe_one ib.pe), hw.pt, fun _ _ _ _ => hw⟩
    | v :: w :: z :: r, h =>
      simp only [mE, Bool.and_eq_true] at h
      have ia := sE a m X W _ h.1 M tk
      have ib := sE b m X W _ h.2 M tk
      have hw : PW X (.BoolOp .And (v :: w :: z :: r) pos) (tT γ C W (.and a b)) := tt_and ia.pt (ib.pw _ _ _ rfl)
      exact ⟨te_and M ia.pe ib.pe, hw.pt, fun _ _ _ _ => hw⟩
  | .or a b, m, X, W, x, h, M, tk => by
    cases x <;> first | (simp [mE] at h; done) | skip
    rename_i op vs pos
    cases op <;> first | (simp [mE] at h; done) | skip
    match vs, h with
    | [], h => simp [mE] at h
    | [_], h => simp [mE] at h
    | [v, w], h =>
      simp only [mE, Bool.and_eq_true] at h
      have ia := sE a m X W _ h.1 M tk
      have ib := sE b m X W _ h.2 M tk
      have hw : PW X (.BoolOp .Or [v, w] pos) (tT γ C W (.or a b)) := tt_or ia.pt (pw_or1 ib.pt)
      exact ⟨te_or M ia.pe (pe_one ib.pe), hw.pt, fun _ _ _ _ => hw⟩
    | v :: w :: z :: r, h =>
      simp only [mE, Bool.and_eq_true] at h
      have ia := sE a m X W _ h.1 M tk
      have ib := sE b m X W _ h.2 M tk
      have hw : PW X (.BoolOp .Or (v :: w :: z :: r) pos) (tT γ C W (.or a b)) := tt_or ia.pt (ib.pw _ _ _ rfl)
      exact ⟨te_or M ia.pe ib.pe, hw.pt, fun _ _ _ _ => hw⟩
  | .cmp op a b, m, X, W, x, h, M, tk => by
    cases x <;> first | (simp [mE] at h; done) | skip
    rename_i x ops cs pos
    match ops, cs, h with
    | [op'], [y], h =>
      simp only [mE, Bool.and_eq_true, decide_eq_true_eq] at h
      obtain ⟨⟨rfl, h1⟩, h2⟩ := h
      have ia := sE a m X W _ h1 M tk
      have ib := sE b m X W _ h2 M tk
      exact t3n (te_cmp M ia.pe ib.pe (mE_plain h2)) (tt_cmp M ia.pe ib.pe (mE_plain h2)) (fun _ _ _ q => nomatch q)
    | [], _, h => simp [mE] at h
    | [_], [], h => simp [mE] at h
    | [_], _ :: _ :: _, h => simp [mE] at h
    | _ :: _ :: _, _, h => simp [mE] at h
  | .chn o1 o2 a b c, m, X, W, x, h, M, tk => by
    cases x <;> first | (simp [mE] at h; done) | skip
    rename_i x ops cs pos
    match ops, cs, h with
    | [p1, p2], [y, z], h =>
      simp only [mE, Bool.and_eq_true, decide_eq_true_eq] at h
      obtain ⟨⟨⟨⟨rfl, rfl⟩, h1⟩, h2⟩, h3⟩ := h
      have ia := sE a m X W _ h1 M tk
      have ib := sE b m X W _ h2 M tk
      have ic := sE c m X W _ h3 M tk
      exact t3n (te_chn M ia.pe ib.pe ic.pe (mE_plain h3)) (tt_chn M ia.pe ib.pe ic.pe (mE_plain h3)) (fun _ _ _ q => nomatch q)
    | [], _, h => simp [mE] at h
    | [_], _, h => simp [mE] at h
    | [_, _], [], h => simp [mE] at h
    | [_, _], [_], h => simp [mE] at h
    | [_, _], _ :: _ :: _ :: _, h => simp [mE] at h
    | _ :: _ :: _ :: _, _, h => simp [mE] at h
  | .chn3 _ _ _ _ _ _ _, m, X, W, x, h, M, tk => by simp [mE] at h
  | .ite c a b, m, X, W, x, h, M, tk => by
    cases x <;> first | (simp [mE] at h; done) | skip
    simp only [mE, Bool.and_eq_true] at h
    obtain ⟨⟨h1, h2⟩, h3⟩ := h
    have ic := sE c m X W _ h1 M tk
    have ia := sE a m X W _ h2 M tk
    have ib := sE b m X W _ h3 M tk
    exact t3n (te_ite ic.pt ia.pe ib.pe) (tt_ite ic.pt ia.pt ib.pt) (fun _ _ _ q => nomatch q)
  | .tup es, m, X, W, x, h, M, tk => by
    cases x <;> first | (simp [mE] at h; done) | skip
    simp only [mE, Bool.and_eq_true, decide_eq_true_eq] at h
    have ih := sEs es m X W _ h.1 M tk
    exact t3v M (te_tup h.2 (pa_all h.1 ih.pe)) (fun _ => rfl) (fun _ _ _ q => nomatch q)
  | .lst es, m, X, W, x, h, M, tk => by
    cases x <;> first | (simp [mE] at h; done) | skip
    simp only [mE, Bool.and_eq_true, decide_eq_true_eq] at h
    have ih := sEs es m X W _ h.1 M tk
    exact t3v M (te_lst h.2 (pa_all h.1 ih.pe)) (fun _ => rfl) (fun _ _ _ q => nomatch q)
  | .lstC es, m, X, W, x, h, M, tk => by
    cases x <;> first | (simp [mE] at h; done) | skip
    simp only [mE, Bool.and_eq_true, decide_eq_true_eq] at h
    have ih := sEs es m X W _ h.1 M tk
    exact t3v M (te_lstC h.2 (pa_all h.1 ih.pe)) (fun _ => rfl) (fun _ _ _ q => nomatch q)
  | .idx a i, m, X, W, x, h, M, tk => by
    cases x <;> first | (simp [mE] at h; done) | skip
    simp only [mE, Bool.and_eq_true] at h
    exact t3v M (te_idx M (sE a m X W _ h.1 M tk).pe (sE i m X W _ h.2 M tk).pe (mE_plain h.2)) (fun _ => rfl) (fun _ _ _ q => nomatch q)
  | .sli a lo hi, m, X, W, x, h, M, tk => by
    cases x <;> first | (simp [mE] at h; done) | skip
    rename_i v sl pos
    cases sl <;> first | (simp [mE] at h; done) | skip
    rename_i l u s pos2
    cases s <;> first | (simp [mE] at h; done) | skip
    simp only [mE, Bool.and_eq_true] at h
    obtain ⟨⟨h1, h2⟩, h3⟩ := h
    exact t3v M (te_sli M (sE a m X W _ h1 M tk).pe (opt_list h2 (sEs lo m X W _ h2 M tk).pe) (opt_list h3 (sEs hi m X W _ h3 M tk).pe)) (fun _ => rfl) (fun _ _ _ q => nomatch q)
  | .rev a, m, X, W, x, h, M, tk => by
    simp only [mE] at h
    split at h
    · exact t3v M (te_rev M (sE a m X W _ h M tk).pe) (fun _ => rfl) (fun _ _ _ q => nomatch q)
    · cases h
  | .call f es, m, X, W, x, h, M, tk => by
    simp only [mE] at h
    split at h
    · simp only [Bool.and_eq_true] at h
      obtain ⟨⟨h1, h2⟩, h3⟩ := h
      exact t3v M (te_call M tk h2 h1 h3 (pa_all h3 (sEs es m X W _ h3 M tk).pe)) (fun _ => rfl) (fun _ _ _ q => nomatch q)
    · cases h
  | .callk f es ks, m, X, W, x, h, M, tk => by
    simp only [mE] at h
    split at h
    · simp only [Bool.and_eq_true, decide_eq_true_eq] at h
      obtain ⟨⟨⟨⟨h0, h1⟩, h2⟩, h3⟩, h4⟩ := h
      have h0 : es = [] := List.isEmpty_iff.mp h0
      subst h0
      exact t3v M (te_callk M tk h2 h1 h4 (pk_all h3 (sEs ks m X W _ h3 M tk).pe)) (fun _ => rfl) (fun _ _ _ q => nomatch q)
    · cases h
  | .callv i es, m, X, W, x, h, M, tk => by
    simp only [mE] at h
    split at h
    · simp only [Bool.and_eq_true] at h
      obtain ⟨⟨h1, h2⟩, h3⟩ := h
      exact t3v M (te_callv M tk h2 h1 h3 (pa_all h3 (sEs es m X W _ h3 M tk).pe)) (fun _ => rfl) (fun _ _ _ q => nomatch q)
    · cases h
  | .bi b es, m, X, W, x, h, M, tk => by
    simp only [mE] at h
    split at h
    · simp only [Bool.and_eq_true] at h
      obtain ⟨⟨h1, h2⟩, h3⟩ := h
      exact t3v M (te_bi M h2 h1 h3 (pa_all h3 (sEs es m X W _ h3 M tk).pe)) (fun _ => rfl) (fun _ _ _ q => nomatch q)
    · cases h
  | .isi a ts many, m, X, W, x, h, M, tk => by
    simp only [mE] at h
    split at h
    · simp only [Bool.and_eq_true] at h
      obtain ⟨⟨h1, h2⟩, h3⟩ := h
      have ia := (sE a m X W _ h2 M tk).pe
      unfold mTys at h3
      split at h3
      · rename_i hm
        split at h3
        · rw [Bool.and_eq_true, decide_eq_true_eq] at h3
          subst hm
          exact t3v M (te_isiT M h3.2 h1 h3.1 ia (mE_plain h2)) (fun _ => rfl) (fun _ _ _ q => nomatch q)
        · cases h3
      · rename_i hm
        rw [Bool.and_eq_true] at h3
        have hm : many = false := by simpa using hm
        subst hm
        match ts, h3 with
        | [t], h3 =>
          obtain ⟨x', p', rfl, hx⟩ := mty1 h3.1
          exact t3v M (te_isi1 M h1 hx ia (mE_plain h2)) (fun _ => rfl) (fun _ _ _ q => nomatch q)
        | [], h3 => simp at h3
        | _ :: _ :: _, h3 => simp at h3
    · cases h
  | .isx _, m, X, W, x, h, M, tk => by simp [mE] at h
  | .lc elt tg kd src cond own, m, X, W, x, h, M, tk => by
    simp only [mE] at h
    split at h
    · simp only [Bool.and_eq_true] at h
      obtain ⟨⟨⟨⟨⟨⟨⟨h1, h2⟩, h3⟩, h4⟩, h5⟩, h6⟩, h7⟩, h8⟩ := h
      split at h2
      · rename_i as hs
        obtain ⟨g1, g2⟩ := ti_src M hs h2 (sEs src m X W _ h2 M tk).pe
        refine t3v M (te_lc M h1 g1 g2 h3 (fun i hi => ?_) h4 (fun s H Cc cl fp => ?_) (fun s H Cc cl fp => (sE elt _ _ W0 _ h8 (M.blk s H Cc cl fp) takes0).pe)).1 (fun _ => rfl) (fun _ _ _ q => nomatch q)
        · have := List.all_eq_true.mp h5 i hi
          simpa using this
        · have hc := sEs cond _ _ W0 _ h6 (M.blk s H Cc cl fp) takes0
          rename_i ifs _ _ _
          match cond, ifs, h6, hc, h7 with
          | [], [], _, _, _ => exact tts_nil
          | [c], [y], _, hc, _ => exact tts_one hc.1.pt
          | [], _ :: _, h6, _, _ => simp [mEs] at h6
          | [_], [], h6, _, _ => simp [mEs] at h6
          | [_], _ :: _ :: _, h6, _, _ => simp [mEs] at h6
          | _ :: _ :: _, _, _, _, h7 => simp at h7
      · cases h2
    · cases h
  | .listV kd src, m, X, W, x, h, M, tk => by
    simp only [mE] at h
    split at h
    · simp only [Bool.and_eq_true] at h
      obtain ⟨⟨⟨h1, h2⟩, h3⟩, h4⟩ := h
      split at h4
      · rename_i as hs
        rw [Bool.and_eq_true] at h4
        exact t3v M (te_listV (tli_src M h2 h1 h3 hs h4.1 (sEs src m X W _ h4.1 M tk).pe)) (fun _ => rfl) (fun _ _ _ q => nomatch q)
      · cases h4
    · cases h
  | .listC kd src, m, X, W, x, h, M, tk => by
    simp only [mE] at h
    split at h
    · simp only [Bool.and_eq_true] at h
      obtain ⟨⟨⟨h1, h2⟩, h3⟩, h4⟩ := h
      split at h4
      · rename_i as hs
        rw [Bool.and_eq_true] at h4
        exact t3v M (te_listC (tli_src M h2 h1 h3 hs h4.1 (sEs src m X W _ h4.1 M tk).pe)) (fun _ => rfl) (fun _ _ _ q => nomatch q)
      · cases h4
    · cases h
  | .mth _ _ _, m, X, W, x, h, M, tk => by simp [mE] at h
  | .pop o i, m, X, W, x, h, M, tk => by
    simp only [mE] at h
    split at h
    · simp only [Bool.and_eq_true, decide_eq_true_eq] at h
      obtain ⟨⟨⟨rfl, h1⟩, h2⟩, h3⟩ := h
      exact t3v M (te_pop M h1 (sE o m X W _ h2 M tk).pe (sE i m X W _ h3 M tk).pe (mE_plain h3)) (fun _ => rfl) (fun _ _ _ q => nomatch q)
    · cases h
termination_by structural e => e
theorem sEs : ∀ (es : List E) (m : Mc) (X : Cx) (W : WX) (xs : List Expr), mEs m es xs = true → Mx γ C k m X → Takes X W → AllT3 γ C W X es xs
  | [], m, X, W, xs, h, M, tk => by
    cases xs with
    | nil => trivial
    | cons => simp [mEs] at h
  | e :: es, m, X, W, xs, h, M, tk => by
    cases xs with
    | nil => simp [mEs] at h
    | cons x xs =>
      simp only [mEs, Bool.and_eq_true] at h
      exact ⟨sE e m X W x h.1 M tk, sEs es m X W xs h.2 M tk⟩
termination_by structural es => es
end
end
/-! ### statements against the text -/
/-- the swap of a comprehension's names -/
def swB (m : Mc) (x : PySem.Str) (py : Pos) : Expr → Bool
  | .ListComp _ _ scope pos => decide (m.sc.names.lookup x = some .local) && py.line == pos.line && !(scope.names.any fun (n, k) => n == x && (k == .local || k == .cell))
  | _ => false
/-- not a plain local of the scope -/
def nlB (m : Mc) (x : PySem.Str) : Bool := !(decide (m.sc.names.lookup x = some .local))
/-- stored one by one, from the left -/
def nsB (m : Mc) (ts : List Expr) : Bool := (!(ts.length == 2 || ts.length == 3)) || ts.any fun t => match t with
  | .Name x _ => nlB m x
  | _ => false
def notComp : Expr → Bool
  | .ListComp _ _ _ _ => false
  | .SetComp _ _ _ _ => false
  | .DictComp _ _ _ _ _ => false
  | _ => true
def isTupE : Expr → Bool
  | .Tuple _ _ _ => true
  | _ => false
def nmE : Expr → PySem.Str
  | .Name x _ => x
  | _ => ""
/-- a, b = x, y: the names are stored from the right -/
def swapB (m : Mc) (ts vs : List Expr) : Bool :=
  (ts.all fun t => match t with | .Name x p => (decide (m.sc.names.lookup x = some .local)) && p.line == (((ts.head?.map fun t => t.pos.line)).getD 0) | _ => false) &&
  ((ts.map nmE).eraseDups.length == ts.length) && !(vs.all (foldedForSure 8)) && !(vs.all (constantsAlone 8))
def len23 : List Expr → List Expr → Bool
  | [_, _], [_, _] => true
  | [_, _, _], [_, _, _] => true
  | _, _ => false
def isNameE : Expr → Bool
  | .Name _ _ => true
  | _ => false
mutual
def mS (m : Mc) : S → Stmt → Bool
  | .asg i e, s => (match s with | .Assign [.Name x py] e' _ => mOne m i (.Name x py) && mE m e e' && (notComp e' || swB m x py e' || nlB m x) | _ => false)
  | .unp is e, s => (match s with | .Assign [.Tuple ts _ _] e' _ => mMany m is ts && m.cm && mE m e e' && (!isTupE e' || nsB m ts) | _ => false)
  | .par is es, s => (match s with | .Assign [.Tuple ts _ _] (.Tuple es' _ _) _ => mMany m is ts && m.cm && mEs m es es' && len23 ts es' && swapB m ts es' && decide is.Nodup | _ => false)
  | .sub o i e, s => (match s with | .Assign [.Subscript o' i' _] e' _ => mE m o o' && mE m i i' && mE m e e' | _ => false)
  | .aug i op e, s => (match s with | .AugAssign (.Name x py) op' e' _ => mOne m i (.Name x py) && decide (op = op') && (decide (op = .Add) || decide (op = .Sub)) && mE m e e' | _ => false)
  | .app o e, s => (match s with | .Expr (.Call (.Attribute (.Name y py) x apos) [e'] [] cpos) _ => decide (x = ("append" : PySem.Str)) && (apos.endLine == cpos.line) && mE m o (.Name y py) && mE m e e' | _ => false)
  | .ext o e, s => (match s with | .Expr (.Call (.Attribute (.Name y py) x apos) [e'] [] cpos) _ => decide (x = ("extend" : PySem.Str)) && (apos.endLine == cpos.line) && mE m o (.Name y py) && mE m e e' | _ => false)
  | .ret e, s => (match s with | .Return (some e') _ => mE m e e' | _ => false)
  | .retN, s => (match s with | .Return none _ => true | _ => false)
  | .ife c a b, s => (match s with | .If c' a' b' _ => mE m c c' && mSs m a a' && mSs m b b' | _ => false)
  | .fr tg k src body, s => (match s with | .For tg' it' body' [] _ => m.cm && mTg m tg tg' && (match srcArgs m (some tg') k it' with | some as => mEs m src as | none => false) && mSs m body body' | _ => false)
  | .wh c body, s => (match s with | .While c' body' [] _ => mE m c c' && mSs m body body' | _ => false)
  | .brk, s => (match s with | .Break _ => true | _ => false)
  | .cnt, s => (match s with | .Continue _ => true | _ => false)
  | .pas, s => (match s with | .Pass _ => true | _ => false)
  | .drop e, s => (match s with | .Expr e' _ => mE m e e' && notComp e' | _ => false)
  | .rse c es, s => (match s with | .Raise (some (.Call (.Name x _) [] [] _)) none _ => m.cm && es.isEmpty && mGl m (nmX c) x && xcs.contains c | _ => false)
  | .tri _ _ _ _, _ => false
termination_by structural s => s
def mSs (m : Mc) : List S → List Stmt → Bool
  | [], ss => (match ss with | [] => true | _ => false)
  | a :: r, ss => (match ss with | s :: ss' => mS m a s && mSs m r ss' | _ => false)
termination_by structural s => s
end
/-! ### their readings -/
def PostX (γ : Wd) (κ : List Addr) (H : Hp) (D : Ends) (W : WX) : Py.X → Prop
  | .nx ρ st => ∀ κ' H' σ', Py.Ext κ H κ' H' → Env_ γ σ' H' κ' ρ st → D.nx σ' H'
  | .ret d st => ∀ κ' H' v, Py.Ext κ H κ' H' → StOk γ H' κ' st → Is γ H' κ' d v → D.rt v H'
  | .brk ρ st => ∀ κ' H' σ', Py.Ext κ H κ' H' → Env_ γ σ' H' κ' ρ st → D.bk σ' H'
  | .cnt ρ st => ∀ κ' H' σ', Py.Ext κ H κ' H' → Env_ γ σ' H' κ' ρ st → D.ct σ' H'
  | .exc c xs ρ st => ∀ κ' H' σ' d, Py.Ext κ H κ' H' → Env_ γ σ' H' κ' ρ st → ExcAt γ H' κ' c xs d → W (.ref (γ.xa c)) d σ' H'
  | .no => False
def tS (γ : Wd) (C : F → List D → Store → R D) (W : WX) (s : S) : TS := fun D σ H => ∃ κ ρ st, Env_ γ σ H κ ρ st ∧ PostX γ κ H D W (ex C s ρ st)
def tSs (γ : Wd) (C : F → List D → Store → R D) (W : WX) (ss : List S) : TS := fun D σ H => ∃ κ ρ st, Env_ γ σ H κ ρ st ∧ PostX γ κ H D W (exs C ss ρ st)
structure Sx (X : Cx) : Prop where
  kd : X.env.scope.kind = .function
  po : PassesOwn (model X.prog X.w) X.A X.env X.xe
section
variable {γ : Wd} {C : F → List D → Store → R D} {k : Nat} {m : Mc} {X : Cx} {W : WX} {H H1 H2 H' : Hp} {κ κ1 κ2 κ' : List Addr} {st st' : Store} {Dn : Ends} {σ : L2.St} {ρ : Fr}
variable {a b c : E} {ea eb ec : Expr} {pos p p2 p3 : Pos} {es : List E} {xs : List Expr}
theorem PostX.ext {x : Py.X} (e : Py.Ext κ H κ1 H1) (h : PostX γ κ H Dn W x) : PostX γ κ1 H1 Dn W x := by
  cases x with
  | nx ρ st => exact fun κ' H' σ' x s => h κ' H' σ' (e.trans x) s
  | ret d st => exact fun κ' H' σ' x s => h κ' H' σ' (e.trans x) s
  | brk ρ st => exact fun κ' H' σ' x s => h κ' H' σ' (e.trans x) s
  | cnt ρ st => exact fun κ' H' σ' x s => h κ' H' σ' (e.trans x) s
  | exc c xs ρ st => exact fun κ' H' σ' d x s => h κ' H' σ' d (e.trans x) s
  | no => exact h
/-- from a statement's answer to its expression's -/
theorem PostX.sto {α β : Type} {rel1 : Hp → List Addr → α → β → Prop} {Q1 : β → Hp → Prop} {r : R α} {f : α → Store → Py.X} (e : Env_ γ σ H κ ρ st) (h : PostX γ κ H Dn W (r.st ρ f))
    (k : ∀ a st1 κ1 H1 b, Py.Ext κ H κ1 H1 → StOk γ H1 κ1 st1 → rel1 H1 κ1 a b → PostX γ κ1 H1 Dn W (f a st1) → Q1 b H1) : PostR γ rel1 κ H Q1 (fun c d H' => W c d σ H') r := by
  cases r with
  | ok a st => exact fun κ' H' b x s q => k a st κ' H' b x s q (PostX.ext x h)
  | exc c xs st => exact fun κ' H' d x s q => h κ' H' σ d x (e.mono x s) q
  | no => exact h
theorem PostX.optE {α : Type} {o : Option α} {f : α → Py.X} (h : PostX γ κ H Dn W (Py.X.opt o f)) : ∃ a, o = some a ∧ PostX γ κ H Dn W (f a) := by
  cases o with
  | none => exact h.elim
  | some a => exact ⟨a, rfl, h⟩
theorem sw_none (M : Mx γ C k m X) {x : PySem.Str} {py : Pos} {l : Nat} (h : (notComp ea || nlB m x) = true) : swapsWith ea (some (.Name x py)) l X.env = pure false := by
  have hk : notComp ea = false → (X.env.kindOf x == some .local) = false := fun hn => by
    rw [hn, Bool.false_or] at h
    have h1 : m.sc.names.lookup x ≠ some .local := by
      intro q
      unfold nlB at h
      rw [decide_eq_true q] at h
      cases h
    have k1 : X.env.kindOf x = m.sc.names.lookup x := by show X.env.scope.names.lookup x = _; rw [M.sc]
    rw [k1]
    simpa using h1
  cases ea <;> first | rfl | skip
  all_goals
    have h2 := hk rfl
    unfold swapsWith
    dsimp only
    rw [h2, Bool.and_false, Bool.false_and, Bool.false_and]
theorem fm_short {α β : Type} {f : α → Option β} : ∀ {xs : List α}, (∃ x ∈ xs, f x = none) → (xs.filterMap f).length ≠ xs.length
  | [], h => by obtain ⟨x, hx, _⟩ := h; cases hx
  | y :: ys, h => by
    have hle := List.length_filterMap_le f ys
    rw [List.filterMap_cons]
    split
    · rw [List.length_cons]; omega
    · rename_i z hz
      obtain ⟨x, hx, hn⟩ := h
      rcases List.mem_cons.mp hx with rfl | hx
      · rw [hn] at hz; cases hz
      · have := fm_short ⟨x, hx, hn⟩
        rw [List.length_cons, List.length_cons]
        omega
theorem ns_none (M : Mx γ C k m X) {ts vs : List Expr} {kt k2 : Nat} {pt p2 : Pos} (h : nsB m ts = true) : swappedStores [.Tuple ts kt pt] (.Tuple vs k2 p2) X.env = pure none := by
  unfold swappedStores
  dsimp only
  by_cases c1 : (!(ts.length == 2 || ts.length == 3) || vs.length != ts.length || X.env.blockKind != .function) = true
  · exact if_pos c1
  · refine (if_neg c1).trans ?_
    by_cases c2 : (vs.any fun | .Starred .. => true | _ => false) = true
    · exact if_pos c2
    · refine (if_neg c2).trans (if_pos ?_)
      have h3 : (!(ts.length == 2 || ts.length == 3)) = false := by
        cases hq : (!(ts.length == 2 || ts.length == 3)) with
        | false => rfl
        | true => rw [hq] at c1; exact absurd rfl c1
      unfold nsB at h
      rw [h3, Bool.false_or] at h
      obtain ⟨t, ht, hx⟩ := List.any_eq_true.mp h
      cases t <;> first | (cases hx; done) | skip
      rename_i x px
      have h1 : m.sc.names.lookup x ≠ some .local := by
        intro q
        have hx : nlB m x = true := hx
        unfold nlB at hx
        rw [decide_eq_true q] at hx
        cases hx
      have k1 : X.env.kindOf x = m.sc.names.lookup x := by show X.env.scope.names.lookup x = _; rw [M.sc]
      have hlen := fm_short (f := fun | .Name id pos => if X.env.kindOf id == some .local && pos.line == (ts.head?.map (·.pos.line)).getD 0 then some id else none | _ => none) ⟨_, ht, by
        show (if (X.env.kindOf x == some .local && px.line == (ts.head?.map (·.pos.line)).getD 0) = true then some x else none) = none
        rw [k1]
        have : (m.sc.names.lookup x == some .local) = false := by simpa using h1
        rw [this, Bool.false_and, if_neg (by decide)]⟩
      rw [Bool.or_eq_true]
      left
      exact bne_iff_ne.mpr hlen
theorem ts_asg (M : Mx γ C k m X) (Z : Sx X) {i : Nat} {x : PySem.Str} {py : Pos} (h1 : mOne m i (.Name x py) = true) (he : PE X ea (tE γ C W a)) (hs : (notComp ea || nlB m x) = true) : PS X (.Assign [.Name x py] ea pos) (tS γ C W (.asg i a)) := by
  have h := show (decide (m.N[i]? = some x) && locB m.sc0 x) = true from h1
  rw [Bool.and_eq_true, decide_eq_true_eq] at h
  obtain ⟨g1, g2⟩ := M.tg _ h.2
  refine psi (ps_set (by rw [M.N]; exact M.nd) (by rw [M.N]; exact h.1) (by rw [M.sc]; exact g1) he (sw_none M hs) (by rw [M.sc]; exact g2)) fun Dn σ H q => ?_
  obtain ⟨κ, ρ, st, e, q⟩ := q
  simp only [ex] at q
  exact ⟨κ, ρ, st, e, q.sto e fun d s1 κ1 H1 v e1 so1 hv q => q κ1 H1 _ .refl ((e.mono e1 so1).set hv)⟩
theorem ts_asgLc (M : Mx γ C k m X) (Z : Sx X) {i : Nat} {x : PySem.Str} {py : Pos} {elt : E} {tg : Tg} {kd : Sk} {src cond : List E} {own : List Nat} {elt' tg' it' : Expr} {ifs' : List Expr} {scope : Scope}
    (h1 : mOne m i (.Name x py) = true) (hsw : swB m x py (.ListComp elt' [⟨tg', it', ifs', 0⟩] scope p) = true)
    (hc : m.cm = true) (hi : PI X tg' it' (tI γ C W kd src)) (hpl : plainE it' = true) (ok : blkC m.N m.sc scope (own.map fun i => (m.N.getD i "", i)) = true) (hsl : ∀ i ∈ slotsT tg, i ∈ own)
    (htg : mTg ⟨m.N, relS scope m.sc, scope, m.cm⟩ tg tg' = true)
    (hcd : ∀ (s : Shared) (H : Hp) (Cc : Addr) (cl : List (PySem.Str × Addr)) (fp : List Addr), PTs (X.blk s H scope (compEnvC scope cl Cc X.env) fp) ifs' (tTs γ C W0 cond))
    (hel : ∀ (s : Shared) (H : Hp) (Cc : Addr) (cl : List (PySem.Str × Addr)) (fp : List Addr), PE (X.blk s H scope (compEnvC scope cl Cc X.env) fp) elt' (tE γ C W0 elt)) :
    PS X (.Assign [.Name x py] (.ListComp elt' [⟨tg', it', ifs', 0⟩] scope p) pos) (tS γ C W (.asg i (.lc elt tg kd src cond own))) := by
  have h := show (decide (m.N[i]? = some x) && locB m.sc0 x) = true from h1
  rw [Bool.and_eq_true, decide_eq_true_eq] at h
  have hw := show (decide (m.sc.names.lookup x = some .local) && py.line == p.line && !(scope.names.any fun (n, k) => n == x && (k == .local || k == .cell))) = true from hsw
  rw [Bool.and_eq_true, Bool.and_eq_true, decide_eq_true_eq] at hw
  obtain ⟨⟨w1, w2⟩, w3⟩ := hw
  have hok : BlkOk X.N X.env.scope scope (own.map fun i => (m.N.getD i "", i)) := by rw [M.N, M.sc]; exact blkOk_by ok
  have e0 : (own.map fun i => (m.N.getD i "", i)).map (fun x => x.2) = own := by rw [List.map_map]; exact List.map_id _
  have key := (te_lc (pos := p) M hc hi hpl ok hsl htg hcd hel).2
  have hp := ps_setLc (py := py) (pos := p) (spos := pos) (own := own.map fun i => (m.N.getD i "", i)) (M.calm hc) (by rw [M.N]; exact M.nd) (by rw [M.N]; exact h.1) (by rw [M.sc]; exact w1)
    (sw_true Z.kd (by rw [M.sc]; exact w1) w2 (by simpa using w3)) hi hok (fun s H Cc cl fp => pg_tg (M.blk s H Cc cl fp) htg) hcd hel (fold_of hpl)
  rw [e0] at hp
  refine psi hp fun Dn σ H q => ?_
  obtain ⟨κ, ρ, st, e, q⟩ := q
  simp only [ex] at q
  exact key σ H _ ⟨κ, ρ, st, e, q.sto e fun d s1 κ1 H1 v e1 so1 hv q => q κ1 H1 _ .refl ((e.mono e1 so1).set hv)⟩
theorem setMany_len : ∀ {is : List Nat} {ds : List D} {ρ ρ' : Fr}, setMany ρ is ds = some ρ' → ds.length = is.length
  | [], [], _, _, _ => rfl
  | [], _ :: _, _, _, h => by cases h
  | _ :: _, [], _, _, h => by cases h
  | i :: is, d :: ds, ρ, ρ', h => by rw [List.length_cons, List.length_cons, setMany_len (show setMany (setS ρ i d) is ds = some ρ' from h)]
theorem ts_unp (M : Mx γ C k m X) {is : List Nat} {ts : List Expr} {kt : Nat} {pt : Pos} (h1 : mMany m is ts = true) (hc : m.cm = true) (he : PE X ea (tE γ C W a)) (hs : (!isTupE ea || nsB m ts) = true) : PS X (.Assign [.Tuple ts kt pt] ea pos) (tS γ C W (.unp is a)) := by
  refine psi (ps_asg he (pg_tg (tg := .many is) M (by show (mMany m is ts && m.cm) = true; rw [h1, hc]; rfl)) (by cases ea <;> rfl) (by cases ea <;> first | rfl | exact ns_none M (by simpa [isTupE] using hs))) fun Dn σ H q => ?_
  obtain ⟨κ, ρ, st, e, q⟩ := q
  simp only [ex] at q
  refine ⟨κ, ρ, st, e, q.sto e fun d s1 κ1 H1 v e1 so1 hv q => ?_⟩
  cases d <;> first | exact q.elim | skip
  obtain ⟨ρ', hr, q⟩ := PostX.optE q
  exact ⟨κ1, ρ, s1, _, ρ', e.mono e1 so1, hv, hr, fun σ' e' _ => q κ1 H1 σ' .refl e'⟩
theorem ts_sub (M : Mx γ C k m X) (ho : PE X eb (tE γ C W b)) (hi : PE X ec (tE γ C W c)) (hm : plainE ec = true) (he : PE X ea (tE γ C W a)) : PS X (.Assign [.Subscript eb ec p] ea pos) (tS γ C W (.sub b c a)) := by
  refine psi (ps_asg he (pg_sub ho hi set_list (by intro v; cases ec <;> first | rfl | cases hm)) (by cases ea <;> rfl) (by rfl)) fun Dn σ H q => ?_
  obtain ⟨κ, ρ, st, e, q⟩ := q
  simp only [ex] at q
  refine ⟨κ, ρ, st, e, q.sto e fun d s1 κ1 H1 v e1 so1 hv q2 => ?_⟩
  have en1 := e.mono e1 so1
  refine ⟨κ1, ρ, s1, en1, q2.sto en1 fun x s2 κ2 H2 o e2 so2 hx q3 => ?_⟩
  have en2 := en1.mono e2 so2
  refine ⟨κ2, ρ, s2, en2, q3.sto en2 fun y s3 κ3 H3 i e3 so3 hy q4 => ?_⟩
  have en3 := en2.mono e3 so3
  cases x <;> first | exact q4.elim | skip
  cases y <;> first | exact q4.elim | skip
  rename_i l j
  cases (show i = .int j from hy)
  obtain ⟨t, ht, rfl⟩ := hx.mono e3
  have hd : isP d = true := by
    by_cases hd : isP d = true
    · exact hd
    · have q5 := show PostX γ κ3 H3 Dn W (if isP d then
        if 0 ≤ j then (if j.toNat < (s3.getD l []).length then .nx ρ (s3.set l ((s3.getD l []).set j.toNat d)) else .no)
        else if -((s3.getD l []).length : Int) ≤ j then .nx ρ (s3.set l ((s3.getD l []).set (j + (s3.getD l []).length).toNat d)) else .no
      else .no) from q4
      rw [if_neg hd] at q5
      exact q5.elim
  have q := show PostX γ κ3 H3 Dn W (if isP d then
        if 0 ≤ j then (if j.toNat < (s3.getD l []).length then .nx ρ (s3.set l ((s3.getD l []).set j.toNat d)) else .no)
        else if -((s3.getD l []).length : Int) ≤ j then .nx ρ (s3.set l ((s3.getD l []).set (j + (s3.getD l []).length).toNat d)) else .no
      else .no) from q4
  rw [if_pos hd] at q
  have hlt : l < s3.length := by rw [← so3.len]; exact (List.getElem?_eq_some_iff.mp ht).1
  have hg : s3[l]? = some (s3.getD l []) := by rw [List.getD_eq_getElem?_getD, List.getElem?_eq_getElem hlt]; rfl
  obtain ⟨vs, hvs, his⟩ := so3.at_ _ _ _ ht hg
  have hv3 := ((hv.mono e2).mono e3).toP hd
  have hmem := List.mem_of_getElem? ht
  have go : ∀ n, n < (s3.getD l []).length → PostX γ κ3 H3 Dn W (.nx ρ (s3.set l ((s3.getD l []).set n d))) → Dn.nx σ (upd H3 t (.lst (vs.set n v))) := by
    intro n hn q
    have hset : IsPs γ H3 κ3 ((s3.getD l []).set n d) (vs.set n v) := his.setAt n hv3
    have e4 : Py.Ext κ3 H3 κ3 (upd H3 t (.lst (vs.set n v))) := Ext.write hmem (by rw [hvs]; exact fun q => nomatch q)
    exact q κ3 _ σ e4 (en3.mono e4 (so3.write ht hset))
  have hlen := his.length
  split at q
  · split at q
    · rename_i h0 h2
      exact ⟨t, vs, j, j.toNat, rfl, rfl, hvs, by unfold ixN; rw [if_pos h0, if_pos (by omega)], go _ h2 q⟩
    · exact q.elim
  · split at q
    · rename_i h0 h2
      refine ⟨t, vs, j, (j + (s3.getD l []).length).toNat, rfl, rfl, hvs, ?_, go _ (by omega) q⟩
      unfold ixN
      rw [if_neg h0, if_pos (by omega), hlen]
    · exact q.elim
end
section
variable {γ : Wd} {C : F → List D → Store → R D} {k : Nat} {m : Mc} {X : Cx} {W : WX} {H H1 H2 H' : Hp} {κ κ1 κ2 κ' : List Addr} {st st' : Store} {Dn : Ends} {σ : L2.St} {ρ : Fr}
variable {a b c : E} {ea eb ec : Expr} {pos p p2 p3 : Pos} {es : List E} {xs : List Expr}
theorem bk_fn (Z : Sx X) : X.env.blockKind = .function := by unfold Env.blockKind; rw [Z.kd]; rfl
theorem one_name {i : Nat} {e : Expr} (h : mOne m i e = true) : ∃ x p, e = .Name x p := by
  cases e <;> first | (cases h; done) | exact ⟨_, _, rfl⟩
theorem pair_nodup {i j : Nat} (h : [i, j].Nodup) : i ≠ j := by
  rw [List.nodup_cons] at h
  intro q
  exact h.1 (List.mem_singleton.mpr q)
theorem swap2 (M : Mx γ C k m X) (Z : Sx X) {x y : PySem.Str} {px py pt pt2 : Pos} {kt k2 : Nat} {u v : Expr} (hu : plainE u = true) (hv : plainE v = true) (h : swapB m [.Name x px, .Name y py] [u, v] = true) :
    m.sc.names.lookup x = some .local ∧ m.sc.names.lookup y = some .local ∧ swappedStores [.Tuple [.Name x px, .Name y py] kt pt] (.Tuple [u, v] k2 pt2) X.env = pure (some [x, y]) := by
  unfold swapB at h
  simp only [Bool.and_eq_true, List.all_cons, List.all_nil, decide_eq_true_eq, List.map_cons, List.map_nil, nmE, List.head?_cons, Option.map_some, Option.getD_some, Expr.pos, Bool.not_eq_true', List.length_cons, List.length_nil] at h
  obtain ⟨⟨⟨⟨⟨h1, h2⟩, ⟨h3, h4⟩, _⟩, h5⟩, h6⟩, h7⟩ := h
  refine ⟨h1, h3, ?_⟩
  have k1 : X.env.kindOf x = some .local := by show X.env.scope.names.lookup x = _; rw [M.sc]; exact h1
  have k3 : X.env.kindOf y = some .local := by show X.env.scope.names.lookup y = _; rw [M.sc]; exact h3
  have hE : [x, y].eraseDups.length = 2 := by simpa using h5
  unfold swappedStores
  dsimp only
  simp only [List.filterMap_cons, List.filterMap_nil, k1, k3, h4, BEq.rfl, Bool.and_true, if_true, List.head?_cons, Option.map_some, Option.getD_some, Expr.pos]
  refine (if_neg ?_).trans ((if_neg ?_).trans ?_)
  · rw [bk_fn Z]; exact Bool.false_ne_true
  · simp only [List.any_cons, List.any_nil, Bool.or_false, Bool.or_eq_true, not_or]
    exact ⟨by cases u <;> first | (cases hu; done) | exact Bool.false_ne_true, by cases v <;> first | (cases hv; done) | exact Bool.false_ne_true⟩
  · refine (if_neg ?_).trans ((if_neg ?_).trans ((if_neg ?_).trans ?_))
    · rw [hE]; exact Bool.false_ne_true
    · simp only [List.all_cons, List.all_nil, h6]; exact Bool.false_ne_true
    · simp only [List.all_cons, List.all_nil, h7]; exact Bool.false_ne_true
    · rfl
theorem swap3 (M : Mx γ C k m X) (Z : Sx X) {x y z : PySem.Str} {px py pz pt pt2 : Pos} {kt k2 : Nat} {u v w : Expr} (hu : plainE u = true) (hv : plainE v = true) (hw : plainE w = true) (h : swapB m [.Name x px, .Name y py, .Name z pz] [u, v, w] = true) :
    m.sc.names.lookup x = some .local ∧ m.sc.names.lookup y = some .local ∧ m.sc.names.lookup z = some .local ∧ swappedStores [.Tuple [.Name x px, .Name y py, .Name z pz] kt pt] (.Tuple [u, v, w] k2 pt2) X.env = pure (some [x, y, z]) := by
  unfold swapB at h
  simp only [Bool.and_eq_true, List.all_cons, List.all_nil, decide_eq_true_eq, List.map_cons, List.map_nil, nmE, List.head?_cons, Option.map_some, Option.getD_some, Expr.pos, Bool.not_eq_true', List.length_cons, List.length_nil] at h
  obtain ⟨⟨⟨⟨⟨h1, h2⟩, ⟨h3, h4⟩, ⟨g3, g4⟩, _⟩, h5⟩, h6⟩, h7⟩ := h
  refine ⟨h1, h3, g3, ?_⟩
  have k1 : X.env.kindOf x = some .local := by show X.env.scope.names.lookup x = _; rw [M.sc]; exact h1
  have k3 : X.env.kindOf y = some .local := by show X.env.scope.names.lookup y = _; rw [M.sc]; exact h3
  have k5 : X.env.kindOf z = some .local := by show X.env.scope.names.lookup z = _; rw [M.sc]; exact g3
  have hE : [x, y, z].eraseDups.length = 3 := by simpa using h5
  unfold swappedStores
  dsimp only
  simp only [List.filterMap_cons, List.filterMap_nil, k1, k3, k5, h4, g4, BEq.rfl, Bool.and_true, if_true, List.head?_cons, Option.map_some, Option.getD_some, Expr.pos]
  refine (if_neg ?_).trans ((if_neg ?_).trans ?_)
  · rw [bk_fn Z]; exact Bool.false_ne_true
  · simp only [List.any_cons, List.any_nil, Bool.or_false, Bool.or_eq_true, not_or]
    exact ⟨by cases u <;> first | (cases hu; done) | exact Bool.false_ne_true, by cases v <;> first | (cases hv; done) | exact Bool.false_ne_true, by cases w <;> first | (cases hw; done) | exact Bool.false_ne_true⟩
  · refine (if_neg ?_).trans ((if_neg ?_).trans ((if_neg ?_).trans ?_))
    · rw [hE]; exact Bool.false_ne_true
    · simp only [List.all_cons, List.all_nil, h6]; exact Bool.false_ne_true
    · simp only [List.all_cons, List.all_nil, h7]; exact Bool.false_ne_true
    · rfl
theorem one_slot (M : Mx γ C k m X) {i : Nat} {x : PySem.Str} {px : Pos} (h : mOne m i (.Name x px) = true) : X.N[i]? = some x := by
  have h := show (decide (m.N[i]? = some x) && locB m.sc0 x) = true from h
  rw [Bool.and_eq_true, decide_eq_true_eq] at h
  rw [M.N]; exact h.1
theorem ts_par2 (M : Mx γ C k m X) (Z : Sx X) {i j : Nat} {x y : PySem.Str} {px py pt pt2 : Pos} {kt k2 : Nat} {u v : Expr} {e1 e2 : E} (hc : m.cm = true) (hx : mOne m i (.Name x px) = true) (hy : mOne m j (.Name y py) = true) (hij : i ≠ j)
    (hu : plainE u = true) (hv : plainE v = true) (h : swapB m [.Name x px, .Name y py] [u, v] = true) (ha : PA X [u, v] (tEs γ C W [e1, e2])) : PS X (.Assign [.Tuple [.Name x px, .Name y py] kt pt] (.Tuple [u, v] k2 pt2) pos) (tS γ C W (.par [i, j] [e1, e2])) := by
  obtain ⟨g1, g2, g3⟩ := swap2 (kt := kt) (pt := pt) (k2 := k2) (pt2 := pt2) M Z hu hv h
  refine psi (ps_par (M.calm hc) (by rw [M.N]; exact M.nd) (one_slot M hx) (one_slot M hy) hij (by rw [M.sc]; exact g1) (by rw [M.sc]; exact g2) ha g3 rfl) fun Dn σ H q => ?_
  obtain ⟨κ, ρ, st, e, q⟩ := q
  simp only [ex] at q
  refine ⟨κ, ρ, st, e, q.sto e fun ds s1 κ1 H1 vs e1 so1 hv q => ?_⟩
  obtain ⟨ρ', hr, q⟩ := PostX.optE q
  match ds, hr with
  | [d1, d2], hr =>
    obtain ⟨v, w, rfl, h1, h2⟩ := iss_two hv
    cases (show some (setS (setS ρ i d1) j d2) = some ρ' from hr)
    exact ⟨v, w, rfl, q κ1 H1 _ .refl (((e.mono e1 so1).set h1).set h2)⟩
  | [], hr => cases hr
  | [_], hr => cases hr
  | _ :: _ :: _ :: _, hr => cases hr
theorem ts_par3 (M : Mx γ C k m X) (Z : Sx X) {i j l : Nat} {x y z : PySem.Str} {px py pz pt pt2 : Pos} {kt k2 : Nat} {u v w : Expr} {e1 e2 e3 : E} (hc : m.cm = true) (hx : mOne m i (.Name x px) = true) (hy : mOne m j (.Name y py) = true) (hz : mOne m l (.Name z pz) = true)
    (hij : i ≠ j) (hil : i ≠ l) (hjl : j ≠ l)
    (hu : plainE u = true) (hv : plainE v = true) (hw : plainE w = true) (h : swapB m [.Name x px, .Name y py, .Name z pz] [u, v, w] = true) (ha : PA X [u, v, w] (tEs γ C W [e1, e2, e3])) :
    PS X (.Assign [.Tuple [.Name x px, .Name y py, .Name z pz] kt pt] (.Tuple [u, v, w] k2 pt2) pos) (tS γ C W (.par [i, j, l] [e1, e2, e3])) := by
  obtain ⟨g1, g2, g4, g3⟩ := swap3 (kt := kt) (pt := pt) (k2 := k2) (pt2 := pt2) M Z hu hv hw h
  refine psi (ps_par3 (M.calm hc) (by rw [M.N]; exact M.nd) (one_slot M hx) (one_slot M hy) (one_slot M hz) hij hil hjl (by rw [M.sc]; exact g1) (by rw [M.sc]; exact g2) (by rw [M.sc]; exact g4) ha g3 rfl) fun Dn σ H q => ?_
  obtain ⟨κ, ρ, st, e, q⟩ := q
  simp only [ex] at q
  refine ⟨κ, ρ, st, e, q.sto e fun ds s1 κ1 H1 vs e1 so1 hv q => ?_⟩
  obtain ⟨ρ', hr, q⟩ := PostX.optE q
  match ds, hr with
  | [d1, d2, d3], hr =>
    obtain ⟨u, v, w, rfl, h1, h2, h3⟩ := iss_three hv
    cases (show some (setS (setS (setS ρ i d1) j d2) l d3) = some ρ' from hr)
    exact ⟨u, v, w, rfl, q κ1 H1 _ .refl ((((e.mono e1 so1).set h1).set h2).set h3)⟩
  | [], hr => cases hr
  | [_], hr => cases hr
  | [_, _], hr => cases hr
  | _ :: _ :: _ :: _ :: _, hr => cases hr
def tIpOf (op : Operator) : TIp := fun x y H Q => ∃ i j : Int, x = .int i ∧ y = .int j ∧ Q (.int (if op = .Add then i + j else i - j)) H
theorem pip_of {op : Operator} (h : op = .Add ∨ op = .Sub) : PIp X op (tIpOf op) := by
  intro pins s σ H x y v u Q I r1 r2 ⟨i, j, e1, e2, q⟩
  rcases h with rfl | rfl
  · exact iop_add pins s σ H x y v u Q I r1 r2 ⟨i, j, e1, e2, q⟩
  · exact iop_sub pins s σ H x y v u Q I r1 r2 ⟨i, j, e1, e2, q⟩
theorem ts_aug (M : Mx γ C k m X) {i : Nat} {x : PySem.Str} {px : Pos} {op : Operator} (hop : op = .Add ∨ op = .Sub) (h1 : mOne m i (.Name x px) = true) (he : PE X ea (tE γ C W a)) : PS X (.AugAssign (.Name x px) op ea pos) (tS γ C W (.aug i op a)) := by
  have h := show (decide (m.N[i]? = some x) && locB m.sc0 x) = true from h1
  rw [Bool.and_eq_true, decide_eq_true_eq] at h
  obtain ⟨g1, g2⟩ := M.tg _ h.2
  refine psi (ps_aug (by rw [M.N]; exact M.nd) (by rw [M.N]; exact h.1) (by rw [M.sc]; exact g1) he (pip_of hop) (by rw [M.sc]; exact g2)) fun Dn σ H q => ?_
  obtain ⟨κ, ρ, st, e, q⟩ := q
  simp only [ex] at q
  obtain ⟨d0, hd0, q1⟩ := PostX.optE q
  obtain ⟨v0, hv0, his⟩ := e.sl i d0 hd0
  refine ⟨v0, hv0, κ, ρ, st, e, q1.sto e fun d s1 κ1 H1 v e1 so1 hv q2 => ?_⟩
  rcases hop with rfl | rfl
  · cases d0 <;> first | exact q2.elim | skip
    cases d <;> first | exact q2.elim | skip
    rename_i i1 i2
    exact ⟨i1, i2, his, hv, q2 κ1 H1 _ .refl ((e.mono e1 so1).set rfl)⟩
  · cases d0 <;> first | exact q2.elim | skip
    cases d <;> first | exact q2.elim | skip
    rename_i i1 i2
    exact ⟨i1, i2, his, hv, q2 κ1 H1 _ .refl ((e.mono e1 so1).set rfl)⟩
theorem ts_app (M : Mx γ C k m X) {y : PySem.Str} {apos cpos py : Pos} (hl : (apos.endLine == cpos.line) = true) (ha : PE X (.Name y py) (tE γ C W a)) (hb : PE X eb (tE γ C W b)) (hm : plainE eb = true) :
    PS X (.Expr (.Call (.Attribute (.Name y py) "append" apos) [eb] [] cpos) pos) (tS γ C W (.app a b)) := by
  refine psi (ps_expr (pe_bm PySem.F.plainAttrs_list PySem.F.slot_list_append PySem.F.type_list_append mt_append ha (pa_cons hb pa_nil (star_of hm)) rfl (by rw [star_of hm]; rfl) hl (star_of hm) rfl) rfl) fun Dn σ H q => ?_
  obtain ⟨κ, ρ, st, e, q⟩ := q
  simp only [ex] at q
  refine ⟨κ, ρ, st, e, q.sto e fun dx s1 κ1 H1 x e1 so1 hx q1 => ?_⟩
  have en1 := e.mono e1 so1
  cases dx with
  | cell j =>
    obtain ⟨l, hl1, rfl⟩ := hx
    obtain ⟨vs, hvs⟩ := so1.there (List.mem_of_getElem? hl1)
    refine ⟨.inl ⟨rfl, vs, .inl (.inl hvs)⟩, ⟨κ1, ρ, s1, en1, q1.sto en1 fun d s2 κ2 H2 y e2 so2 hy q2 => ?_⟩⟩
    have hl2 : κ2[j]? = some l := by
      obtain ⟨mo, em, _⟩ := e2.pre
      rw [em]; exact (List.getElem?_append_left (List.getElem?_eq_some_iff.mp hl1).1).trans hl1
    have hj : j < s2.length := by rw [← so2.len]; exact (List.getElem?_eq_some_iff.mp hl2).1
    have hgd : s2[j]? = some (s2.getD j []) := by rw [List.getD_eq_getElem?_getD, List.getElem?_eq_getElem hj]; rfl
    obtain ⟨ws, hw, his⟩ := so2.at_ j l _ hl2 hgd
    split at q2
    · rename_i hp
      rw [Bool.and_eq_true, decide_eq_true_eq] at hp
      have e3 : Py.Ext κ2 H2 κ2 (upd H2 l (.lst (ws ++ [y]))) := Ext.write (List.mem_of_getElem? hl2) (by rw [hw]; exact fun q => nomatch q)
      refine ⟨l, ws, y, rfl, rfl, hw, by rw [his.length]; exact line_lt hp.2, q2 κ2 _ σ e3 ((en1.mono e2 so2).mono e3 (so2.write hl2 (his.append ?_)))⟩
      simp only [IsPs]
      exact ⟨y, [], rfl, hy.toP hp.1, rfl⟩
    · exact q2.elim
  | _ => exact q1.elim
theorem ts_ext (M : Mx γ C k m X) {y : PySem.Str} {apos cpos py : Pos} (hl : (apos.endLine == cpos.line) = true) (ha : PE X (.Name y py) (tE γ C W a)) (hb : PE X eb (tE γ C W b)) (hm : plainE eb = true) :
    PS X (.Expr (.Call (.Attribute (.Name y py) "extend" apos) [eb] [] cpos) pos) (tS γ C W (.ext a b)) := by
  refine psi (ps_expr (pe_bm PySem.F.plainAttrs_list PySem.F.slot_list_extend PySem.F.type_list_extend mt_extend ha (pa_cons hb pa_nil (star_of hm)) rfl (by rw [star_of hm]; rfl) hl (star_of hm) rfl) rfl) fun Dn σ H q => ?_
  obtain ⟨κ, ρ, st, e, q⟩ := q
  simp only [ex] at q
  refine ⟨κ, ρ, st, e, q.sto e fun dx s1 κ1 H1 x e1 so1 hx q1 => ?_⟩
  have en1 := e.mono e1 so1
  cases dx with
  | cell j =>
    obtain ⟨l, hl1, rfl⟩ := hx
    obtain ⟨vs, hvs⟩ := so1.there (List.mem_of_getElem? hl1)
    refine ⟨.inl ⟨rfl, vs, .inl (.inl hvs)⟩, ⟨κ1, ρ, s1, en1, q1.sto en1 fun d s2 κ2 H2 y e2 so2 hy q2 => ?_⟩⟩
    cases d with
    | lst ys =>
      have hl2 : κ2[j]? = some l := by
        obtain ⟨mo, em, _⟩ := e2.pre
        rw [em]; exact (List.getElem?_append_left (List.getElem?_eq_some_iff.mp hl1).1).trans hl1
      have hj : j < s2.length := by rw [← so2.len]; exact (List.getElem?_eq_some_iff.mp hl2).1
      have hgd : s2[j]? = some (s2.getD j []) := by rw [List.getD_eq_getElem?_getD, List.getElem?_eq_getElem hj]; rfl
      obtain ⟨ws, hw, his⟩ := so2.at_ j l _ hl2 hgd
      obtain ⟨pb, zs, rfl, hz, hzs⟩ := is_lst.mp hy
      dsimp only at q2
      split at q2
      · rename_i hp
        have e3 : Py.Ext κ2 H2 κ2 (upd H2 l (.lst (ws ++ zs))) := Ext.write (List.mem_of_getElem? hl2) (by rw [hw]; exact fun q => nomatch q)
        exact ⟨l, pb, ws, zs, rfl, rfl, hw, hz.1, by rw [his.length, hzs.length]; exact line_le hp, q2 κ2 _ σ e3 ((en1.mono e2 so2).mono e3 (so2.write hl2 (his.append hzs)))⟩
      · exact q2.elim
    | _ => exact q2.elim
  | _ => exact q1.elim
theorem ts_ret (he : PE X ea (tE γ C W a)) : PS X (.Return (some ea) pos) (tS γ C W (.ret a)) := by
  refine psi (ps_ret he) fun Dn σ H q => ?_
  obtain ⟨κ, ρ, st, e, q⟩ := q
  simp only [ex] at q
  exact ⟨κ, ρ, st, e, q.sto e fun d s1 κ1 H1 v e1 so1 hv q => q κ1 H1 v .refl so1 hv⟩
theorem ts_retN : PS X (.Return none pos) (tS γ C W .retN) := by
  refine psi ps_retN fun Dn σ H q => ?_
  obtain ⟨κ, ρ, st, e, q⟩ := q
  simp only [ex] at q
  exact q κ H _ .refl e.st rfl
theorem ts_ife {sa sb : List S} {ta tb : List Stmt} (hc : PT X ec (tT γ C W c)) (ha : PSs X ta (tSs γ C W sa)) (hb : PSs X tb (tSs γ C W sb)) : PS X (.If ec ta tb pos) (tS γ C W (.ife c sa sb)) := by
  refine psi (ps_if hc ha hb) fun Dn σ H q => ?_
  obtain ⟨κ, ρ, st, e, q⟩ := q
  simp only [ex] at q
  refine ⟨κ, ρ, st, e, q.sto e fun t s1 κ1 H1 t' e1 so1 ht q => ?_⟩
  subst ht
  cases t' with
  | true => exact ⟨κ1, ρ, s1, e.mono e1 so1, q⟩
  | false => exact ⟨κ1, ρ, s1, e.mono e1 so1, q⟩
theorem ts_brk : PS X (.Break pos) (tS γ C W .brk) := by
  refine psi ps_break fun Dn σ H q => ?_
  obtain ⟨κ, ρ, st, e, q⟩ := q
  simp only [ex] at q
  exact q κ H σ .refl e
theorem ts_cnt : PS X (.Continue pos) (tS γ C W .cnt) := by
  refine psi ps_continue fun Dn σ H q => ?_
  obtain ⟨κ, ρ, st, e, q⟩ := q
  simp only [ex] at q
  exact q κ H σ .refl e
theorem ts_pas : PS X (.Pass pos) (tS γ C W .pas) := by
  refine psi ps_pass fun Dn σ H q => ?_
  obtain ⟨κ, ρ, st, e, q⟩ := q
  simp only [ex] at q
  exact q κ H σ .refl e
theorem ts_drop (he : PE X ea (tE γ C W a)) (hs : notComp ea = true) : PS X (.Expr ea pos) (tS γ C W (.drop a)) := by
  refine psi (ps_expr he (by cases ea <;> first | rfl | cases hs)) fun Dn σ H q => ?_
  obtain ⟨κ, ρ, st, e, q⟩ := q
  simp only [ex] at q
  exact ⟨κ, ρ, st, e, q.sto e fun d s1 κ1 H1 v e1 so1 hv q => q κ1 H1 σ .refl (e.mono e1 so1)⟩
theorem ts_nil : PSs X [] (tSs γ C W []) := by
  refine pssi pss_nil fun Dn σ H q => ?_
  obtain ⟨κ, ρ, st, e, q⟩ := q
  simp only [exs] at q
  exact q κ H σ .refl e
theorem ts_cons {s : S} {r : List S} {s' : Stmt} {r' : List Stmt} (h : PS X s' (tS γ C W s)) (hr : PSs X r' (tSs γ C W r)) : PSs X (s' :: r') (tSs γ C W (s :: r)) := by
  refine pssi (pss_cons h hr) fun Dn σ H q => ?_
  obtain ⟨κ, ρ, st, e, q⟩ := q
  simp only [exs] at q
  refine ⟨κ, ρ, st, e, ?_⟩
  cases hx : ex C s ρ st with
  | nx ρ' st' =>
    rw [hx] at q
    exact fun κ' H' σ' e1 en => ⟨κ', ρ', st', en, PostX.ext e1 q⟩
  | ret d st' => rw [hx] at q; exact q
  | brk ρ' st' => rw [hx] at q; exact q
  | cnt ρ' st' => rw [hx] at q; exact q
  | exc c xs ρ' st' => rw [hx] at q; exact q
  | no => rw [hx] at q; exact q
/-! ### loops -/
/-- what a turn of a loop wants -/
def Stp (f : Fr → Store → Py.X) : Py.X → Py.X
  | .nx ρ st => f ρ st
  | .cnt ρ st => f ρ st
  | .brk ρ st => .nx ρ st
  | r => r
theorem stp_post {x : Py.X} {f : Fr → Store → Py.X} {Nx : L2.St → Hp → Prop} (h : PostX γ κ H Dn W (Stp f x)) (hn : ∀ ρ st κ' H' σ', Py.Ext κ H κ' H' → Env_ γ σ' H' κ' ρ st → PostX γ κ' H' Dn W (f ρ st) → Nx σ' H') :
    PostX γ κ H { nx := Nx, rt := Dn.rt, bk := Dn.nx, ct := Nx } W x := by
  cases x with
  | nx ρ st => exact fun κ' H' σ' e en => hn ρ st κ' H' σ' e en (PostX.ext e h)
  | cnt ρ st => exact fun κ' H' σ' e en => hn ρ st κ' H' σ' e en (PostX.ext e h)
  | brk ρ st => exact h
  | ret d st => exact h
  | exc c xs ρ st => exact h
  | no => exact h
theorem whG_succ (cf : Fr → Store → R Bool) (f : Fr → Store → Py.X) (n : Nat) (ρ : Fr) (st : Store) : whG cf f (n + 1) ρ st = (cf ρ st).st ρ fun t s1 => if t = true then Stp (whG cf f n) (f ρ s1) else .nx ρ s1 := by
  rw [whG]
  cases cf ρ st with
  | ok t s1 =>
    cases t with
    | true =>
      show _ = Stp (whG cf f n) (f ρ s1)
      dsimp only
      cases f ρ s1 <;> rfl
    | false => rfl
  | exc => rfl
  | no => rfl
theorem ts_wh (Z : Sx X) {body : List S} {tb : List Stmt} (hc : PT X ec (tT γ C W c)) (hb : PSs X tb (tSs γ C W body)) : PS X (.While ec tb [] pos) (tS γ C W (.wh c body)) := by
  refine psi (ps_while Z.po hc hb) fun Dn σ H q => ?_
  obtain ⟨κ, ρ, st, e, q⟩ := q
  simp only [ex] at q
  refine ⟨fun n σ H => ∃ κ ρ st, Env_ γ σ H κ ρ st ∧ PostX γ κ H Dn W (whG (fun ρ1 s1 => tst C c ρ1 s1) (fun ρ1 s1 => exs C body ρ1 s1) n ρ st), ⟨1000000, κ, ρ, st, e, q⟩, ?_⟩
  rintro n σ H ⟨κ, ρ, st, e, q⟩
  cases n with
  | zero => exact q.elim
  | succ n =>
    rw [whG_succ] at q
    refine ⟨κ, ρ, st, e, q.sto e fun t s1 κ1 H1 t' e1 so1 ht q => ?_⟩
    subst ht
    have en1 := e.mono e1 so1
    cases t' with
    | false => exact q κ1 H1 σ .refl en1
    | true =>
      refine ⟨_, fun σ' H' h => ⟨n, Nat.lt_succ_self _, h⟩, κ1, ρ, s1, en1, stp_post (show PostX γ κ1 H1 Dn W (Stp (whG (fun ρ1 s1 => tst C c ρ1 s1) (fun ρ1 s1 => exs C body ρ1 s1) n) (exs C body ρ s1)) from q) fun ρ' st' κ' H' σ' e2 en2 q2 => ⟨κ', ρ', st', en2, q2⟩⟩
def restF (f : D → Fr → Store → Py.X) (sv : Sv) (i j : Nat) (ρ : Fr) (st : Store) : Py.X := match sv with
  | .l xs => if xs.length ≤ i + j then forL f (xs.drop i) ρ st else .no
  | sv => forG f sv j i ρ st
theorem forL_cons (f : D → Fr → Store → Py.X) (d : D) (ds : List D) (ρ : Fr) (st : Store) : forL f (d :: ds) ρ st = Stp (forL f ds) (f d ρ st) := by
  rw [forL]
  cases f d ρ st <;> rfl
theorem restF_step (f : D → Fr → Store → Py.X) (sv : Sv) (i j : Nat) (ρ : Fr) (st : Store) :
    restF f sv i j ρ st = .no ∨ (sv.at st i = none ∧ restF f sv i j ρ st = .nx ρ st) ∨ ∃ d j', sv.at st i = some d ∧ j' < j ∧ restF f sv i j ρ st = Stp (restF f sv (i + 1) j') (f d ρ st) := by
  have gen : ∀ sv, (∀ xs, sv ≠ .l xs) → (forG f sv j i ρ st = .no ∨ (sv.at st i = none ∧ forG f sv j i ρ st = .nx ρ st) ∨
      ∃ d j', sv.at st i = some d ∧ j' < j ∧ forG f sv j i ρ st = Stp (forG f sv j' (i + 1)) (f d ρ st)) := by
    intro sv _
    cases j with
    | zero => exact .inl rfl
    | succ j =>
      cases h : sv.at st i with
      | none => exact .inr (.inl ⟨rfl, by rw [forG, h]⟩)
      | some d =>
        refine .inr (.inr ⟨d, j, rfl, Nat.lt_succ_self _, ?_⟩)
        rw [forG, h]
        dsimp only
        cases f d ρ st <;> rfl
  cases sv with
  | l xs =>
    by_cases hl : xs.length ≤ i + j
    · have e1 : restF f (.l xs) i j ρ st = forL f (xs.drop i) ρ st := if_pos hl
      rw [e1]
      refine .inr ?_
      by_cases hi : i < xs.length
      · refine .inr ⟨xs[i], j - 1, List.getElem?_eq_getElem hi, by omega, ?_⟩
        rw [List.drop_eq_getElem_cons hi, forL_cons]
        have e2 : restF f (.l xs) (i + 1) (j - 1) = forL f (xs.drop (i + 1)) := by
          funext ρ s
          exact if_pos (by omega)
        rw [e2]
      · refine .inl ⟨List.getElem?_eq_none (by omega), ?_⟩
        rw [List.drop_eq_nil_of_le (by omega)]
        rfl
    · exact .inl (if_neg hl)
  | c => exact gen _ (fun _ q => nomatch q)
  | z => exact gen _ (fun _ q => nomatch q)
  | en => exact gen _ (fun _ q => nomatch q)
theorem forS_rest (f : D → Fr → Store → Py.X) (ρ : Fr) (st : Store) (sv : Sv) : ∃ j, forS f ρ st sv = restF f sv 0 j ρ st := by
  cases sv with
  | l xs => exact ⟨xs.length, (if_pos (by omega)).symm⟩
  | c => exact ⟨1000001, rfl⟩
  | z => exact ⟨1000001, rfl⟩
  | en => exact ⟨1000001, rfl⟩
theorem ts_fr (M : Mx γ C k m X) (Z : Sx X) {tg : Tg} {kd : Sk} {src : List E} {body : List S} {tg' it' : Expr} {tb : List Stmt} (hc : m.cm = true) (hi : PI X tg' it' (tI γ C W kd src)) (hpl : plainE it' = true) (htg : mTg m tg tg' = true)
    (hb : PSs X tb (tSs γ C W body)) : PS X (.For tg' it' tb [] pos) (tS γ C W (.fr tg kd src body)) := by
  refine psi (ps_for Z.po (M.calm hc) hi (pg_tg M htg) hb (fold_of hpl)) fun Dn σ H q => ?_
  obtain ⟨κ, ρ, st, e, q⟩ := q
  simp only [ex] at q
  have q' : PostX γ κ H Dn W (((evs C src ρ st).bind fun ds s1 => R.opt (srcS s1 kd ds) s1).st ρ fun sv s1 => forS (fun d ρ1 s2 => Py.X.opt (bindT ρ1 tg d) fun ρ2 => exs C body ρ2 s2) ρ s1 sv) := by
    cases hx : evs C src ρ st with
    | ok ds s1 =>
      rw [hx] at q
      replace q := show PostX γ κ H Dn W (Py.X.opt (srcS s1 kd ds) fun sv => forS (fun d ρ1 s2 => Py.X.opt (bindT ρ1 tg d) fun ρ2 => exs C body ρ2 s2) ρ s1 sv) from q
      show PostX γ κ H Dn W ((R.opt (srcS s1 kd ds) s1).st ρ _)
      cases hs : srcS s1 kd ds with
      | none => rw [hs] at q; exact q
      | some sv => rw [hs] at q; exact q
    | exc => rw [hx] at q; exact q
    | no => rw [hx] at q; exact q
  refine ⟨κ, ρ, st, e, q'.sto e fun sv s1 κ1 H1 J e1 so1 hJ q => ?_⟩
  obtain ⟨j0, hj0⟩ := forS_rest (fun d ρ1 s2 => Py.X.opt (bindT ρ1 tg d) fun ρ2 => exs C body ρ2 s2) ρ s1 sv
  rw [hj0] at q
  refine ⟨fun i j σ' H' => ∃ κ' ρ' st', Py.Ext κ1 H1 κ' H' ∧ Env_ γ σ' H' κ' ρ' st' ∧ PostX γ κ' H' Dn W (restF (fun d ρ1 s2 => Py.X.opt (bindT ρ1 tg d) fun ρ2 => exs C body ρ2 s2) sv i j ρ' st'), ⟨j0, κ1, ρ, s1, .refl, e.mono e1 so1, q⟩, ?_⟩
  rintro i j σ' H' ⟨κ', ρ', st', e2, en2, q2⟩
  have hst := hJ κ' H' st' e2 en2.st i
  rcases restF_step (fun d ρ1 s2 => Py.X.opt (bindT ρ1 tg d) fun ρ2 => exs C body ρ2 s2) sv i j ρ' st' with hs | ⟨hat, hs⟩ | ⟨d, j', hat, hj, hs⟩
  · rw [hs] at q2; exact q2.elim
  · rw [hs] at q2
    rw [hat] at hst
    exact .inl ⟨hst, q2 κ' H' σ' .refl en2⟩
  · rw [hs] at q2
    rw [hat] at hst
    obtain ⟨hgo, hy⟩ := hst
    refine .inr ⟨hgo, _, fun σ2 H2 hw => ⟨j', hj, hw⟩, fun x H'' hyl => ?_⟩
    obtain ⟨e3, so3, hx⟩ := hy x H'' hyl
    have en3 := en2.mono e3 so3
    replace q2 := PostX.ext e3 q2
    cases hb : bindT ρ' tg d with
    | none =>
      have q2 := show PostX γ κ' H'' Dn W (Stp _ (Py.X.opt (bindT ρ' tg d) fun ρ2 => exs C body ρ2 st')) from q2
      rw [hb] at q2
      exact q2.elim
    | some ρ2 =>
      have q2 := show PostX γ κ' H'' Dn W (Stp _ (Py.X.opt (bindT ρ' tg d) fun ρ2 => exs C body ρ2 st')) from q2
      rw [hb] at q2
      refine ⟨κ', ρ', st', d, ρ2, en3, hx, hb, fun σ4 en4 _ => ⟨κ', ρ2, st', en4, stp_post (show PostX γ κ' H'' Dn W (Stp (restF (fun d ρ1 s2 => Py.X.opt (bindT ρ1 tg d) fun ρ2 => exs C body ρ2 s2) sv (i + 1) j') (exs C body ρ2 st')) from q2) fun ρ5 st5 κ5 H5 σ5 e5 en5 q5 => ⟨κ5, ρ5, st5, e2.trans (e3.trans e5), en5, q5⟩⟩⟩
end
section
variable {γ : Wd} {C : F → List D → Store → R D} {k : Nat}
/-! ### raise -/
theorem pmk0 {X : Cx} {Cl : Addr} {bmB : List Value} {B newId initId : String} {x : PySem.Str} {p pos : Pos} (F : ExcBaseFacts B newId initId bmB) (q : PySem.W.excIn X.K Cl bmB newId = true) (gC : X.mg x = some (.ref Cl)) (kC : PySem.W.keepIn X.K (.ref Cl) = true) (r : Raises X (.ref Cl)) (hg : Gl X x)
    (hdb : (x == ("__debug__" : PySem.Str)) = false) : PMk X (.Call (.Name x p) [] [] pos) (fun _ H Q => Q (.ref Cl) none H) := by
  intro pins s σ H Q I h
  refine wpAny_Call_Name_kw (ld_glob I hg gC ?_ hdb)
  refine PySem.W.callWith_K0 I.kIn kC ?_
  show wpAny _ _ (PySem.call (.ref Cl) []) _ _ _
  obtain ⟨bm, N, nm, qn, bs, hdct, sn, sub, ab, col, dd, k0, k1, k2, k3, k5, mN, hC, hN, hni, T⟩ := exc_obj I.kIn q
  refine wpAny_call_exc_subT F T hC hN hni (fun h' e hm => ?_) (by show 0 ≤ sizeLine; omega)
  exact mk_of I hm r h (I.hok.gone hm.new)
theorem ts_rse {m : Mc} {X : Cx} {W : WX} {c : Xc} {x : PySem.Str} {p p2 pos : Pos} (M : Mx γ C k m X) (tk : Takes X W) (hc : m.cm = true) (hg : mGl m (nmX c) x = true) (hx : xcs.contains c = true) :
    PS X (.Raise (some (.Call (.Name x p) [] [] p2)) none pos) (tS γ C W (.rse c [])) := by
  obtain ⟨h1, h2, h3⟩ := mgl_of M hg
  subst h1
  obtain ⟨g1, ⟨bm, g2, g3⟩, g4, g5, g6⟩ := M.g.gx c (by simpa using hx)
  refine psi (ps_raise (M.calm hc) tk (pmk0 g3 g2 g1 g4 (raises_own g5 g6) h2 h3)) fun Dn σ H q => ?_
  obtain ⟨κ, ρ, st, e, q⟩ := q
  simp only [ex, evs] at q
  have hb : c ≠ .BadText := by
    intro hb
    subst hb
    exact absurd hx (by decide +kernel)
  refine q κ H σ none .refl e ?_
  cases c <;> first | rfl | exact absurd rfl hb
/-! ### every statement of the text -/
theorem ts_assign {m : Mc} {X : Cx} {W : WX} {e : E} {e' : Expr} {i : Nat} {x : PySem.Str} {py pos : Pos} (M : Mx γ C k m X) (Z : Sx X) (tk : Takes X W) (h1 : mOne m i (.Name x py) = true) (h2 : mE m e e' = true) (h3 : (notComp e' || swB m x py e' || nlB m x) = true) :
    PS X (.Assign [.Name x py] e' pos) (tS γ C W (.asg i e)) := by
  by_cases hn : (notComp e' || nlB m x) = true
  · exact ts_asg M Z h1 (sE e m X W e' h2 M tk).pe hn
  · have hs : swB m x py e' = true := by
      have hn : (notComp e' || nlB m x) = false := by simpa using hn
      rw [Bool.or_eq_false_iff] at hn
      rw [hn.1, hn.2, Bool.or_false] at h3
      exact h3
    cases e' <;> first | (cases hs; done) | skip
    cases e <;> first | (simp [mE] at h2; done) | skip
    rename_i elt tg kd src cond own
    simp only [mE] at h2
    split at h2
    · rename_i elt' tg' it' ifs' scope p' heq
      cases heq
      simp only [Bool.and_eq_true] at h2
      obtain ⟨⟨⟨⟨⟨⟨⟨h1', h2⟩, h3'⟩, h4⟩, h5⟩, h6⟩, h7⟩, h8⟩ := h2
      split at h2
      · rename_i as hs'
        obtain ⟨g1, g2⟩ := ti_src M hs' h2 (sEs src m X W _ h2 M tk).pe
        refine ts_asgLc M Z h1 hs h1' g1 g2 h3' (fun i hi => ?_) h4 (fun s H Cc cl fp => ?_) (fun s H Cc cl fp => (sE elt _ _ W0 _ h8 (M.blk s H Cc cl fp) takes0).pe)
        · have := List.all_eq_true.mp h5 i hi
          simpa using this
        · have hc := sEs cond _ _ W0 _ h6 (M.blk s H Cc cl fp) takes0
          match cond, ifs', h6, hc, h7 with
          | [], [], _, _, _ => exact tts_nil
          | [c], [y], _, hc, _ => exact tts_one hc.1.pt
          | [], _ :: _, h6, _, _ => simp [mEs] at h6
          | [_], [], h6, _, _ => simp [mEs] at h6
          | [_], _ :: _ :: _, h6, _, _ => simp [mEs] at h6
          | _ :: _ :: _, _, _, _, h7 => simp at h7
      · cases h2
    · cases h2
theorem ts_par {m : Mc} {X : Cx} {W : WX} {is : List Nat} {es : List E} {ts es' : List Expr} {kt k2 : Nat} {pt pt2 pos : Pos} (M : Mx γ C k m X) (Z : Sx X) (hc : m.cm = true) (h1 : mMany m is ts = true) (hes : mEs m es es' = true) (hp : AllPE γ C W X es es')
    (hl : len23 ts es' = true) (hs : swapB m ts es' = true) (hn : is.Nodup) :
    PS X (.Assign [.Tuple ts kt pt] (.Tuple es' k2 pt2) pos) (tS γ C W (.par is es)) := by
  have ha := pa_all hes hp
  match ts, es', hl, h1, hes, ha, hs with
  | [t1, t2], [x1, x2], _, h1, hes, ha, hs =>
    match is, h1, hn with
    | [i, j], h1, hn =>
      match es, hes, ha with
      | [e1, e2], hes, ha =>
        simp only [mMany, Bool.and_eq_true] at h1
        simp only [mEs, Bool.and_eq_true] at hes
        obtain ⟨x, px, rfl⟩ := one_name h1.1
        obtain ⟨y, py, rfl⟩ := one_name h1.2.1
        exact ts_par2 M Z hc h1.1 h1.2.1 (pair_nodup hn) (mE_plain hes.1) (mE_plain hes.2.1) hs ha
      | [], hes, _ => simp [mEs] at hes
      | [_], hes, _ => simp [mEs] at hes
      | _ :: _ :: _ :: _, hes, _ => simp [mEs] at hes
    | [], h1, _ => simp [mMany] at h1
    | [_], h1, _ => simp [mMany] at h1
    | _ :: _ :: _ :: _, h1, _ => simp [mMany] at h1
  | [t1, t2, t3], [x1, x2, x3], _, h1, hes, ha, hs =>
    match is, h1, hn with
    | [i, j, l], h1, hn =>
      match es, hes, ha with
      | [e1, e2, e3], hes, ha =>
        simp only [mMany, Bool.and_eq_true] at h1
        simp only [mEs, Bool.and_eq_true] at hes
        obtain ⟨x, px, rfl⟩ := one_name h1.1
        obtain ⟨y, py, rfl⟩ := one_name h1.2.1
        obtain ⟨z, pz, rfl⟩ := one_name h1.2.2.1
        rw [List.nodup_cons] at hn
        have hij : i ≠ j := fun q => hn.1 (by rw [q]; exact List.mem_cons_self)
        have hil : i ≠ l := fun q => hn.1 (by rw [q]; exact List.mem_cons_of_mem _ List.mem_cons_self)
        exact ts_par3 M Z hc h1.1 h1.2.1 h1.2.2.1 hij hil (pair_nodup hn.2) (mE_plain hes.1) (mE_plain hes.2.1) (mE_plain hes.2.2.1) hs ha
      | [], hes, _ => simp [mEs] at hes
      | [_], hes, _ => simp [mEs] at hes
      | [_, _], hes, _ => simp [mEs] at hes
      | _ :: _ :: _ :: _ :: _, hes, _ => simp [mEs] at hes
    | [], h1, _ => simp [mMany] at h1
    | [_], h1, _ => simp [mMany] at h1
    | [_, _], h1, _ => simp [mMany] at h1
    | _ :: _ :: _ :: _ :: _, h1, _ => simp [mMany] at h1
mutual
theorem sS : ∀ (s : S) (m : Mc) (X : Cx) (W : WX) (x : Stmt), mS m s x = true → Mx γ C k m X → Sx X → Takes X W → PS X x (tS γ C W s)
  | .asg i e, m, X, W, x, h, M, Z, tk => by
    simp only [mS] at h
    split at h
    · simp only [Bool.and_eq_true] at h
      exact ts_assign M Z tk h.1.1 h.1.2 h.2
    · cases h
  | .unp is e, m, X, W, x, h, M, Z, tk => by
    simp only [mS] at h
    split at h
    · rw [Bool.and_eq_true, Bool.and_eq_true, Bool.and_eq_true] at h
      obtain ⟨⟨⟨h1, h2⟩, h3⟩, h4⟩ := h
      exact ts_unp M h1 h2 (sE e m X W _ h3 M tk).pe h4
    · cases h
  | .par is es, m, X, W, x, h, M, Z, tk => by
    simp only [mS] at h
    split at h
    · simp only [Bool.and_eq_true, decide_eq_true_eq] at h
      obtain ⟨⟨⟨⟨⟨h1, h2⟩, h3⟩, h4⟩, h5⟩, h6⟩ := h
      exact ts_par M Z h2 h1 h3 (sEs es m X W _ h3 M tk).pe h4 h5 h6
    · cases h
  | .sub o i e, m, X, W, x, h, M, Z, tk => by
    simp only [mS] at h
    split at h
    · simp only [Bool.and_eq_true] at h
      obtain ⟨⟨h1, h2⟩, h3⟩ := h
      exact ts_sub M (sE o m X W _ h1 M tk).pe (sE i m X W _ h2 M tk).pe (mE_plain h2) (sE e m X W _ h3 M tk).pe
    · cases h
  | .aug i op e, m, X, W, x, h, M, Z, tk => by
    simp only [mS] at h
    split at h
    · simp only [Bool.and_eq_true, Bool.or_eq_true, decide_eq_true_eq] at h
      obtain ⟨⟨⟨h1, h2⟩, h3⟩, h4⟩ := h
      subst h2
      exact ts_aug M h3 h1 (sE e m X W _ h4 M tk).pe
    · cases h
  | .app o e, m, X, W, x, h, M, Z, tk => by
    simp only [mS] at h
    split at h
    · simp only [Bool.and_eq_true, decide_eq_true_eq] at h
      obtain ⟨⟨⟨rfl, h1⟩, h2⟩, h3⟩ := h
      exact ts_app M h1 (sE o m X W _ h2 M tk).pe (sE e m X W _ h3 M tk).pe (mE_plain h3)
    · cases h
  | .ext o e, m, X, W, x, h, M, Z, tk => by
    simp only [mS] at h
    split at h
    · simp only [Bool.and_eq_true, decide_eq_true_eq] at h
      obtain ⟨⟨⟨rfl, h1⟩, h2⟩, h3⟩ := h
      exact ts_ext M h1 (sE o m X W _ h2 M tk).pe (sE e m X W _ h3 M tk).pe (mE_plain h3)
    · cases h
  | .ret e, m, X, W, x, h, M, Z, tk => by
    simp only [mS] at h
    split at h
    · exact ts_ret (sE e m X W _ h M tk).pe
    · cases h
  | .retN, m, X, W, x, h, M, Z, tk => by
    simp only [mS] at h
    split at h
    · exact ts_retN
    · cases h
  | .ife c a b, m, X, W, x, h, M, Z, tk => by
    simp only [mS] at h
    split at h
    · simp only [Bool.and_eq_true] at h
      obtain ⟨⟨h1, h2⟩, h3⟩ := h
      exact ts_ife (sE c m X W _ h1 M tk).pt (sSs a m X W _ h2 M Z tk) (sSs b m X W _ h3 M Z tk)
    · cases h
  | .fr tg kd src body, m, X, W, x, h, M, Z, tk => by
    simp only [mS] at h
    split at h
    · simp only [Bool.and_eq_true] at h
      obtain ⟨⟨⟨h1, h2⟩, h3⟩, h4⟩ := h
      split at h3
      · rename_i as hs
        obtain ⟨g1, g2⟩ := ti_src M hs h3 (sEs src m X W _ h3 M tk).pe
        exact ts_fr M Z h1 g1 g2 h2 (sSs body m X W _ h4 M Z tk)
      · cases h3
    · cases h
  | .wh c body, m, X, W, x, h, M, Z, tk => by
    simp only [mS] at h
    split at h
    · simp only [Bool.and_eq_true] at h
      exact ts_wh Z (sE c m X W _ h.1 M tk).pt (sSs body m X W _ h.2 M Z tk)
    · cases h
  | .brk, m, X, W, x, h, M, Z, tk => by
    simp only [mS] at h
    split at h
    · exact ts_brk
    · cases h
  | .cnt, m, X, W, x, h, M, Z, tk => by
    simp only [mS] at h
    split at h
    · exact ts_cnt
    · cases h
  | .pas, m, X, W, x, h, M, Z, tk => by
    simp only [mS] at h
    split at h
    · exact ts_pas
    · cases h
  | .drop e, m, X, W, x, h, M, Z, tk => by
    simp only [mS] at h
    split at h
    · simp only [Bool.and_eq_true] at h
      exact ts_drop (sE e m X W _ h.1 M tk).pe h.2
    · cases h
  | .rse c es, m, X, W, x, h, M, Z, tk => by
    simp only [mS] at h
    split at h
    · simp only [Bool.and_eq_true] at h
      obtain ⟨⟨⟨h1, h2⟩, h3⟩, h4⟩ := h
      have h2 : es = [] := List.isEmpty_iff.mp h2
      subst h2
      exact ts_rse M tk h1 h3 h4
    · cases h
  | .tri _ _ _ _, m, X, W, x, h, M, Z, tk => by simp [mS] at h
termination_by structural s => s
theorem sSs : ∀ (ss : List S) (m : Mc) (X : Cx) (W : WX) (xs : List Stmt), mSs m ss xs = true → Mx γ C k m X → Sx X → Takes X W → PSs X xs (tSs γ C W ss)
  | [], m, X, W, xs, h, M, Z, tk => by
    cases xs with
    | nil => exact ts_nil
    | cons => simp [mSs] at h
  | s :: ss, m, X, W, xs, h, M, Z, tk => by
    cases xs with
    | nil => simp [mSs] at h
    | cons x xs =>
      simp only [mSs, Bool.and_eq_true] at h
      exact ts_cons (sS s m X W x h.1 M Z tk) (sSs ss m X W xs h.2 M Z tk)
termination_by structural ss => ss
end
end
/-! ### every def of the text -/
/-- the statement of the text that is f's def: given per law -/
structure Dt where
  args : Arguments
  body : List Stmt
  scope : Scope
def scopeB (N P : List PySem.Str) (sc : Scope) : Bool :=
  (match sc.kind with | .function => true | _ => false) && !sc.isCoroutine && !sc.isGenerator && decide N.Nodup && decide (N.take P.length = P) && (P.all fun x => locB sc x) && (sc.names.all fun y => match y.2 with | .free => false | _ => true)
theorem scope_of {N P : List PySem.Str} {sc : Scope} (h : scopeB N P sc = true) : FnScope N P sc := by
  unfold scopeB at h
  simp only [Bool.and_eq_true, Bool.not_eq_true', decide_eq_true_eq, List.all_eq_true] at h
  obtain ⟨⟨⟨⟨⟨⟨h1, h2⟩, h3⟩, h4⟩, h5⟩, h6⟩, h7⟩ := h
  refine ⟨?_, h2, h3, h4, h5, fun x hx => loc_cases (h6 x hx), fun y hy q => ?_⟩
  · split at h1
    · assumption
    · cases h1
  · have z := h7 y hy
    rw [q] at z
    cases z
def mFn (dt : F → Dt) (f : F) : Bool :=
  scopeB (nsF f) (psF f) (dt f).scope && decide ((tbl f).np = (psF f).length) && decide ((tbl f).ns = (nsF f).length) && mSs ⟨nsF f, (dt f).scope, (dt f).scope, true⟩ (tbl f).body (dt f).body
section
variable {γ : Wd} {H H' : Hp} {κ κ' : List Addr} {st st' : Store}
theorem getS_app : ∀ {ds : List D} {n i : Nat} {d : D}, getS (ds.map some ++ empties n) i = some d → ds[i]? = some d
  | [], 0, i, d, h => by cases h
  | [], n + 1, 0, d, h => by cases h
  | [], n + 1, i + 1, d, h => by
    have := getS_app (ds := []) (n := n) (i := i) (d := d) h
    cases this
  | x :: xs, n, 0, d, h => h
  | x :: xs, n, i + 1, d, h => getS_app (ds := xs) (n := n) (i := i) (d := d) h
theorem empties_length : ∀ n, (empties n).length = n
  | 0 => rfl
  | n + 1 => by rw [empties, List.length_cons, empties_length n]
theorem Iss.get : ∀ {ds : List D} {vs : List V} {i : Nat} {d : D}, Iss γ H κ ds vs → ds[i]? = some d → ∃ v, vs[i]? = some v ∧ Is γ H κ d v
  | [], _, _, _, _, h => by cases h
  | x :: xs, vs, 0, d, ⟨v, r, e, h1, h2⟩, h => by
    cases h
    subst e
    exact ⟨v, rfl, h1⟩
  | x :: xs, vs, i + 1, d, ⟨v, r, e, h1, h2⟩, h => by
    subst e
    have z := Iss.get (ds := xs) (vs := r) h2 h
    exact z
theorem env_start {N : List PySem.Str} {ds : List D} {vs : List V} {n : Nat} (so : StOk γ H κ st) (h : Iss γ H κ ds vs) (hn : n = N.length - ds.length) (hl : ds.length ≤ N.length) : Env_ γ (L2.start N vs) H κ (ds.map some ++ empties n) st := by
  have e0 := h.length
  refine ⟨so, ?_, fun i d hd => ?_⟩
  · unfold L2.start
    rw [List.length_append, List.length_append, List.length_map, List.length_map, List.length_replicate, empties_length, e0, hn]
  · have hd := getS_app hd
    obtain ⟨v, hv, hi⟩ := h.get hd
    refine ⟨v, ?_, hi⟩
    unfold L2.start
    rw [List.getElem?_append_left (by rw [List.length_map]; exact (List.getElem?_eq_some_iff.mp hv).1), List.getElem?_map, hv]
    rfl
theorem is_frz {d : D} {v : V} {more : List Addr} {n : Nat} (hn : n = κ.length) (so : StOk γ H (κ ++ more) st) (h : Is γ H (κ ++ more) d v) : Is γ H κ (frz n st d) v := by
  have sub : ∀ a ∈ κ, a ∈ κ ++ more := fun a ha => List.mem_append_left _ ha
  cases d with
  | cell j =>
    show Is γ H κ (if j < n then .cell j else .lst (st.getD j [])) v
    split
    · rename_i hj
      exact h.sub sub fun i e => by
        cases e
        exact ⟨by omega, List.getElem?_append_left (by omega)⟩
    · rename_i hj
      obtain ⟨a, h1, rfl⟩ := h
      have hlt : j < st.length := by rw [← so.len]; exact (List.getElem?_eq_some_iff.mp h1).1
      have hg : st[j]? = some (st.getD j []) := by rw [List.getD_eq_getElem?_getD, List.getElem?_eq_getElem hlt]; rfl
      obtain ⟨vs, h3, h4⟩ := so.at_ _ _ _ h1 hg
      refine is_lst.mpr ⟨a, vs, rfl, ⟨h3, fun hm => ?_⟩, IsPs.sub sub _ _ h4⟩
      obtain ⟨i, hi⟩ := List.getElem?_of_mem hm
      have hi' : (κ ++ more)[i]? = some a := by rw [List.getElem?_append_left (List.getElem?_eq_some_iff.mp hi).1]; exact hi
      have := nodup_at so.nd hi' h1
      have := (List.getElem?_eq_some_iff.mp hi).1
      omega
  | _ => exact h.sub sub fun i e => nomatch e
theorem exc_sub {c : Xc} {xs : List D} {d : Option Addr} {more : List Addr} (h : ExcAt γ H (κ ++ more) c xs d) : ExcAt γ H κ c xs d := by
  cases c with
  | BadText =>
    obtain ⟨dx, v, x, h1, h2, h3, h4, h5⟩ := h
    exact ⟨dx, v, x, h1, h2, fun q => h3 (List.mem_append_left _ q), h4, IsP.sub (fun a ha => List.mem_append_left _ ha) _ _ h5⟩
  | _ => exact h
/-- from a call's answer to its body's -/
theorem fin_post {Q : VK} {E : XK} {raw : Bool} {x : Py.X} (so : StOk γ H κ st) (h : PostR γ (Is γ) κ H Q E (x.fin raw st.length)) : PostX γ κ H { nx := fun _ H' => Q .non H', rt := Q } (fun c d _ H' => E c d H') x := by
  have hn : st.length = κ.length := so.len.symm
  cases x with
  | nx ρ' st' =>
    intro κ' H' σ' e en
    obtain ⟨mo, em, _⟩ := e.pre
    subst em
    cases raw with
    | true => exact h _ H' .non e en.st rfl
    | false => exact h κ H' .non e.cut (StOk.cut hn en.st) rfl
  | ret d st' =>
    intro κ' H' v e so' hv
    obtain ⟨mo, em, _⟩ := e.pre
    subst em
    cases raw with
    | true => exact h _ H' v e so' hv
    | false => exact h κ H' v e.cut (StOk.cut hn so') (is_frz hn so' hv)
  | exc c xs ρ' st' =>
    intro κ' H' σ' d e en hx
    obtain ⟨mo, em, _⟩ := e.pre
    subst em
    exact h κ H' d e.cut (StOk.cut hn en.st) (exc_sub hx)
  | brk => exact h.elim
  | cnt => exact h.elim
  | no => exact h.elim
end
/-- what the program's top leaves, for the defs of one law -/
structure Top (γ : Wd) (dt : F → Dt) (base : Heap) : Prop where
  fd : ∀ f, FunD γ.K (nmF f) (nmF f) (dt f).args (dt f).body (dt f).scope [] [] (γ.fa f) (γ.fd f)
  gf : ∀ f, γ.mg (nmF f) = some (.ref (γ.fa f))
  bf : ∀ f, L2.Binds γ.K (γ.fd f) (psF f) []
  kb : ∀ f (s : Shared) (us : List Value), γ.K.In s.heap → us.length = (psF f).length → BindsTo s (γ.fd f) ⟨[], (psF f).zip us⟩ ((psF f).zip us)
  gx : ∀ c ∈ xcs, γ.mg (nmX c) = some (.ref (γ.xa c)) ∧ (∃ bm, PySem.W.excIn γ.K (γ.xa c) bm "ValueError.__new__" = true ∧ ExcBaseFacts "ValueError" "ValueError.__new__" "ValueError.__init__" bm) ∧ PySem.W.keepIn γ.K (.ref (γ.xa c)) = true ∧ PySem.W.subIn γ.K (.ref (γ.xa c)) (.type "BaseException") = some true ∧ PySem.W.typeIn γ.K (.ref (γ.xa c)) = some (.type "type")
  gb : ∀ n ∈ freeNames, γ.mg n = none
  gg : ∀ g, ∃ u v, γ.mg (nmG g) = some u ∧ L2.RelV v u ∧ ∀ H κ, Is γ H κ g.val v
theorem fn_all {γ : Wd} {dt : F → Dt} {base : Heap} (hm : ∀ f, mFn dt f = true) (T : Top γ dt base) : ∀ (k : Nat) (f : F), FnOk γ.P γ.w γ.K γ.mg base (L2.CX γ.P γ.w) k (γ.fa f) (γ.fd f) (psF f) (spC γ (call k) f)
  | 0, f => ⟨fun vs H Q E h => h.1, fun A outer s H args us vs Q E _ _ _ _ h => by
    obtain ⟨_, κ, st, ds, _, _, h⟩ := h
    exact h.elim⟩
  | k + 1, f => by
    have ih := fn_all hm T k
    have hf := hm f
    unfold mFn at hf
    simp only [Bool.and_eq_true, decide_eq_true_eq] at hf
    obtain ⟨⟨⟨h1, h2⟩, h3⟩, h4⟩ := hf
    have S := scope_of h1
    refine (T.fd f).ok S (fun vs H Q E h => h.1) fun cdv A outer s H vs Q E hr h => ?_
    obtain ⟨hl, κ, st, ds, so, hx, q⟩ := h
    refine ⟨tSs γ (call k) (fun c d _ H' => E c d H') (tbl f).body, ?_, κ, ds.map some ++ empties ((tbl f).ns - (tbl f).np), st, ?_, ?_⟩
    · refine sSs (k := k) (tbl f).body ⟨nsF f, (dt f).scope, (dt f).scope, true⟩ _ _ _ h4 ?_ ⟨S.kind, passes_of rfl⟩ (takes_of rfl rfl rfl rfl)
      refine ⟨⟨⟨rfl, rfl, rfl, rfl, (show (A.deeper (envOfC (nmF f) (dt f).scope s.heap.objs.size (γ.fa f) cdv)).units + 65 < cLine from by have := hr.un; omega)⟩, fun g ds st hg => ?_, ih, T.gf, fun g => (T.fd g).kp, T.bf, T.kb, T.gx, T.gb, T.gg⟩, rfl, S.nd, rfl, fun x hx => ⟨loc_cases hx, .inl rfl⟩, fun _ => ⟨rfl, hr⟩⟩
      cases k with
      | zero => rfl
      | succ k =>
        have hg2 := hm g
        unfold mFn at hg2
        simp only [Bool.and_eq_true, decide_eq_true_eq] at hg2
        show run (call k) (tbl g) ds st = .no
        unfold run
        rw [if_neg (by rw [hg2.1.1.2]; exact hg)]
    · have hl' : ds.length = (psF f).length := by rw [← hx.length]; exact hl
      have hle : ds.length ≤ (nsF f).length := by
        rw [hl']
        have e := congrArg List.length S.pre
        rw [List.length_take] at e
        omega
      exact env_start so hx (by rw [h2, h3, hl']) hle
    · have hl' : ds.length = (tbl f).np := by rw [h2, ← hx.length]; exact hl
      refine fin_post (raw := (tbl f).raw) so ?_
      have q := show PostR γ (Is γ) κ H Q E (run (call k) (tbl f) ds st) from q
      unfold run at q
      rw [if_pos hl'] at q
      exact q
def topI : F → Nat
  | .is_number => 3
  | .is_within => 4
  | .sure_within => 5
  | .sure_width => 8
  | .top_in => 9
  | .sure_word => 10
  | .sure_divisor => 11
  | .l_box => 29
  | .l_take => 30
  | .l_cells => 31
  | .l_of => 32
  | .l_same => 33
  | .l_two => 34
  | .l_divisor => 36
  | .law_k08 => 41
  | .l_wide => 35
  | .l_twos => 39
  | .turned_in => 12
  | .twos_in => 14
  | .steps_in => 15
  | .inverse_in => 16
  | .l_inverse => 37
  | .l_rolled => 38
  | .test_in => 18
  | .product_in => 19
  | .back_in => 20
  | .sure_both => 21
  | .multiple_test => 22
  | .led_to => 23
  | .led_back => 24
  | .is_multiple => 25
  | .leaves => 26
  | .multiple_at => 27
  | .l_led => 40
def allF : List F := [.is_number, .is_within, .sure_within, .sure_width, .top_in, .sure_word, .sure_divisor, .l_box, .l_take, .l_cells, .l_of, .l_same, .l_two, .l_divisor, .law_k08, .l_wide, .l_twos, .turned_in, .twos_in, .steps_in, .inverse_in, .l_inverse, .l_rolled, .test_in, .product_in, .back_in, .sure_both, .multiple_test, .led_to, .led_back, .is_multiple, .leaves, .multiple_at, .l_led]
def ixF : F → Nat
  | .is_number => 0
  | .is_within => 1
  | .sure_within => 2
  | .sure_width => 3
  | .top_in => 4
  | .sure_word => 5
  | .sure_divisor => 6
  | .l_box => 7
  | .l_take => 8
  | .l_cells => 9
  | .l_of => 10
  | .l_same => 11
  | .l_two => 12
  | .l_divisor => 13
  | .law_k08 => 14
  | .l_wide => 15
  | .l_twos => 16
  | .turned_in => 17
  | .twos_in => 18
  | .steps_in => 19
  | .inverse_in => 20
  | .l_inverse => 21
  | .l_rolled => 22
  | .test_in => 23
  | .product_in => 24
  | .back_in => 25
  | .sure_both => 26
  | .multiple_test => 27
  | .led_to => 28
  | .led_back => 29
  | .is_multiple => 30
  | .leaves => 31
  | .multiple_at => 32
  | .l_led => 33
def allG : List G := [.MOST_WIDTH]
def ixG : G → Nat
  | .MOST_WIDTH => 0
abbrev lawF : F := .law_k08
abbrev lawN : Nat := 41
def looseN : List PySem.Str := (["Unfit", "is_number", "is_within", "sure_within", "MOST_WIDTH", "sure_width", "top_in", "sure_word", "sure_divisor", "turned_in", "twos_in", "steps_in", "inverse_in", "test_in", "product_in", "back_in", "sure_both", "multiple_test", "led_to", "led_back", "is_multiple", "leaves", "multiple_at", "_law_box", "_law_take", "_law_cells", "_law_of", "_law_same", "_law_two", "_law_wide"] : List PySem.Str) ++ (["_law_divisor", "_law_inverse", "_law_rolled", "_law_twos", "_law_led"] : List PySem.Str)

abbrev rowL : PySem.W.OpenLaw := PySem.Challenge.rw_dividedbytimes_k08_main_multiples_by_one
abbrev rowP : PySem.Program := rowL.prog
/-! ### the head -/
open PySem PySem.Spec PyProof.Rows L2
def top (i : Nat) : Stmt := rowP.main.body.getD i (.Pass ⟨0, 0, 0, 0⟩)
def dt (f : F) : Dt := ⟨defArgs (top (topI f)), defBody (top (topI f)), defScope (top (topI f))⟩
def dd (f : F) : He.DefD := ⟨(nmF f, none), nmF f, nmF f, (dt f).args, (dt f).body, (dt f).scope, [], []⟩
theorem allF_at (f : F) : allF[ixF f]? = some f := by cases f <;> rfl
theorem mem_allF (f : F) : f ∈ allF := List.mem_of_getElem? (allF_at f)
def dvD : D → He.Dv
  | .int i => .int i
  | .str x => .str ⟨x.toArray⟩
  | _ => .non
def flD : D → Bool
  | .int _ => true
  | .str _ => true
  | _ => false
def gFa (g : G) : He.Fa := match g.val with
  | .int i => .int (nmG g) i
  | .str x => .str (nmG g) ⟨x.toArray⟩
  | _ => .glo (nmG g)
def gEx (K : PySem.W.Frag) (g : G) : Bool := match g.val with
  | .int _ => true
  | .str _ => true
  | .tup ds => ds.all flD && He.tupB K (nmG g) (ds.map dvD)
  | _ => false
def hFn : List He.DefD := allF.map dd
def hFa : List He.Fa := allF.map (fun f => .glo (nmF f)) ++ (freeNames.map .free ++ (xcs.map (fun c => .exc (nmX c)) ++ (xcs.map (fun c => .glo (nmX c)) ++ allG.map gFa)))
def hEx (K : PySem.W.Frag) : Bool := allG.all (gEx K)
abbrev hk : PySem.W.Hook := He.hookX 4 hFa hFn [] [] hEx
def ob (s : PySem.W.SharedT) : He.AlX := He.obsX 4 hFa hFn [] [] hEx (HandSHeadRun.getT s)
theorem ob_eq (s : PySem.W.SharedT) : ob s = hk.obs s.abs := He.obsX_eq (HandSHeadRun.getT_eq s)
theorem kbOf {K : PySem.W.Frag} {x qual : PySem.Str} {params : Arguments} {body : List Stmt} {scope : Scope} {kws : List (PySem.Str × V)} {f : Addr} {fd : FuncData} {ps : List PySem.Str} (F : FunD K x qual params body scope [] kws f fd)
    (h : ∀ (kV doc pm : Value) (an : Option Addr) (cdv ct : Value) (us : List Value), us.length = ps.length → bindArgs (PySem.W.fnOf x qual params body scope .none kV doc pm an cdv ct) ⟨[], ps.zip us⟩ = pure (ps.zip us)) (s : Shared) (us : List Value) (hl : us.length = ps.length) : BindsTo s fd ⟨[], ps.zip us⟩ (ps.zip us) := by
  obtain ⟨oc, od, dV, kV, doc, pm, an, cdv, ct, osl, rfl, lk, hcd, hD, hK⟩ := F.ex
  rcases hD with ⟨_, rfl⟩ | ⟨e, _⟩
  · exact .of_eq (h kV doc pm an cdv ct us hl)
  · exact absurd rfl e
theorem bnd1 (f : F) (kV doc pm : Value) (an : Option Addr) (cdv ct : Value) (us : List Value) (hl : us.length = (psF f).length) : bindArgs (PySem.W.fnOf (nmF f) (nmF f) (dt f).args (dt f).body (dt f).scope .none kV doc pm an cdv ct) ⟨us, []⟩ = pure ((psF f).zip us) := by
  cases f <;> first
    | exact (match us, hl with | [_], _ => rfl)
    | exact (match us, hl with | [_, _], _ => rfl)
    | exact (match us, hl with | [_, _, _], _ => rfl)
    | exact (match us, hl with | [_, _, _, _], _ => rfl)
    | exact (match us, hl with | [_, _, _, _, _], _ => rfl)
    | exact (match us, hl with | [_, _, _, _, _, _], _ => rfl)
theorem bnd2 (f : F) (kV doc pm : Value) (an : Option Addr) (cdv ct : Value) (us : List Value) (hl : us.length = (psF f).length) : bindArgs (PySem.W.fnOf (nmF f) (nmF f) (dt f).args (dt f).body (dt f).scope .none kV doc pm an cdv ct) ⟨[], (psF f).zip us⟩ = pure ((psF f).zip us) := by
  cases f <;> first
    | exact (match us, hl with | [_], _ => rfl)
    | exact (match us, hl with | [_, _], _ => rfl)
    | exact (match us, hl with | [_, _, _], _ => rfl)
    | exact (match us, hl with | [_, _, _, _], _ => rfl)
    | exact (match us, hl with | [_, _, _, _, _], _ => rfl)
    | exact (match us, hl with | [_, _, _, _, _, _], _ => rfl)
theorem allM : allF.all (mFn dt) = true := by decide +kernel
theorem mfn (f : F) : mFn dt f = true := List.all_eq_true.mp allM f (mem_allF f)
/-! ### the run of the top, what it leaves -/
theorem run_top (w : PySem.World) : HandSHeadRun.RunEq (PySem.W.OpenLaw.row rowL) (PySem.W.view (PySem.W.OpenLaw.row rowL).prog [lawN]) hk ob 3000 looseN w := by
  intro os
  kernel_rfl
theorem allG_at (g : G) : g ∈ allG := List.mem_of_getElem? (i := ixG g) (by cases g <;> rfl)
theorem sat_none {K : PySem.W.Frag} {a : Addr} {vs : List V} (h : SqT K (fun _ => none) a vs) : ∃ (o : Obj) (its : Array Value) (n : Nat), K.lookup a = some o ∧ o.cls = .type "tuple" ∧ o.data = .seq its n ∧ its.size ≤ sizeLine ∧ Vals vs its.toList := by
  rcases h with (h | ⟨_, h⟩) | h
  · cases h
  · cases h
  · exact h
theorem fl_is {γ : Wd} {H : Hp} {κ : List Addr} {K : PySem.W.Frag} : ∀ ds : List D, ds.all flD = true → IsPs γ H κ ds ((ds.map dvD).map (He.Dv.v K))
  | [], _ => by simp only [List.map_nil, IsPs]
  | d :: ds, h => by
    rw [List.all_cons, Bool.and_eq_true] at h
    simp only [List.map_cons, IsPs]
    refine ⟨_, _, rfl, ?_, fl_is ds h.2⟩
    cases d <;> first | (cases h.1; done) | skip
    · simp only [IsP]; rfl
    · simp only [IsP]; rfl
theorem mem_fa {f : He.Fa} : f ∈ hFa ↔ (∃ g, f = .glo (nmF g)) ∨ (∃ n ∈ freeNames, f = .free n) ∨ (∃ c ∈ xcs, f = .exc (nmX c)) ∨ (∃ c ∈ xcs, f = .glo (nmX c)) ∨ ∃ g ∈ allG, f = gFa g := by
  unfold hFa
  simp only [List.mem_append, List.mem_map]
  constructor
  · rintro (⟨g, _, h⟩ | ⟨n, h1, h2⟩ | ⟨c, h1, h2⟩ | ⟨c, h1, h2⟩ | ⟨g, h1, h2⟩)
    · exact .inl ⟨g, h.symm⟩
    · exact .inr (.inl ⟨n, h1, h2.symm⟩)
    · exact .inr (.inr (.inl ⟨c, h1, h2.symm⟩))
    · exact .inr (.inr (.inr (.inl ⟨c, h1, h2.symm⟩)))
    · exact .inr (.inr (.inr (.inr ⟨g, h1, h2.symm⟩)))
  · rintro (⟨g, h⟩ | ⟨n, h1, h2⟩ | ⟨c, h1, h2⟩ | ⟨c, h1, h2⟩ | ⟨g, h1, h2⟩)
    · exact .inl ⟨g, mem_allF g, h.symm⟩
    · exact .inr (.inl ⟨n, h1, h2.symm⟩)
    · exact .inr (.inr (.inl ⟨c, h1, h2.symm⟩))
    · exact .inr (.inr (.inr (.inl ⟨c, h1, h2.symm⟩)))
    · exact .inr (.inr (.inr (.inr ⟨g, h1, h2.symm⟩)))
section
variable {w : PySem.World} {K : PySem.W.Frag} {h h' : Heap} {mg : PySem.Str → Option Value}
theorem saysD (c : He.SaysX hFa hFn [] [] hEx w h' K) : He.SaysD hFa hFn K := congrArg Prod.fst c.t
theorem def_of (c : He.SaysX hFa hFn [] [] hEx w h' K) (f : F) : ∃ fd, FunD K (nmF f) (nmF f) (dt f).args (dt f).body (dt f).scope [] [] (He.ga K (nmF f)) fd :=
  (saysD c).defs (d := dd f) (List.mem_map.mpr ⟨f, mem_allF f, rfl⟩)
noncomputable def wd (w : PySem.World) (mg : PySem.Str → Option Value) (K : PySem.W.Frag) (c : He.SaysX hFa hFn [] [] hEx w h' K) : Wd :=
  ⟨rowP, w, K, mg, fun f => He.ga K (nmF f), fun f => Classical.choose (def_of c f), fun x => He.ga K (nmX x)⟩
theorem top_of (X : K.In h) (G : h.Ns mainGlobals mg) (c : He.SaysX hFa hFn [] [] hEx w h' K) (base : Heap) : Top (wd w mg K c) dt base where
  fd := fun f => Classical.choose_spec (def_of c f)
  gf := fun f => He.glo_ok X G ((saysD c).facts (mem_fa.mpr (.inl ⟨f, rfl⟩)))
  bf := fun f => (Classical.choose_spec (def_of c f)).bindsN (bnd1 f)
  kb := fun f s us _ hl => kbOf (Classical.choose_spec (def_of c f)) (bnd2 f) s us hl
  gx := fun x hx => by
    have h1 := He.glo_ok X G ((saysD c).facts (mem_fa.mpr (.inr (.inr (.inr (.inl ⟨x, hx, rfl⟩))))))
    obtain ⟨h2, h3, h4, h5⟩ := He.exc_ok ((saysD c).facts (mem_fa.mpr (.inr (.inr (.inl ⟨x, hx, rfl⟩)))))
    exact ⟨h1, ⟨_, h2, PySem.F.excBase_ValueError⟩, h3, h4, h5⟩
  gb := fun n hn => He.free_ok X G ((saysD c).facts (mem_fa.mpr (.inr (.inl ⟨n, hn, rfl⟩))))
  gg := fun g => by
    have hf := (saysD c).facts (f := gFa g) (mem_fa.mpr (.inr (.inr (.inr (.inr ⟨g, allG_at g, rfl⟩)))))
    have he := List.all_eq_true.mp c.more g (allG_at g)
    unfold gFa at hf
    unfold gEx at he
    cases hv : g.val <;> rw [hv] at hf he <;> dsimp only at hf he <;> first | (cases he; done) | skip
    · obtain ⟨t, ht⟩ := He.int_ok X G hf
      exact ⟨_, .int _, ht, ⟨t, rfl⟩, fun H κ => rfl⟩
    · obtain ⟨t, ht⟩ := He.str_ok X G hf
      exact ⟨_, .str _, ht, ⟨t, rfl⟩, fun H κ => rfl⟩
    · rw [Bool.and_eq_true] at he
      exact ⟨_, .ref _, He.glo_ok X G hf, rfl, fun H κ => is_tup.mpr ⟨_, _, rfl, .inr (sat_none (He.tupB_ok he.2 _)), fl_is _ he.1⟩⟩
end
theorem FnOk.calm {P : Program} {w : PySem.World} {K : PySem.W.Frag} {mg : PySem.Str → Option Value} {base : Heap} {k : Nat} {f : Addr} {fd : FuncData} {ps : List PySem.Str} {sp : Sp} (F : FnOk P w K mg base (L2.CX P w) k f fd ps sp) :
    FnOk P w K mg base CX0 k f fd ps (fun vs H Q _ => sp vs H Q (fun _ _ _ => False)) :=
  ⟨fun vs H Q E h => F.len _ _ _ _ h, fun A outer s H args us vs Q E hr e0 b v h => codeAny_mono (F.run A outer s H args us vs Q _ hr e0 b v h) fun r s' hq => by
    cases r with
    | error e =>
      obtain ⟨_, _, _, _, _, _, _, _, _, _, _, _, z⟩ := hq
      exact z.elim
    | ok fl => cases fl <;> exact hq⟩
/-- the law from its answer in the small language -/
theorem law_of (k : Nat) (hk : Room k callerA) (hlaw : ∀ ns : List Int, ns.length ≤ 63 → call k lawF [.ro ns] [] = .ok (.bl true) []) : rowL.Holds := by
  w_on; o_law
  refine HandSHeadRun.head_any (r := PySem.W.OpenLaw.row rowL) (q := PySem.W.view (PySem.W.OpenLaw.row rowL).prog [lawN]) (H := Py.hk) (ob := Py.ob) (M := 3000) (loose := looseN) (d := HandSHeadRun.topDef (PySem.W.OpenLaw.row rowL).prog lawN) (kwd := []) ob_eq
    (by kernel_rfl) (fun s => by kernel_rfl) run_top (by kernel_rfl) (by kernel_rfl) (by kernel_rfl) (by rfl) (by first | assumption | decide +kernel) (by decide +kernel) ⟨rfl, rfl, rfl, rfl, rfl, by decide +kernel⟩ ?hw ?hc
  case hw => w_witness2
  case hc =>
    refine L2.walk_ofE (l := rowL) (n := 63) (k := k) (x := "script") (CX := CX0) rfl (by decide) (by kernel_rfl) hk ?F (fun _ _ _ _ z => z)
    intro w mg fa h Y G hmg0
    obtain ⟨K, KX, c⟩ := Y
    have hmg : mg (nmF lawF) = some (.ref fa) := by
      have e : (HandSHeadRun.topDef (PySem.W.OpenLaw.row rowL).prog lawN).name = nmF lawF := by kernel_rfl
      rw [← e]
      exact hmg0
    have hga := hmg.symm.trans ((top_of KX G c h).gf lawF)
    cases hga
    refine ⟨K, (wd w mg K c).fd lawF, fun vs H Q _ => spC (wd w mg K c) (call k) lawF vs H Q (fun _ _ _ => False), KX, ?_, ?_, ?_⟩
    · intro s u
      exact FunD.bindsA (ps := psF lawF) (Classical.choose_spec (def_of c lawF)) (bnd1 lawF) s [u] rfl
    · intro H a ns hl hO hS
      refine ⟨rfl, [], [], [.ro ns], ⟨rfl, List.nodup_nil, fun k a xs h1 _ => by cases h1⟩, ⟨_, [], rfl, ⟨a, rfl, ?_⟩, rfl⟩, ?_⟩
      · rcases hS with hS | hS
        · exact .inl ⟨hS, List.not_mem_nil⟩
        · exact .inr hS
      · rw [hlaw ns hl]
        exact fun κ' H' b _ _ hb => hb
    · intro base _ _
      exact FnOk.calm (fn_all mfn (top_of KX G c base) k lawF)
end Py
theorem PySem.Challenge.cw_dividedbytimes_k08_main_multiples_by_one_holds : PySem.Challenge.rw_dividedbytimes_k08_main_multiples_by_one.Holds :=
  Py.law_of 20 ⟨rfl, by decide, by decide⟩ Py.Q.law_true
