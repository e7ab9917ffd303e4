/- Part of a proof about the given program: the abstract machine, the printed functions, the plain laws. (AO1, AMWp, AMRange, AX0, AX1, AXFrunes_Good, AXFrunes_first, AXFrunes_put_nil, AXFrunes_One, AXFstringslite_HasPrefix, AXFstrings_HasPrefix, AXT, AXFalex_lexer_fixed, AXP, AOR0, AOFalex_letter, AOFalex_lexer_byte, AOFalex_lexer_fail, AOFalex_digit, AOFalex_lexer_name, AOFstringslite_HasPrefix, AOFstringslite_CutPrefix, AOFstrings_CutPrefix, AOFalex_lexer_number, AOFalex_lexer_one, AOFarr_Atom, AOFarr_Nums, AOFalex_lexer_numbers, AOFarr_Text, AOFrunes_Good, AOFrunes_first, AOFrunes_put_nil, AOFrunes_One, AOFalex_lexer_text, AOFalex_lexer_word, AOFstrings_HasPrefix, AOFalex_Lex, AOFapl_Grammar, AOFapl_origin_1, AOFapl_origin_2, AOFapl_origin_3, AOFapl_origin_4, AOFapl_origin, AOFcore_Name, AOFgrammar_Parse_1_p, AOFgrammar_Parse_1_p_2, AOFgrammar_Parse_1_q, AOFgrammar_parser_fail, AOFgrammar_parser_down, AOFgrammar_parser_expr_1, AOFgrammar_parser_function_1, AOFgrammar_parser_here, AOFgrammar_parser_is, AOFgrammar_times) -/
import Derived.Test.YtbpldjfhpbebfaaGreatA3
import Derived.Maps.RangeRun
import Derived.Test.YtbpldjfhpbebfaaGreatProg
import Derived.KernelRfl
import Derived.LaidSub
import Derived.MakeChecks
set_option linter.all false
set_option linter.unusedSectionVars false
set_option linter.unusedVariables false
set_option linter.unusedSimpArgs false

namespace Go.AM.Seat
open Go Go.AM Go.Proofs
set_option maxRecDepth 100000
set_option maxHeartbeats 4000000
set_option linter.unusedVariables false
def p_spell_writer_glue (l : (List Str)) (w : Spell_writer) : Option ((List Str)) :=
 lapp w.out l >>= fun l1 =>
 some l1
def p_spell_writer_fits (n : Node) (kids : Int) (w : Spell_writer) : Option (Bool × Int × Bool) :=
 if w.bad then
  some (false, (w64 (w.nodes + 1)), true)
 else
  if (decide ((w64 (w.nodes + 1)) > 2048)) then
   some (false, (w64 (w.nodes + 1)), true)
  else
   some ((!((List.length n.kids : Int) != kids)), (w64 (w.nodes + 1)), ((List.length n.kids : Int) != kids))
def p_spell_writer_words_l0 (a : ((List Str)) × Int × (List Str)) : Option ((List Str)) := match a with
 | (l, x, w14) =>
  if (decide (x < (List.length l : Int))) then
   lget l x >>= fun s =>
   (
    if (decide ((List.length w14 : Int) > 0)) then
     lapp w14 [[32]] >>= fun l1 =>
     some l1
    else
     some w14
   : Option ((List Str))) >>= fun x14 =>
   lapp x14 [s] >>= fun l2 =>
   p_spell_writer_words_l0 (l, (w64 (x + 1)), l2)
  else
   some w14
 partial_fixpoint
def p_spell_writer_words (l : (List Str)) (w : Spell_writer) : Option ((List Str)) :=
 (
  p_spell_writer_words_l0 (l, 0, w.out)
 : Option ((List Str))) >>= fun c14 =>
 some c14
def p_spell_digits (a : Int) : Option (Str) := match a with
 | n =>
  (
   if (decide (n ≥ 10)) then
    p_spell_digits (IntKind.u64.wrap (Int.tdiv n 10)) >>= fun s =>
    some s
   else
    some []
  : Option (Str)) >>= fun s1 =>
  scat s1 (Utf8.encode (IntKind.i32.wrap (IntKind.u64.wrap (48 + (Int.tmod n 10))))).data.toList >>= fun s2 =>
  some s2
 partial_fixpoint
def p_spell_Number (n : Int) (minus : Str) : Option (Str) :=
 if (decide (n < 0)) then
  p_spell_digits (IntKind.u64.wrap (0 - (IntKind.u64.wrap n))) >>= fun x =>
  scat minus x >>= fun s =>
  some s
 else
  p_spell_digits (IntKind.u64.wrap n) >>= fun x1 =>
  some x1
def p_arr_Size_l0 (a : ((List Int)) × Bool × Int) : Option (Except (Int × Int) (Bool)) := match a with
 | (shape, none_, x) =>
  if (decide (x < (List.length shape : Int))) then
   (
    lget shape x >>= fun d =>
    if (decide (d < 0)) then
     some (.error (0, 1))
    else
     if none_ then
      some (.ok true)
     else
      some (.ok (d == 0))
   : Option (Except (Int × Int) (Bool))) >>= fun res => match res with
   | .error r => some (.error r)
   | .ok none_1 =>
    p_arr_Size_l0 (shape, none_1, (w64 (x + 1)))
  else
   some (.ok none_)
 partial_fixpoint
def p_arr_Size_l1 (a : ((List Int)) × Int × Int) : Option (Except (Int × Int) (Int)) := match a with
 | (shape, n, x1) =>
  if (decide (x1 < (List.length shape : Int))) then
   lget shape x1 >>= fun d1 =>
   idiv .i64 16384 n >>= fun q =>
   if (decide (d1 > q)) then
    some (.error (0, 12))
   else
    p_arr_Size_l1 (shape, (w64 (n * d1)), (w64 (x1 + 1)))
  else
   some (.ok n)
 partial_fixpoint
def p_arr_Size (shape : (List Int)) : Option (Int × Int) :=
 if (decide ((List.length shape : Int) > 8)) then
  some (0, 6)
 else
  (
   p_arr_Size_l0 (shape, false, 0)
  : Option (Except (Int × Int) (Bool))) >>= fun res => match res with
  | .error r => some r
  | .ok none_2 =>
   if none_2 then
    some (0, 0)
   else
    (
     p_arr_Size_l1 (shape, 1, 0)
    : Option (Except (Int × Int) (Int))) >>= fun res => match res with
    | .error r => some r
    | .ok n1 =>
     some (n1, 0)
def p_arr_good (n : Int) : Option (Bool) :=
 if (decide (n ≥ 0)) then
  if (decide (n ≤ 1114111)) then
   if (decide (n < 55296)) then
    some true
   else
    some (decide (n > 57343))
  else
   some false
 else
  some false
def p_arr_check_l0 (a : Arr × Int) : Option (Except (Int) (Unit)) := match a with
 | (a_, x) =>
  if (decide (x < (List.length a_.shape : Int))) then
   lget a_.shape x >>= fun d =>
   if (decide (d > 16384)) then
    some (.error 12)
   else
    p_arr_check_l0 (a_, (w64 (x + 1)))
  else
   some (.ok ())
 partial_fixpoint
mutual
def p_arr_check_l1 (a : Arr × Int × Int) : Option (Except (Int) (Unit)) := match a with
 | (a_, deep, x1) =>
  if (decide (x1 < (List.length a_.cells : Int))) then
   (
    lget a_.cells x1 >>= fun y =>
    if (y.kind == 2) then
     if (y.n == 0) then
      if ((List.length y.box : Int) == 1) then
       if (decide (deep ≥ 8)) then
        some (.error 15)
       else
        lget y.box 0 >>= fun y1 =>
        p_arr_check (y1, (w64 (deep + 1))) >>= fun e1 =>
        if (e1 != 0) then
         some (.error e1)
        else
         some (.ok ())
      else
       if (decide ((List.length y.box : Int) > 0)) then
        some (.error 1)
       else
        if (y.kind != 0) then
         if (y.kind != 1) then
          some (.error 1)
         else
          p_arr_good y.n >>= fun x2 =>
          if (!x2) then
           some (.error 1)
          else
           some (.ok ())
        else
         some (.ok ())
     else
      if (decide ((List.length y.box : Int) > 0)) then
       some (.error 1)
      else
       if (y.kind != 0) then
        if (y.kind != 1) then
         some (.error 1)
        else
         p_arr_good y.n >>= fun x3 =>
         if (!x3) then
          some (.error 1)
         else
          some (.ok ())
       else
        some (.ok ())
    else
     if (decide ((List.length y.box : Int) > 0)) then
      some (.error 1)
     else
      if (y.kind != 0) then
       if (y.kind != 1) then
        some (.error 1)
       else
        p_arr_good y.n >>= fun x4 =>
        if (!x4) then
         some (.error 1)
        else
         some (.ok ())
      else
       some (.ok ())
   : Option (Except (Int) (Unit))) >>= fun res => match res with
   | .error r => some (.error r)
   | .ok _ =>
    p_arr_check_l1 (a_, deep, (w64 (x1 + 1)))
  else
   some (.ok ())
 partial_fixpoint
def p_arr_check (a : Arr × Int) : Option (Int) := match a with
 | (a_, deep) =>
  p_arr_Size a_.shape >>= fun (n, e) =>
  if (e != 0) then
   some e
  else
   if (n != (List.length a_.cells : Int)) then
    some 1
   else
    (
     p_arr_check_l0 (a_, 0)
    : Option (Except (Int) (Unit))) >>= fun res => match res with
    | .error r => some r
    | .ok _ =>
     (
      p_arr_check_l1 (a_, deep, 0)
     : Option (Except (Int) (Unit))) >>= fun res => match res with
     | .error r => some r
     | .ok _ =>
      some 0
 partial_fixpoint
end
def p_arr_Check (a_ : Arr) : Option (Int) :=
 p_arr_check (a_, 0) >>= fun x =>
 some x
def p_core_Literal_l0 (a : Arr × Int) : Option (Except (Bool) (Unit)) := match a with
 | (a_, x1) =>
  if (decide (x1 < (List.length a_.cells : Int))) then
   (
    lget a_.cells x1 >>= fun y =>
    if (y.kind == 2) then
     some (.error false)
    else
     lget a_.cells 0 >>= fun y1 =>
     if (y.kind != y1.kind) then
      some (.error false)
     else
      if (y.kind == 1) then
       if (decide (y.n < 32)) then
        some (.error false)
       else
        if (y.n == 127) then
         some (.error false)
        else
         some (.ok ())
      else
       some (.ok ())
   : Option (Except (Bool) (Unit))) >>= fun res => match res with
   | .error r => some (.error r)
   | .ok _ =>
    p_core_Literal_l0 (a_, (w64 (x1 + 1)))
  else
   some (.ok ())
 partial_fixpoint
def p_core_Literal_l1 (a : Arr × Int) : Option (Except (Bool) (Unit)) := match a with
 | (a_, x2) =>
  if (decide (x2 < (List.length a_.cells : Int))) then
   (
    lget a_.cells x2 >>= fun y2 =>
    if (y2.kind == 2) then
     some (.error false)
    else
     lget a_.cells 0 >>= fun y3 =>
     if (y2.kind != y3.kind) then
      some (.error false)
     else
      if (y2.kind == 1) then
       if (decide (y2.n < 32)) then
        some (.error false)
       else
        if (y2.n == 127) then
         some (.error false)
        else
         some (.ok ())
      else
       some (.ok ())
   : Option (Except (Bool) (Unit))) >>= fun res => match res with
   | .error r => some (.error r)
   | .ok _ =>
    p_core_Literal_l1 (a_, (w64 (x2 + 1)))
  else
   some (.ok ())
 partial_fixpoint
def p_core_Literal (a_ : Arr) : Option (Bool) :=
 p_arr_Check a_ >>= fun x =>
 if (x != 0) then
  some false
 else
  if (decide ((List.length a_.shape : Int) > 1)) then
   some false
  else
   if ((List.length a_.shape : Int) == 1) then
    if ((List.length a_.cells : Int) == 1) then
     some false
    else
     (
      p_core_Literal_l0 (a_, 0)
     : Option (Except (Bool) (Unit))) >>= fun res => match res with
     | .error r => some r
     | .ok _ =>
      some true
   else
    (
     p_core_Literal_l1 (a_, 0)
    : Option (Except (Bool) (Unit))) >>= fun res => match res with
    | .error r => some r
    | .ok _ =>
     some true
def p_runes_Good (n : Int) : Option (Bool) :=
 if (decide (n ≥ 0)) then
  if (decide (n ≤ 1114111)) then
   if (decide (n < 55296)) then
    some true
   else
    some (decide (n > 57343))
  else
   some false
 else
  some false
def p_runes_put_full (b : (List Int)) (n : Int) : Option ((List Int)) :=
 if (decide (n < 128)) then
  lapp b [(IntKind.u8.wrap n)] >>= fun l =>
  some l
 else
  if (decide (n < 2048)) then
   lapp b [(IntKind.u8.wrap (w64 ((BitVec.ofInt 64 192 ||| BitVec.ofInt 64 (Int.fdiv n (2 ^ 6))).toNat))), (IntKind.u8.wrap (w64 ((BitVec.ofInt 64 128 ||| BitVec.ofInt 64 (w64 ((BitVec.ofInt 64 n &&& BitVec.ofInt 64 63).toNat))).toNat)))] >>= fun l1 =>
   some l1
  else
   if (decide (n < 65536)) then
    lapp b [(IntKind.u8.wrap (w64 ((BitVec.ofInt 64 224 ||| BitVec.ofInt 64 (Int.fdiv n (2 ^ 12))).toNat))), (IntKind.u8.wrap (w64 ((BitVec.ofInt 64 128 ||| BitVec.ofInt 64 (w64 ((BitVec.ofInt 64 (Int.fdiv n (2 ^ 6)) &&& BitVec.ofInt 64 63).toNat))).toNat))), (IntKind.u8.wrap (w64 ((BitVec.ofInt 64 128 ||| BitVec.ofInt 64 (w64 ((BitVec.ofInt 64 n &&& BitVec.ofInt 64 63).toNat))).toNat)))] >>= fun l2 =>
    some l2
   else
    lapp b [(IntKind.u8.wrap (w64 ((BitVec.ofInt 64 240 ||| BitVec.ofInt 64 (Int.fdiv n (2 ^ 18))).toNat))), (IntKind.u8.wrap (w64 ((BitVec.ofInt 64 128 ||| BitVec.ofInt 64 (w64 ((BitVec.ofInt 64 (Int.fdiv n (2 ^ 12)) &&& BitVec.ofInt 64 63).toNat))).toNat))), (IntKind.u8.wrap (w64 ((BitVec.ofInt 64 128 ||| BitVec.ofInt 64 (w64 ((BitVec.ofInt 64 (Int.fdiv n (2 ^ 6)) &&& BitVec.ofInt 64 63).toNat))).toNat))), (IntKind.u8.wrap (w64 ((BitVec.ofInt 64 128 ||| BitVec.ofInt 64 (w64 ((BitVec.ofInt 64 n &&& BitVec.ofInt 64 63).toNat))).toNat)))] >>= fun l3 =>
    some l3
def p_runes_Write_l0 (a : ((List Int)) × (List Int) × Int) : Option (Except ((List Int) × Int) ((List Int))) := match a with
 | (l, b, x) =>
  if (decide (x < (List.length l : Int))) then
   lget l x >>= fun n =>
   p_runes_Good n >>= fun x1 =>
   if (!x1) then
    some (.error ([], 3))
   else
    lto b (List.length b : Int) >>= fun l1 =>
    p_runes_put_full l1 n >>= fun b1 =>
    p_runes_Write_l0 (l, b1, (w64 (x + 1)))
  else
   some (.ok b)
 partial_fixpoint
def p_runes_Write (l : (List Int)) : Option ((List Int) × Int) :=
 (
  p_runes_Write_l0 (l, [], 0)
 : Option (Except ((List Int) × Int) ((List Int)))) >>= fun res => match res with
 | .error r => some r
 | .ok b2 =>
  some (b2, 0)
def p_spell_sign (s : Str) (g : Grammar) : Option (Str) :=
 (
  if (g.quote == [39]) then
   if (s == [39]) then
    some (.error [39, 39])
   else
    if (!(g.quote == [39])) then
     if (s == [34]) then
      scat [92] s >>= fun s1 =>
      some (.error s1)
     else
      if (s == [92]) then
       scat [92] s >>= fun s2 =>
       some (.error s2)
      else
       some (.ok ())
    else
     some (.ok ())
  else
   if (!(g.quote == [39])) then
    if (s == [34]) then
     scat [92] s >>= fun s3 =>
     some (.error s3)
    else
     if (s == [92]) then
      scat [92] s >>= fun s4 =>
      some (.error s4)
     else
      some (.ok ())
   else
    some (.ok ())
 : Option (Except (Str) (Unit))) >>= fun res => match res with
 | .error r => some r
 | .ok _ =>
  some s
def p_spell_Literal_l0 (a : Arr × Grammar × (List Str) × Int) : Option ((List Str)) := match a with
 | (a_, g, l, x1) =>
  if (decide (x1 < (List.length a_.cells : Int))) then
   lget a_.cells x1 >>= fun y1 =>
   p_spell_Number y1.n g.minus >>= fun x2 =>
   lapp l [x2] >>= fun l1 =>
   p_spell_Literal_l0 (a_, g, l1, (w64 (x1 + 1)))
  else
   some l
 partial_fixpoint
def p_spell_Literal_l1 (a : Arr × Grammar × (List Str) × Int) : Option ((List Str)) := match a with
 | (a_, g, l3, x4) =>
  if (decide (x4 < (List.length a_.cells : Int))) then
   lget a_.cells x4 >>= fun y2 =>
   p_runes_Write [y2.n] >>= fun (b, x5) =>
   p_spell_sign (bstr b) g >>= fun x6 =>
   lapp l3 [x6] >>= fun l4 =>
   p_spell_Literal_l1 (a_, g, l4, (w64 (x4 + 1)))
  else
   some l3
 partial_fixpoint
def p_spell_Literal_l2 (a : Arr × Grammar × (List Str) × Int) : Option ((List Str)) := match a with
 | (a_, g, l6, x8) =>
  if (decide (x8 < (List.length a_.cells : Int))) then
   lget a_.cells x8 >>= fun y3 =>
   p_runes_Write [y3.n] >>= fun (b1, x9) =>
   p_spell_sign (bstr b1) g >>= fun x10 =>
   lapp l6 [x10] >>= fun l7 =>
   p_spell_Literal_l2 (a_, g, l7, (w64 (x8 + 1)))
  else
   some l6
 partial_fixpoint
def p_spell_Literal (a_ : Arr) (g : Grammar) : Option (Str × Int) :=
 p_core_Literal a_ >>= fun x =>
 if (!x) then
  some ([], 1)
 else
  if (decide ((List.length a_.cells : Int) > 0)) then
   lget a_.cells 0 >>= fun y =>
   if (y.kind == 0) then
    (
     p_spell_Literal_l0 (a_, g, [], 0)
    : Option ((List Str))) >>= fun l2 =>
    go_Join l2 [32] >>= fun x3 =>
    some (x3, 0)
   else
    (
     p_spell_Literal_l1 (a_, g, [], 0)
    : Option ((List Str))) >>= fun l5 =>
    go_Join l5 [] >>= fun x7 =>
    scat g.quote x7 >>= fun s =>
    scat s g.quote >>= fun s1 =>
    some (s1, 0)
  else
   (
    p_spell_Literal_l2 (a_, g, [], 0)
   : Option ((List Str))) >>= fun l8 =>
   go_Join l8 [] >>= fun x11 =>
   scat g.quote x11 >>= fun s2 =>
   scat s2 g.quote >>= fun s3 =>
   some (s3, 0)
mutual
def p_spell_writer_expr (a : Node × Spell_writer) : Option ((List Str) × Int × Bool) := match a with
 | (n, w) =>
  if (n.kind == 5) then
   p_spell_writer_fits n 2 w >>= fun (x, nodes, bad) =>
   if x then
    lget n.kids 0 >>= fun y =>
    p_spell_writer_call (y, (Spell_writer.mk w.g w.out w.right nodes bad)) >>= fun (out, nodes1, bad1) =>
    lget n.kids 1 >>= fun y1 =>
    p_spell_writer_expr (y1, (Spell_writer.mk w.g out w.right nodes1 bad1)) >>= fun (out1, nodes2, bad2) =>
    some (out1, nodes2, bad2)
   else
    some (w.out, nodes, bad)
  else
   if (n.kind == 6) then
    p_spell_writer_fits n 3 w >>= fun (x1, nodes3, bad3) =>
    if x1 then
     lget n.kids 1 >>= fun y2 =>
     p_spell_writer_operand (y2, (Spell_writer.mk w.g w.out w.right nodes3 bad3)) >>= fun (out2, nodes4, bad4) =>
     lget n.kids 0 >>= fun y3 =>
     p_spell_writer_applied (y3, (Spell_writer.mk w.g out2 w.right nodes4 bad4)) >>= fun (out3, nodes5, bad5) =>
     lget n.kids 2 >>= fun y4 =>
     p_spell_writer_expr (y4, (Spell_writer.mk w.g out3 w.right nodes5 bad5)) >>= fun (out4, nodes6, bad6) =>
     some (out4, nodes6, bad6)
    else
     some (w.out, nodes3, bad3)
   else
    p_spell_writer_operand (n, w) >>= fun (out5, nodes7, bad7) =>
    some (out5, nodes7, bad7)
 partial_fixpoint
def p_spell_writer_call (a : Node × Spell_writer) : Option ((List Str) × Int × Bool) := match a with
 | (f, w) =>
  if w.g.lone then
   if (f.kind == 26) then
    p_spell_writer_fits f 1 w >>= fun (x, nodes, bad) =>
    (
     if x then
      p_spell_Number f.op_ w.g.minus >>= fun x1 =>
      p_spell_writer_words [x1] (Spell_writer.mk w.g w.out w.right nodes bad) >>= fun out =>
      lget f.kids 0 >>= fun y =>
      p_spell_writer_function (y, (Spell_writer.mk w.g out w.right nodes bad)) >>= fun (out1, nodes1, bad1) =>
      p_spell_writer_glue [[47]] (Spell_writer.mk w.g out1 w.right nodes1 bad1) >>= fun out2 =>
      some (out2, nodes1, bad1)
     else
      some (w.out, nodes, bad)
    : Option ((List Str) × Int × Bool)) >>= fun (x14, x16, x17) =>
    some (x14, x16, x17)
   else
    p_spell_writer_applied (f, w) >>= fun (out3, nodes2, bad2) =>
    some (out3, nodes2, bad2)
  else
   p_spell_writer_applied (f, w) >>= fun (out4, nodes3, bad3) =>
   some (out4, nodes3, bad3)
 partial_fixpoint
def p_spell_writer_operand (a : Node × Spell_writer) : Option ((List Str) × Int × Bool) := match a with
 | (n, w) =>
  if (n.kind == 1) then
   p_spell_Literal n.lit w.g >>= fun (s, e) =>
   if w.bad then
    p_spell_writer_fits n 0 (Spell_writer.mk w.g w.out w.right w.nodes true) >>= fun (x, nodes, bad) =>
    p_spell_writer_words [s] (Spell_writer.mk w.g w.out w.right nodes bad) >>= fun out =>
    some (out, nodes, bad)
   else
    p_spell_writer_fits n 0 (Spell_writer.mk w.g w.out w.right w.nodes (e != 0)) >>= fun (x1, nodes1, bad1) =>
    p_spell_writer_words [s] (Spell_writer.mk w.g w.out w.right nodes1 bad1) >>= fun out1 =>
    some (out1, nodes1, bad1)
  else
   if (n.kind == 2) then
    p_spell_writer_fits n 0 w >>= fun (x2, nodes2, bad2) =>
    p_spell_writer_words [n.name] (Spell_writer.mk w.g w.out w.right nodes2 bad2) >>= fun out2 =>
    some (out2, nodes2, bad2)
   else
    if (n.kind == 3) then
     p_spell_writer_fits n 0 w >>= fun (x3, nodes3, bad3) =>
     p_spell_writer_words [w.g.left] (Spell_writer.mk w.g w.out w.right nodes3 bad3) >>= fun out3 =>
     some (out3, nodes3, bad3)
    else
     if (n.kind == 4) then
      p_spell_writer_fits n 0 w >>= fun (x4, nodes4, bad4) =>
      p_spell_writer_words [w.right] (Spell_writer.mk w.g w.out w.right nodes4 bad4) >>= fun out4 =>
      some (out4, nodes4, bad4)
     else
      if (n.kind == 8) then
       p_spell_writer_fits n 2 w >>= fun (x5, nodes5, bad5) =>
       if x5 then
        lget n.kids 0 >>= fun y =>
        p_spell_writer_operand (y, (Spell_writer.mk w.g w.out w.right nodes5 bad5)) >>= fun (out5, nodes6, bad6) =>
        p_spell_writer_words [[91]] (Spell_writer.mk w.g out5 w.right nodes6 bad6) >>= fun out6 =>
        lget n.kids 1 >>= fun y1 =>
        p_spell_writer_expr (y1, (Spell_writer.mk w.g out6 w.right nodes6 bad6)) >>= fun (out7, nodes7, bad7) =>
        p_spell_writer_words [[93]] (Spell_writer.mk w.g out7 w.right nodes7 bad7) >>= fun out8 =>
        some (out8, nodes7, bad7)
       else
        some (w.out, nodes5, bad5)
      else
       (
        if (n.kind == 5) then
         some (n.kind == 5)
        else
         some (n.kind == 6)
       : Option (Bool)) >>= fun x6 =>
       if x6 then
        p_spell_writer_words [[40]] w >>= fun out9 =>
        p_spell_writer_expr (n, (Spell_writer.mk w.g out9 w.right w.nodes w.bad)) >>= fun (out10, nodes8, bad8) =>
        p_spell_writer_words [[41]] (Spell_writer.mk w.g out10 w.right nodes8 bad8) >>= fun out11 =>
        some (out11, nodes8, bad8)
       else
        some (w.out, w.nodes, true)
 partial_fixpoint
def p_spell_writer_applied (a : Node × Spell_writer) : Option ((List Str) × Int × Bool) := match a with
 | (f, w) =>
  if (f.kind == 26) then
   p_spell_writer_words [[40]] w >>= fun out =>
   p_spell_writer_function (f, (Spell_writer.mk w.g out w.right w.nodes w.bad)) >>= fun (out1, nodes, bad) =>
   p_spell_writer_words [[41]] (Spell_writer.mk w.g out1 w.right nodes bad) >>= fun out2 =>
   some (out2, nodes, bad)
  else
   p_spell_writer_function (f, w) >>= fun (out3, nodes1, bad1) =>
   some (out3, nodes1, bad1)
 partial_fixpoint
def p_spell_writer_function_l0 (a : Node × Spell_writer × Int × (List Str) × Int × Bool) : Option ((List Str) × Int × Bool) := match a with
 | (f, w, x5, w14, w16, w17) =>
  if (decide (x5 < (List.length f.kids : Int))) then
   lget f.kids x5 >>= fun y4 =>
   p_spell_writer_function (y4, (Spell_writer.mk w.g w14 w.right w16 w17)) >>= fun (out11, nodes6, bad6) =>
   p_spell_writer_function_l0 (f, w, (w64 (x5 + 1)), out11, nodes6, bad6)
  else
   some (w14, w16, w17)
 partial_fixpoint
def p_spell_writer_function (a : Node × Spell_writer) : Option ((List Str) × Int × Bool) := match a with
 | (f, w) =>
  p_spell_writer_fits f (mget [(22, 1), (23, 1), (24, 1), (25, 1), (26, 1), (27, 3), (28, 2)] f.kind 0) w >>= fun (x, nodes, bad) =>
  if (!x) then
   some (w.out, nodes, bad)
  else
   if (f.kind == 21) then
    p_spell_writer_words [f.name] (Spell_writer.mk w.g w.out w.right nodes bad) >>= fun out =>
    some (out, nodes, bad)
   else
    (
     if (f.kind == 22) then
      some (f.kind == 22)
     else
      some (f.kind == 23)
    : Option (Bool)) >>= fun x1 =>
    if x1 then
     p_spell_writer_lambda (f, (Spell_writer.mk w.g w.out w.right nodes bad)) >>= fun (out1, nodes1, bad1) =>
     some (out1, nodes1, bad1)
    else
     if (f.kind == 24) then
      lget f.kids 0 >>= fun y =>
      p_spell_writer_function (y, (Spell_writer.mk w.g w.out w.right nodes bad)) >>= fun (out2, nodes2, bad2) =>
      p_spell_writer_glue [f.name] (Spell_writer.mk w.g out2 w.right nodes2 bad2) >>= fun out3 =>
      some (out3, nodes2, bad2)
     else
      if (f.kind == 26) then
       if bad then
        lget f.kids 0 >>= fun y1 =>
        p_spell_writer_function (y1, (Spell_writer.mk w.g w.out w.right nodes true)) >>= fun (out4, nodes3, bad3) =>
        p_spell_Number f.op_ w.g.minus >>= fun x2 =>
        p_spell_writer_glue [w.g.power, x2] (Spell_writer.mk w.g out4 w.right nodes3 bad3) >>= fun out5 =>
        some (out5, nodes3, bad3)
       else
        lget f.kids 0 >>= fun y2 =>
        p_spell_writer_function (y2, (Spell_writer.mk w.g w.out w.right nodes (decide (f.op_ < 0)))) >>= fun (out6, nodes4, bad4) =>
        p_spell_Number f.op_ w.g.minus >>= fun x3 =>
        p_spell_writer_glue [w.g.power, x3] (Spell_writer.mk w.g out6 w.right nodes4 bad4) >>= fun out7 =>
        some (out7, nodes4, bad4)
      else
       if (f.kind == 25) then
        p_spell_writer_words [w.g.outer] (Spell_writer.mk w.g w.out w.right nodes bad) >>= fun out8 =>
        lget f.kids 0 >>= fun y3 =>
        p_spell_writer_base (y3, (Spell_writer.mk w.g out8 w.right nodes bad)) >>= fun (out9, nodes5, bad5) =>
        some (out9, nodes5, bad5)
       else
        (
         if (f.kind == 27) then
          some (f.kind == 27)
         else
          some (f.kind == 28)
        : Option (Bool)) >>= fun x4 =>
        if x4 then
         p_spell_writer_words [[40]] (Spell_writer.mk w.g w.out w.right nodes bad) >>= fun out10 =>
         (
          p_spell_writer_function_l0 (f, w, 0, out10, nodes, bad)
         : Option ((List Str) × Int × Bool)) >>= fun (w141, w161, w171) =>
         p_spell_writer_words [[41]] (Spell_writer.mk w.g w141 w.right w161 w171) >>= fun out12 =>
         some (out12, w161, w171)
        else
         some (w.out, nodes, true)
 partial_fixpoint
def p_spell_writer_lambda (a : Node × Spell_writer) : Option ((List Str) × Int × Bool) := match a with
 | (n, w) =>
  if w.g.lone then
   (
    if (n.kind == 22) then
     some w.g.left
    else
     some w.g.right
   : Option (Str)) >>= fun x15 =>
   p_spell_writer_words [w.g.open_] (Spell_writer.mk w.g w.out x15 w.nodes w.bad) >>= fun out =>
   lget n.kids 0 >>= fun y =>
   p_spell_writer_expr (y, (Spell_writer.mk w.g out x15 w.nodes w.bad)) >>= fun (out1, nodes, bad) =>
   p_spell_writer_words [w.g.close] (Spell_writer.mk w.g out1 x15 nodes bad) >>= fun out2 =>
   some (out2, nodes, bad)
  else
   p_spell_writer_words [w.g.open_] (Spell_writer.mk w.g w.out w.g.right w.nodes w.bad) >>= fun out3 =>
   lget n.kids 0 >>= fun y1 =>
   p_spell_writer_expr (y1, (Spell_writer.mk w.g out3 w.g.right w.nodes w.bad)) >>= fun (out4, nodes1, bad1) =>
   p_spell_writer_words [w.g.close] (Spell_writer.mk w.g out4 w.g.right nodes1 bad1) >>= fun out5 =>
   some (out5, nodes1, bad1)
 partial_fixpoint
def p_spell_writer_base (a : Node × Spell_writer) : Option ((List Str) × Int × Bool) := match a with
 | (f, w) =>
  (
   if (f.kind == 21) then
    some (f.kind == 21)
   else
    if (f.kind == 22) then
     some (f.kind == 22)
    else
     if (f.kind == 23) then
      some (f.kind == 23)
     else
      if (f.kind == 27) then
       some (f.kind == 27)
      else
       some (f.kind == 28)
  : Option (Bool)) >>= fun x =>
  if x then
   p_spell_writer_function (f, w) >>= fun (out, nodes, bad) =>
   some (out, nodes, bad)
  else
   p_spell_writer_words [[40]] w >>= fun out1 =>
   p_spell_writer_function (f, (Spell_writer.mk w.g out1 w.right w.nodes w.bad)) >>= fun (out2, nodes1, bad1) =>
   p_spell_writer_words [[41]] (Spell_writer.mk w.g out2 w.right nodes1 bad1) >>= fun out3 =>
   some (out3, nodes1, bad1)
 partial_fixpoint
end
def p_arr_order_int (a_ : Int) (b : Int) : Option (Int) :=
 if (decide (a_ < b)) then
  some (-1)
 else
  if (decide (a_ > b)) then
   some 1
  else
   some 0
def p_arr_Cmp_2 (i : Int) (a_ : Arr) (a_1 : Arr) : Option (Int) :=
 lget a_.shape i >>= fun y =>
 lget a_1.shape i >>= fun y1 =>
 p_arr_order_int y y1 >>= fun x =>
 some x
def p_arr_Cmp_1__arr_Cmp_2_l0 (a : Int × Arr × Arr × Int) : Option (Except (Int) (Unit)) := match a with
 | (n, b, b1, x) =>
  if (decide (x < n)) then
   p_arr_Cmp_2 x b b1 >>= fun o =>
   if (o != 0) then
    some (.error o)
   else
    p_arr_Cmp_1__arr_Cmp_2_l0 (n, b, b1, (w64 (x + 1)))
  else
   some (.ok ())
 partial_fixpoint
def p_arr_Cmp_1__arr_Cmp_2 (n : Int) (b : Arr) (b1 : Arr) : Option (Int) :=
 (
  p_arr_Cmp_1__arr_Cmp_2_l0 (n, b, b1, 0)
 : Option (Except (Int) (Unit))) >>= fun res => match res with
 | .error r => some r
 | .ok _ =>
  some 0
def p_arr_order_int64 (a_ : Int) (b : Int) : Option (Int) :=
 if (decide (a_ < b)) then
  some (-1)
 else
  if (decide (a_ > b)) then
   some 1
  else
   some 0
mutual
def p_arr_Cmp (a : Arr × Arr) : Option (Int) := match a with
 | (a_, b) =>
  p_arr_order_int (List.length a_.shape : Int) (List.length b.shape : Int) >>= fun o =>
  if (o != 0) then
   some o
  else
   p_arr_Cmp_1__arr_Cmp_2 (List.length a_.shape : Int) a_ b >>= fun o1 =>
   if (o1 != 0) then
    some o1
   else
    p_arr_Cmp_1__arr_Cmp_3 ((if (List.length b.cells : Int) < (List.length a_.cells : Int) then (List.length b.cells : Int) else (List.length a_.cells : Int)), a_, b) >>= fun o2 =>
    if (o2 != 0) then
     some o2
    else
     p_arr_order_int (List.length a_.cells : Int) (List.length b.cells : Int) >>= fun x =>
     some x
 partial_fixpoint
def p_arr_Cmp_1__arr_Cmp_3_l0 (a : Int × Arr × Arr × Int) : Option (Except (Int) (Unit)) := match a with
 | (n, b, b1, x) =>
  if (decide (x < n)) then
   p_arr_Cmp_3 (x, b, b1) >>= fun o =>
   if (o != 0) then
    some (.error o)
   else
    p_arr_Cmp_1__arr_Cmp_3_l0 (n, b, b1, (w64 (x + 1)))
  else
   some (.ok ())
 partial_fixpoint
def p_arr_Cmp_1__arr_Cmp_3 (a : Int × Arr × Arr) : Option (Int) := match a with
 | (n, b, b1) =>
  (
   p_arr_Cmp_1__arr_Cmp_3_l0 (n, b, b1, 0)
  : Option (Except (Int) (Unit))) >>= fun res => match res with
  | .error r => some r
  | .ok _ =>
   some 0
 partial_fixpoint
def p_arr_Cmp_3 (a : Int × Arr × Arr) : Option (Int) := match a with
 | (i, a_, a_1) =>
  lget a_.cells i >>= fun y =>
  lget a_1.cells i >>= fun y1 =>
  p_arr_Cell (y, y1) >>= fun x =>
  some x
 partial_fixpoint
def p_arr_Cell (a : Cell × Cell) : Option (Int) := match a with
 | (a_, b) =>
  p_arr_order_int a_.kind b.kind >>= fun o =>
  if (o != 0) then
   some o
  else
   p_arr_order_int64 a_.n b.n >>= fun o1 =>
   if (o1 != 0) then
    if (o1 == 0) then
     p_arr_order_int (List.length a_.box : Int) (List.length b.box : Int) >>= fun x =>
     some x
    else
     some o1
   else
    if ((List.length a_.box : Int) == 0) then
     if (o1 == 0) then
      p_arr_order_int (List.length a_.box : Int) (List.length b.box : Int) >>= fun x1 =>
      some x1
     else
      some o1
    else
     if ((List.length b.box : Int) == 0) then
      if (o1 == 0) then
       p_arr_order_int (List.length a_.box : Int) (List.length b.box : Int) >>= fun x2 =>
       some x2
      else
       some o1
     else
      lget a_.box 0 >>= fun y =>
      lget b.box 0 >>= fun y1 =>
      p_arr_Cmp (y, y1) >>= fun x3 =>
      some x3
 partial_fixpoint
end
def p_stringslite_HasPrefix (s : Str) (prefix_ : Str) : Option (Bool) :=
 if (decide ((List.length s : Int) ≥ (List.length prefix_ : Int))) then
  sto s (List.length prefix_ : Int) >>= fun s1 =>
  some (s1 == prefix_)
 else
  some false
def p_stringslite_CutPrefix (s : Str) (prefix_ : Str) : Option (Str × Bool) :=
 p_stringslite_HasPrefix s prefix_ >>= fun x =>
 if (!x) then
  some (s, false)
 else
  sfrom s (List.length prefix_ : Int) >>= fun after =>
  some (after, true)
def p_strings_CutPrefix (s : Str) (prefix_ : Str) : Option (Str × Bool) :=
 p_stringslite_CutPrefix s prefix_ >>= fun (after, found) =>
 some (after, found)
def p_alex_digit (c : Int) : Option (Bool) :=
 if (decide (c ≥ 48)) then
  some (decide (c ≤ 57))
 else
  some false
def p_alex_lexer_fail (e : Int) (at_ : Int) (b : Str) (at_1 : Int) (err : Int) (at_2 : Int) (why : Int) : Option (Int × Int × Int) :=
 if (err == 0) then
  some ((Fault.mk e at_ 0).err, (Fault.mk e at_ 0).at_, (Fault.mk e at_ 0).why)
 else
  some (err, at_2, why)
def p_alex_lexer_one_l0 (a : Str × Int × Bool × Int) : Option (Int × Bool × Int) := match a with
 | (rest, n, over, k) =>
  if (decide (k < (List.length rest : Int))) then
   sget rest k >>= fun c =>
   p_alex_digit c >>= fun x =>
   if x then
    sget rest k >>= fun c1 =>
    if over then
     p_alex_lexer_one_l0 (rest, (IntKind.u64.wrap ((IntKind.u64.wrap (n * 10)) + (IntKind.u64.wrap (IntKind.u8.wrap (c1 - 48))))), true, (w64 (k + 1)))
    else
     p_alex_lexer_one_l0 (rest, (IntKind.u64.wrap ((IntKind.u64.wrap (n * 10)) + (IntKind.u64.wrap (IntKind.u8.wrap (c1 - 48))))), (decide (n > (IntKind.u64.wrap (Int.tdiv (IntKind.u64.wrap (9223372036854775808 - (IntKind.u64.wrap (IntKind.u8.wrap (c1 - 48))))) 10)))), (w64 (k + 1)))
   else
    some (n, over, k)
  else
   some (n, over, k)
 partial_fixpoint
def p_alex_lexer_one (b : Str) (at_ : Int) (err : Int) (at_1 : Int) (why : Int) : Option (Int × Int × Int × Int × Int) :=
 sfrom b at_ >>= fun s =>
 p_strings_CutPrefix s [194, 175] >>= fun (rest, below) =>
 (
  if below then
   some (w64 (at_ + 2))
  else
   some at_
 : Option (Int)) >>= fun x1 =>
 (
  p_alex_lexer_one_l0 (rest, 0, false, 0)
 : Option (Int × Bool × Int)) >>= fun (n1, over1, k1) =>
 (
  if over1 then
   p_alex_lexer_fail 2 at_ b (w64 (x1 + k1)) err at_1 why >>= fun (err1, at_2, why1) =>
   some (.error (0, (w64 (x1 + k1)), err1, at_2, why1))
  else
   if (!below) then
    if (n1 == 9223372036854775808) then
     p_alex_lexer_fail 2 at_ b (w64 (x1 + k1)) err at_1 why >>= fun (err2, at_3, why2) =>
     some (.error (0, (w64 (x1 + k1)), err2, at_3, why2))
    else
     if below then
      some (.error ((w64 (IntKind.u64.wrap (0 - n1))), (w64 (x1 + k1)), err, at_1, why))
     else
      some (.ok ())
   else
    if below then
     some (.error ((w64 (IntKind.u64.wrap (0 - n1))), (w64 (x1 + k1)), err, at_1, why))
    else
     some (.ok ())
 : Option (Except (Int × Int × Int × Int × Int) (Unit))) >>= fun res => match res with
 | .error r => some r
 | .ok _ =>
  some ((w64 n1), (w64 (x1 + k1)), err, at_1, why)
def p_slices_Index_string_l0 (a : ((List Str)) × Str × Int) : Option (Except (Int) (Unit)) := match a with
 | (s, v, x) =>
  if (decide (x < (List.length s : Int))) then
   lget s x >>= fun y =>
   if (v == y) then
    some (.error x)
   else
    p_slices_Index_string_l0 (s, v, (w64 (x + 1)))
  else
   some (.ok ())
 partial_fixpoint
def p_slices_Index_string (s : (List Str)) (v : Str) : Option (Int) :=
 (
  p_slices_Index_string_l0 (s, v, 0)
 : Option (Except (Int) (Unit))) >>= fun res => match res with
 | .error r => some r
 | .ok _ =>
  some (-1)
def p_slices_Contains_string (s : (List Str)) (v : Str) : Option (Bool) :=
 p_slices_Index_string s v >>= fun x =>
 some (decide (x ≥ 0))
mutual
def p_grammar_uses (a : Node × Int) : Option (Bool) := match a with
 | (n, kind) =>
  if (n.kind == 22) then
   some false
  else
   if (n.kind == 23) then
    some false
   else
    if (n.kind == kind) then
     some true
    else
     p_slices_ContainsFunc_Node__grammar_uses_1 (n.kids, kind) >>= fun x =>
     some x
 partial_fixpoint
def p_slices_ContainsFunc_Node__grammar_uses_1 (a : (List Node) × Int) : Option (Bool) := match a with
 | (s, b) =>
  p_slices_IndexFunc_Node__grammar_uses_1 (s, b) >>= fun x =>
  some (decide (x ≥ 0))
 partial_fixpoint
def p_grammar_uses_1 (a : Node × Int) : Option (Bool) := match a with
 | (k, a_) =>
  p_grammar_uses (k, a_) >>= fun x =>
  some x
 partial_fixpoint
def p_slices_IndexFunc_Node__grammar_uses_1_l0 (a : ((List Node)) × Int × Int) : Option (Except (Int) (Unit)) := match a with
 | (s, b, x) =>
  if (decide (x < (List.length s : Int))) then
   lget s x >>= fun y =>
   p_grammar_uses_1 (y, b) >>= fun x1 =>
   if x1 then
    some (.error x)
   else
    p_slices_IndexFunc_Node__grammar_uses_1_l0 (s, b, (w64 (x + 1)))
  else
   some (.ok ())
 partial_fixpoint
def p_slices_IndexFunc_Node__grammar_uses_1 (a : (List Node) × Int) : Option (Int) := match a with
 | (s, b) =>
  (
   p_slices_IndexFunc_Node__grammar_uses_1_l0 (s, b, 0)
  : Option (Except (Int) (Unit))) >>= fun res => match res with
  | .error r => some r
  | .ok _ =>
   some (-1)
 partial_fixpoint
end
mutual
def p_grammar_righted_l0 (a : Node × Int × (List Node)) : Option ((List Node)) := match a with
 | (n, x, n5) =>
  if (decide (x < (List.length n.kids : Int))) then
   lget n.kids x >>= fun y =>
   p_grammar_righted y >>= fun x1 =>
   lapp n5 [x1] >>= fun l =>
   p_grammar_righted_l0 (n, (w64 (x + 1)), l)
  else
   some n5
 partial_fixpoint
def p_grammar_righted (a : Node) : Option (Node) := match a with
 | n =>
  (
   if (n.kind == 3) then
    some 4
   else
    some n.kind
  : Option (Int)) >>= fun x0 =>
  if (x0 == 22) then
   some (Node.mk x0 n.op_ n.name n.lit n.kids n.at_)
  else
   if (x0 == 23) then
    some (Node.mk x0 n.op_ n.name n.lit n.kids n.at_)
   else
    (
     p_grammar_righted_l0 (n, 0, [])
    : Option ((List Node))) >>= fun n51 =>
    some (Node.mk x0 n.op_ n.name n.lit n51 n.at_)
 partial_fixpoint
end
def p_grammar_parser_fail (e : Int) (i : Int) (p : Grammar_parser) : Option (Except (Fault) (Unit)) :=
 (
  if (decide (i < (List.length p.l : Int))) then
   lget p.l i >>= fun y =>
   some y.at_
  else
   some p.end_
 : Option (Int)) >>= fun at_ =>
 some (.error (Fault.mk e at_ 0))
def p_grammar_parser_down (p : Grammar_parser) : Option (Except (Fault × Int) (Int)) :=
 if (decide ((w64 (p.deep + 1)) > 24)) then
  p_grammar_parser_fail 15 p.i (Grammar_parser.mk p.g p.l p.i p.end_ (w64 (p.deep + 1)) p.in_) >>= fun res => match res with
  | .error e =>
    some (.error (e, (w64 (p.deep + 1))))
  | .ok _ =>
   some (.ok (w64 (p.deep + 1)))
 else
  some (.ok (w64 (p.deep + 1)))
def p_grammar_parser_expr_1 (b : Grammar_parser) : Option (Int) :=
 some (w64 (b.deep - 1))
def p_grammar_parser_here (p : Grammar_parser) : Option (Int) :=
 if (decide (p.i < (List.length p.l : Int))) then
  lget p.l p.i >>= fun y =>
  some y.at_
 else
  some p.end_
def p_grammar_parser_is (i : Int) (kind : Int) (text : Str) (p : Grammar_parser) : Option (Bool) :=
 if (decide (i < (List.length p.l : Int))) then
  lget p.l i >>= fun y =>
  if (y.kind == kind) then
   lget p.l i >>= fun y1 =>
   if (y1.text == text) then
    some (!(text == []))
   else
    some false
  else
   some false
 else
  some false
def p_grammar_parser_sign (i : Int) (l : (List Str)) (p : Grammar_parser) : Option (Bool) :=
 if (decide (i < (List.length p.l : Int))) then
  lget p.l i >>= fun y =>
  if (y.kind == 4) then
   lget p.l i >>= fun y1 =>
   p_slices_Contains_string l y1.text >>= fun x =>
   some x
  else
   some false
 else
  some false
def p_grammar_parser_shut_l0 (a : Grammar_parser × Int × Int) : Option (Except (Int) (Unit)) := match a with
 | (p, n, k) =>
  if (decide (k < (List.length p.l : Int))) then
   (
    lget p.l k >>= fun y =>
    if (y.kind == 5) then
     some (.ok (w64 (n + 1)))
    else
     if (y.kind == 6) then
      if ((w64 (n - 1)) == 0) then
       some (.error k)
      else
       some (.ok (w64 (n - 1)))
     else
      some (.ok n)
   : Option (Except (Int) (Int))) >>= fun res => match res with
   | .error r => some (.error r)
   | .ok n1 =>
    p_grammar_parser_shut_l0 (p, n1, (w64 (k + 1)))
  else
   some (.ok ())
 partial_fixpoint
def p_grammar_parser_shut (i : Int) (p : Grammar_parser) : Option (Int) :=
 (
  p_grammar_parser_shut_l0 (p, 0, i)
 : Option (Except (Int) (Unit))) >>= fun res => match res with
 | .error r => some r
 | .ok _ =>
  some (-1)
def p_grammar_times (a_ : Arr) : Option (Int × Bool) :=
 if (decide ((List.length a_.shape : Int) > 0)) then
  some (0, false)
 else
  if ((List.length a_.cells : Int) != 1) then
   some (0, false)
  else
   lget a_.cells 0 >>= fun y =>
   if (y.kind != 0) then
    some (0, false)
   else
    lget a_.cells 0 >>= fun y1 =>
    if (decide (y1.n < 0)) then
     some (0, false)
    else
     lget a_.cells 0 >>= fun y2 =>
     if (decide (y2.n > 4096)) then
      some (0, false)
     else
      lget a_.cells 0 >>= fun y3 =>
      some (y3.n, true)
def p_grammar_parser_power (i : Int) (p : Grammar_parser) : Option (Int × Bool) :=
 p_grammar_parser_is i 4 p.g.power p >>= fun x =>
 if (!x) then
  some (0, false)
 else
  if (decide ((w64 (i + 1)) ≥ (List.length p.l : Int))) then
   some (0, false)
  else
   lget p.l (w64 (i + 1)) >>= fun y =>
   if (y.kind != 1) then
    some (0, false)
   else
    lget p.l (w64 (i + 1)) >>= fun y1 =>
    p_grammar_times y1.lit >>= fun (x1, x2) =>
    some (x1, x2)
def p_grammar_parser_skip_l0 (a : Grammar_parser × Int) : Option (Except (Int) (Unit)) := match a with
 | (p, i7) =>
  p_grammar_parser_sign i7 p.g.adverbs p >>= fun x7 =>
  if x7 then
   p_grammar_parser_skip_l0 (p, (w64 (i7 + 1)))
  else
   p_grammar_parser_power i7 p >>= fun (x8, ok) =>
   if ok then
    p_grammar_parser_skip_l0 (p, (w64 (i7 + 2)))
   else
    some (.error i7)
 partial_fixpoint
mutual
def p_grammar_parser_skip (a : Int × Bool × Grammar_parser) : Option (Int) := match a with
 | (i, behind, p) =>
  p_grammar_parser_is i 4 p.g.outer p >>= fun x =>
  (
   if x then
    some ((w64 (i + 1)), false)
   else
    some (i, behind)
  : Option (Int × Bool)) >>= fun (i1, behind1) =>
  (
   p_grammar_parser_sign i1 p.g.verbs p >>= fun x1 =>
   if x1 then
    some (.ok (w64 (i1 + 1)))
   else
    if behind1 then
     p_grammar_parser_sign i1 p.g.behind p >>= fun x2 =>
     if x2 then
      some (.ok (w64 (i1 + 1)))
     else
      p_grammar_parser_is i1 5 p.g.open_ p >>= fun x3 =>
      if x3 then
       p_grammar_parser_shut i1 p >>= fun i2 =>
       if (decide (i2 < 0)) then
        some (.error (-1))
       else
        some (.ok (w64 (i2 + 1)))
      else
       p_grammar_parser_is i1 5 [40] p >>= fun x4 =>
       if x4 then
        p_grammar_parser_group (i1, behind1, p) >>= fun i3 =>
        if (decide (i3 < 0)) then
         some (.error (-1))
        else
         some (.ok i3)
       else
        some (.error (-1))
    else
     p_grammar_parser_is i1 5 p.g.open_ p >>= fun x5 =>
     if x5 then
      p_grammar_parser_shut i1 p >>= fun i4 =>
      if (decide (i4 < 0)) then
       some (.error (-1))
      else
       some (.ok (w64 (i4 + 1)))
     else
      p_grammar_parser_is i1 5 [40] p >>= fun x6 =>
      if x6 then
       p_grammar_parser_group (i1, behind1, p) >>= fun i5 =>
       if (decide (i5 < 0)) then
        some (.error (-1))
       else
        some (.ok i5)
      else
       some (.error (-1))
  : Option (Except (Int) (Int))) >>= fun res => match res with
  | .error r => some r
  | .ok i6 =>
   p_grammar_parser_skip_l0 (p, i6) >>= fun res => match res with
   | .error r => some r
   | .ok _ => none
 partial_fixpoint
def p_grammar_parser_group_l0 (a : Bool × Grammar_parser × Int × Int) : Option (Except (Int) (Int × Int)) := match a with
 | (behind, p, i1, n) =>
  p_grammar_parser_is i1 6 [41] p >>= fun x =>
  if (!x) then
   p_grammar_parser_skip (i1, behind, p) >>= fun i2 =>
   if (decide (i2 < 0)) then
    some (.error (-1))
   else
    p_grammar_parser_group_l0 (behind, p, i2, (w64 (n + 1)))
  else
   some (.ok (i1, n))
 partial_fixpoint
def p_grammar_parser_group (a : Int × Bool × Grammar_parser) : Option (Int) := match a with
 | (i, behind, p) =>
  (
   p_grammar_parser_group_l0 (behind, p, (w64 (i + 1)), 0)
  : Option (Except (Int) (Int × Int))) >>= fun res => match res with
  | .error r => some r
  | .ok (i3, n1) =>
   if (n1 == 1) then
    some (w64 (i3 + 1))
   else
    if p.g.trains then
     if (n1 == 2) then
      some (w64 (i3 + 1))
     else
      if (n1 == 3) then
       some (w64 (i3 + 1))
      else
       some (-1)
    else
     some (-1)
 partial_fixpoint
end
def p_grammar_parser_function_1 (b : Grammar_parser) : Option (Int) :=
 some (w64 (b.deep - 1))
def p_core_Name_l0 (a : Str × Int) : Option (Except (Bool) (Unit)) := match a with
 | (s, x) =>
  if (decide (x < (List.length s : Int))) then
   (
    sget s x >>= fun c =>
    if (decide (c ≥ 97)) then
     sget s x >>= fun c1 =>
     if (!(decide (c1 ≤ 119))) then
      if (x == 0) then
       some (.error false)
      else
       sget s x >>= fun c2 =>
       if (decide (c2 < 48)) then
        some (.error false)
       else
        sget s x >>= fun c3 =>
        if (decide (c3 > 57)) then
         some (.error false)
        else
         some (.ok ())
     else
      some (.ok ())
    else
     if (x == 0) then
      some (.error false)
     else
      sget s x >>= fun c4 =>
      if (decide (c4 < 48)) then
       some (.error false)
      else
       sget s x >>= fun c5 =>
       if (decide (c5 > 57)) then
        some (.error false)
       else
        some (.ok ())
   : Option (Except (Bool) (Unit))) >>= fun res => match res with
   | .error r => some (.error r)
   | .ok _ =>
    p_core_Name_l0 (s, (w64 (x + 1)))
  else
   some (.ok ())
 partial_fixpoint
def p_core_Name (s : Str) : Option (Bool) :=
 (
  p_core_Name_l0 (s, 0)
 : Option (Except (Bool) (Unit))) >>= fun res => match res with
 | .error r => some r
 | .ok _ =>
  if (decide ((List.length s : Int) > 0)) then
   some (decide ((List.length s : Int) ≤ 8))
  else
   some false
def p_grammar_parser_take (kind : Int) (text : Str) (p : Grammar_parser) : Option (Except (Fault) (Int)) :=
 p_grammar_parser_is p.i kind text p >>= fun x =>
 (
  if (!x) then
   p_grammar_parser_fail 2 p.i p >>= fun res => match res with
   | .error e =>
     some (.error (.error e))
   | .ok _ =>
    some (.ok ())
  else
   some (.ok ())
 : Option (Except (Except (Fault) (Int)) (Unit))) >>= fun res => match res with
 | .error r => some r
 | .ok _ =>
  some (.ok (w64 (p.i + 1)))
def p_grammar_parser_function_l0 (a : Grammar_parser × Int × Int × Int × Int × Int × Str × (List Int) × (List Cell) × (List Node) × Int × Int) : Option (Except (Except (Fault × Int × Int × Int) (Node × Int × Int × Int)) (Unit)) := match a with
 | (p, at_, deep1, in_, f01, f11, f21, f31, f41, f51, f61, c151) =>
  p_grammar_parser_sign c151 p.g.adverbs (Grammar_parser.mk p.g p.l c151 p.end_ deep1 in_) >>= fun x1 =>
  if x1 then
   lget p.l c151 >>= fun y =>
   p_grammar_parser_function_l0 (p, at_, deep1, in_, 24, 0, y.text, [], [], [(Node.mk f01 f11 f21 (Arr.mk f31 f41) f51 f61)], at_, (w64 (c151 + 1)))
  else
   p_grammar_parser_power c151 (Grammar_parser.mk p.g p.l c151 p.end_ deep1 in_) >>= fun (n, ok) =>
   if ok then
    p_grammar_parser_function_l0 (p, at_, deep1, in_, 26, n, [], [], [], [(Node.mk f01 f11 f21 (Arr.mk f31 f41) f51 f61)], at_, (w64 (c151 + 2)))
   else
    p_grammar_parser_function_1 (Grammar_parser.mk p.g p.l c151 p.end_ deep1 in_) >>= fun deep2 =>
    some (.error (.ok ((Node.mk f01 f11 f21 (Arr.mk f31 f41) f51 f61), c151, deep2, in_)))
 partial_fixpoint
mutual
def p_grammar_parser_expr (a : Grammar_parser) : Option (Except (Fault × Int × Int × Int) (Node × Int × Int × Int)) := match a with
 | p =>
  p_grammar_parser_down p >>= fun res => match res with
  | .error (e12, deep42) =>
    some (.error (e12, p.i, deep42, p.in_))
  | .ok deep =>
   p_grammar_parser_here (Grammar_parser.mk p.g p.l p.i p.end_ deep p.in_) >>= fun at_ =>
   p_grammar_parser_skip (p.i, false, (Grammar_parser.mk p.g p.l p.i p.end_ deep p.in_)) >>= fun x =>
   if (decide (x ≥ 0)) then
    p_grammar_parser_function (false, (Grammar_parser.mk p.g p.l p.i p.end_ deep p.in_)) >>= fun res => match res with
    | .error (e1, i3, deep6, in_3) =>
      p_grammar_parser_expr_1 (Grammar_parser.mk p.g p.l i3 p.end_ deep6 in_3) >>= fun deep7 =>
      some (.error (e1, i3, deep7, in_3))
    | .ok (x1, i, deep1, in_) =>
     p_grammar_parser_expr (Grammar_parser.mk p.g p.l i p.end_ deep1 in_) >>= fun res => match res with
     | .error (e, i2, deep4, in_2) =>
       p_grammar_parser_expr_1 (Grammar_parser.mk p.g p.l i2 p.end_ deep4 in_2) >>= fun deep5 =>
       some (.error (e, i2, deep5, in_2))
     | .ok (x2, i1, deep2, in_1) =>
      p_grammar_parser_expr_1 (Grammar_parser.mk p.g p.l i1 p.end_ deep2 in_1) >>= fun deep3 =>
      some (.ok ((Node.mk 5 0 [] (Arr.mk [] []) [x1, x2] at_), i1, deep3, in_1))
   else
    p_grammar_parser_operand (Grammar_parser.mk p.g p.l p.i p.end_ deep p.in_) >>= fun res => match res with
    | .error (e11, i19, deep40, in_19) =>
      p_grammar_parser_expr_1 (Grammar_parser.mk p.g p.l i19 p.end_ deep40 in_19) >>= fun deep41 =>
      some (.error (e11, i19, deep41, in_19))
    | .ok (x3, i4, deep8, in_4) =>
     (
      if (decide (i4 ≥ (List.length p.l : Int))) then
       p_grammar_parser_expr_1 (Grammar_parser.mk p.g p.l i4 p.end_ deep8 in_4) >>= fun deep9 =>
       some (.error (.ok (x3, i4, deep9, in_4)))
      else
       lget p.l i4 >>= fun y =>
       if (y.kind == 6) then
        p_grammar_parser_expr_1 (Grammar_parser.mk p.g p.l i4 p.end_ deep8 in_4) >>= fun deep10 =>
        some (.error (.ok (x3, i4, deep10, in_4)))
       else
        p_grammar_parser_skip (i4, true, (Grammar_parser.mk p.g p.l i4 p.end_ deep8 in_4)) >>= fun x4 =>
        if (decide (x4 < 0)) then
         p_grammar_parser_fail 2 i4 (Grammar_parser.mk p.g p.l i4 p.end_ deep8 in_4) >>= fun res => match res with
         | .error e2 =>
           p_grammar_parser_expr_1 (Grammar_parser.mk p.g p.l i4 p.end_ deep8 in_4) >>= fun deep11 =>
           some (.error (.error (e2, i4, deep11, in_4)))
         | .ok _ =>
          some (.ok ())
        else
         some (.ok ())
     : Option (Except (Except (Fault × Int × Int × Int) (Node × Int × Int × Int)) (Unit))) >>= fun res => match res with
     | .error r => some r
     | .ok _ =>
      p_grammar_parser_function (true, (Grammar_parser.mk p.g p.l i4 p.end_ deep8 in_4)) >>= fun res => match res with
      | .error (e10, i18, deep38, in_18) =>
        p_grammar_parser_expr_1 (Grammar_parser.mk p.g p.l i18 p.end_ deep38 in_18) >>= fun deep39 =>
        some (.error (e10, i18, deep39, in_18))
      | .ok (x5, i5, deep12, in_5) =>
       if p.g.lone then
        if (x5.kind == 24) then
         if (x5.name == [47]) then
          lget x5.kids 0 >>= fun y1 =>
          if (y1.kind == 22) then
           if (x3.kind == 1) then
            p_grammar_times x3.lit >>= fun (n, ok) =>
            (
             if (!ok) then
              p_grammar_parser_fail 2 i4 (Grammar_parser.mk p.g p.l i5 p.end_ deep12 in_5) >>= fun res => match res with
              | .error e3 =>
                p_grammar_parser_expr_1 (Grammar_parser.mk p.g p.l i5 p.end_ deep12 in_5) >>= fun deep13 =>
                some (.error (.error (e3, i5, deep13, in_5)))
              | .ok _ =>
               some (.ok ())
             else
              some (.ok ())
            : Option (Except (Except (Fault × Int × Int × Int) (Node × Int × Int × Int)) (Unit))) >>= fun res => match res with
            | .error r => some r
            | .ok _ =>
             p_grammar_parser_expr (Grammar_parser.mk p.g p.l i5 p.end_ deep12 in_5) >>= fun res => match res with
             | .error (e4, i7, deep16, in_7) =>
               p_grammar_parser_expr_1 (Grammar_parser.mk p.g p.l i7 p.end_ deep16 in_7) >>= fun deep17 =>
               some (.error (e4, i7, deep17, in_7))
             | .ok (x6, i6, deep14, in_6) =>
              p_grammar_parser_expr_1 (Grammar_parser.mk p.g p.l i6 p.end_ deep14 in_6) >>= fun deep15 =>
              some (.ok ((Node.mk 5 0 [] (Arr.mk [] []) [(Node.mk 26 n [] (Arr.mk [] []) x5.kids at_), x6] at_), i6, deep15, in_6))
           else
            p_grammar_parser_expr (Grammar_parser.mk p.g p.l i5 p.end_ deep12 in_5) >>= fun res => match res with
            | .error (e5, i9, deep20, in_9) =>
              p_grammar_parser_expr_1 (Grammar_parser.mk p.g p.l i9 p.end_ deep20 in_9) >>= fun deep21 =>
              some (.error (e5, i9, deep21, in_9))
            | .ok (x7, i8, deep18, in_8) =>
             p_grammar_parser_expr_1 (Grammar_parser.mk p.g p.l i8 p.end_ deep18 in_8) >>= fun deep19 =>
             some (.ok ((Node.mk 6 0 [] (Arr.mk [] []) [x5, x3, x7] at_), i8, deep19, in_8))
          else
           p_grammar_parser_expr (Grammar_parser.mk p.g p.l i5 p.end_ deep12 in_5) >>= fun res => match res with
           | .error (e6, i11, deep24, in_11) =>
             p_grammar_parser_expr_1 (Grammar_parser.mk p.g p.l i11 p.end_ deep24 in_11) >>= fun deep25 =>
             some (.error (e6, i11, deep25, in_11))
           | .ok (x8, i10, deep22, in_10) =>
            p_grammar_parser_expr_1 (Grammar_parser.mk p.g p.l i10 p.end_ deep22 in_10) >>= fun deep23 =>
            some (.ok ((Node.mk 6 0 [] (Arr.mk [] []) [x5, x3, x8] at_), i10, deep23, in_10))
         else
          p_grammar_parser_expr (Grammar_parser.mk p.g p.l i5 p.end_ deep12 in_5) >>= fun res => match res with
          | .error (e7, i13, deep28, in_13) =>
            p_grammar_parser_expr_1 (Grammar_parser.mk p.g p.l i13 p.end_ deep28 in_13) >>= fun deep29 =>
            some (.error (e7, i13, deep29, in_13))
          | .ok (x9, i12, deep26, in_12) =>
           p_grammar_parser_expr_1 (Grammar_parser.mk p.g p.l i12 p.end_ deep26 in_12) >>= fun deep27 =>
           some (.ok ((Node.mk 6 0 [] (Arr.mk [] []) [x5, x3, x9] at_), i12, deep27, in_12))
        else
         p_grammar_parser_expr (Grammar_parser.mk p.g p.l i5 p.end_ deep12 in_5) >>= fun res => match res with
         | .error (e8, i15, deep32, in_15) =>
           p_grammar_parser_expr_1 (Grammar_parser.mk p.g p.l i15 p.end_ deep32 in_15) >>= fun deep33 =>
           some (.error (e8, i15, deep33, in_15))
         | .ok (x10, i14, deep30, in_14) =>
          p_grammar_parser_expr_1 (Grammar_parser.mk p.g p.l i14 p.end_ deep30 in_14) >>= fun deep31 =>
          some (.ok ((Node.mk 6 0 [] (Arr.mk [] []) [x5, x3, x10] at_), i14, deep31, in_14))
       else
        p_grammar_parser_expr (Grammar_parser.mk p.g p.l i5 p.end_ deep12 in_5) >>= fun res => match res with
        | .error (e9, i17, deep36, in_17) =>
          p_grammar_parser_expr_1 (Grammar_parser.mk p.g p.l i17 p.end_ deep36 in_17) >>= fun deep37 =>
          some (.error (e9, i17, deep37, in_17))
        | .ok (x11, i16, deep34, in_16) =>
         p_grammar_parser_expr_1 (Grammar_parser.mk p.g p.l i16 p.end_ deep34 in_16) >>= fun deep35 =>
         some (.ok ((Node.mk 6 0 [] (Arr.mk [] []) [x5, x3, x11] at_), i16, deep35, in_16))
 partial_fixpoint
def p_grammar_parser_function (a : Bool × Grammar_parser) : Option (Except (Fault × Int × Int × Int) (Node × Int × Int × Int)) := match a with
 | (behind, p) =>
  p_grammar_parser_down p >>= fun res => match res with
  | .error (e1, deep5) =>
    some (.error (e1, p.i, deep5, p.in_))
  | .ok deep =>
   p_grammar_parser_here (Grammar_parser.mk p.g p.l p.i p.end_ deep p.in_) >>= fun at_ =>
   p_grammar_parser_is p.i 4 p.g.outer (Grammar_parser.mk p.g p.l p.i p.end_ deep p.in_) >>= fun outer =>
   (
    if outer then
     some (false, (w64 (p.i + 1)))
    else
     some (behind, p.i)
   : Option (Bool × Int)) >>= fun (behind1, c15) =>
   p_grammar_parser_base (behind1, (Grammar_parser.mk p.g p.l c15 p.end_ deep p.in_)) >>= fun res => match res with
   | .error (e, i1, deep3, in_1) =>
     p_grammar_parser_function_1 (Grammar_parser.mk p.g p.l i1 p.end_ deep3 in_1) >>= fun deep4 =>
     some (.error (e, i1, deep4, in_1))
   | .ok (x, i, deep1, in_) =>
    (
     if outer then
      some (25, 0, [], [], [], [x], at_)
     else
      some (x.kind, x.op_, x.name, x.lit.shape, x.lit.cells, x.kids, x.at_)
    : Option (Int × Int × Str × (List Int) × (List Cell) × (List Node) × Int)) >>= fun (f0, f1, f2, f3, f4, f5, f6) =>
    p_grammar_parser_function_l0 (p, at_, deep1, in_, f0, f1, f2, f3, f4, f5, f6, i) >>= fun res => match res with
    | .error r => some r
    | .ok _ => none
 partial_fixpoint
def p_grammar_parser_operand_l0 (a : Grammar_parser × Token × Int × Int × Str × (List Int) × (List Cell) × (List Node) × Int × Int × Int × Int) : Option (Except (Except (Fault × Int × Int × Int) (Node × Int × Int × Int)) (Int × Int × Str × (List Int) × (List Cell) × (List Node) × Int × Int × Int × Int)) := match a with
 | (p, y, n01, n11, n21, n31, n41, n51, n61, p151, p171, p181) =>
  if p.g.square then
   p_grammar_parser_is p151 5 [91] (Grammar_parser.mk p.g p.l p151 p.end_ p171 p181) >>= fun x45 =>
   if x45 then
    p_grammar_parser_expr (Grammar_parser.mk p.g p.l (w64 (p151 + 1)) p.end_ p171 p181) >>= fun res => match res with
    | .error (e56, i56, deep37, in_37) =>
      some (.error (.error (e56, i56, deep37, in_37)))
    | .ok (x46, i54, deep36, in_36) =>
     p_grammar_parser_take 6 [93] (Grammar_parser.mk p.g p.l i54 p.end_ deep36 in_36) >>= fun res => match res with
     | .error e55 =>
       some (.error (.error (e55, i54, deep36, in_36)))
     | .ok i55 =>
      p_grammar_parser_operand_l0 (p, y, 8, 0, [], [], [], [(Node.mk n01 n11 n21 (Arr.mk n31 n41) n51 n61), x46], y.at_, i55, deep36, in_36)
   else
    some (.ok (n01, n11, n21, n31, n41, n51, n61, p151, p171, p181))
  else
   some (.ok (n01, n11, n21, n31, n41, n51, n61, p151, p171, p181))
 partial_fixpoint
def p_grammar_parser_operand (a : Grammar_parser) : Option (Except (Fault × Int × Int × Int) (Node × Int × Int × Int)) := match a with
 | p =>
  (
   if (decide (p.i ≥ (List.length p.l : Int))) then
    p_grammar_parser_fail 2 p.i p >>= fun res => match res with
    | .error e =>
      some (.error (.error (e, p.i, p.deep, p.in_)))
    | .ok _ =>
     some (.ok ())
   else
    some (.ok ())
  : Option (Except (Except (Fault × Int × Int × Int) (Node × Int × Int × Int)) (Unit))) >>= fun res => match res with
  | .error r => some r
  | .ok _ =>
   lget p.l p.i >>= fun y =>
   (
    if (y.kind == 1) then
     some (.ok (1, 0, [], y.lit.shape, y.lit.cells, [], y.at_, (w64 (p.i + 1)), p.deep, p.in_))
    else
     if (y.kind == 2) then
      some (.ok (1, 0, [], y.lit.shape, y.lit.cells, [], y.at_, (w64 (p.i + 1)), p.deep, p.in_))
     else
      if (y.kind == 3) then
       if (decide (p.in_ > 0)) then
        if (y.text == p.g.left) then
         some (.ok (3, 0, [], [], [], [], y.at_, (w64 (p.i + 1)), p.deep, p.in_))
        else
         if (y.kind == 3) then
          if (decide (p.in_ > 0)) then
           if (y.text == p.g.right) then
            some (.ok (4, 0, [], [], [], [], y.at_, (w64 (p.i + 1)), p.deep, p.in_))
           else
            if (y.kind == 3) then
             p_core_Name y.text >>= fun x =>
             if x then
              some (.ok (2, 0, y.text, [], [], [], y.at_, (w64 (p.i + 1)), p.deep, p.in_))
             else
              p_grammar_parser_is p.i 5 [40] p >>= fun x1 =>
              if x1 then
               p_grammar_parser_expr (Grammar_parser.mk p.g p.l (w64 (p.i + 1)) p.end_ p.deep p.in_) >>= fun res => match res with
               | .error (e2, i2, deep1, in_1) =>
                 some (.error (.error (e2, i2, deep1, in_1)))
               | .ok (x2, i, deep, in_) =>
                p_grammar_parser_take 6 [41] (Grammar_parser.mk p.g p.l i p.end_ deep in_) >>= fun res => match res with
                | .error e1 =>
                  some (.error (.error (e1, i, deep, in_)))
                | .ok i1 =>
                 some (.ok (x2.kind, x2.op_, x2.name, x2.lit.shape, x2.lit.cells, x2.kids, x2.at_, i1, deep, in_))
              else
               p_grammar_parser_fail 2 p.i p >>= fun res => match res with
               | .error e3 =>
                 some (.error (.error (e3, p.i, p.deep, p.in_)))
               | .ok _ =>
                some (.ok (0, 0, [], [], [], [], y.at_, p.i, p.deep, p.in_))
            else
             p_grammar_parser_is p.i 5 [40] p >>= fun x3 =>
             if x3 then
              p_grammar_parser_expr (Grammar_parser.mk p.g p.l (w64 (p.i + 1)) p.end_ p.deep p.in_) >>= fun res => match res with
              | .error (e5, i5, deep3, in_3) =>
                some (.error (.error (e5, i5, deep3, in_3)))
              | .ok (x4, i3, deep2, in_2) =>
               p_grammar_parser_take 6 [41] (Grammar_parser.mk p.g p.l i3 p.end_ deep2 in_2) >>= fun res => match res with
               | .error e4 =>
                 some (.error (.error (e4, i3, deep2, in_2)))
               | .ok i4 =>
                some (.ok (x4.kind, x4.op_, x4.name, x4.lit.shape, x4.lit.cells, x4.kids, x4.at_, i4, deep2, in_2))
             else
              p_grammar_parser_fail 2 p.i p >>= fun res => match res with
              | .error e6 =>
                some (.error (.error (e6, p.i, p.deep, p.in_)))
              | .ok _ =>
               some (.ok (0, 0, [], [], [], [], y.at_, p.i, p.deep, p.in_))
          else
           if (y.kind == 3) then
            p_core_Name y.text >>= fun x5 =>
            if x5 then
             some (.ok (2, 0, y.text, [], [], [], y.at_, (w64 (p.i + 1)), p.deep, p.in_))
            else
             p_grammar_parser_is p.i 5 [40] p >>= fun x6 =>
             if x6 then
              p_grammar_parser_expr (Grammar_parser.mk p.g p.l (w64 (p.i + 1)) p.end_ p.deep p.in_) >>= fun res => match res with
              | .error (e8, i8, deep5, in_5) =>
                some (.error (.error (e8, i8, deep5, in_5)))
              | .ok (x7, i6, deep4, in_4) =>
               p_grammar_parser_take 6 [41] (Grammar_parser.mk p.g p.l i6 p.end_ deep4 in_4) >>= fun res => match res with
               | .error e7 =>
                 some (.error (.error (e7, i6, deep4, in_4)))
               | .ok i7 =>
                some (.ok (x7.kind, x7.op_, x7.name, x7.lit.shape, x7.lit.cells, x7.kids, x7.at_, i7, deep4, in_4))
             else
              p_grammar_parser_fail 2 p.i p >>= fun res => match res with
              | .error e9 =>
                some (.error (.error (e9, p.i, p.deep, p.in_)))
              | .ok _ =>
               some (.ok (0, 0, [], [], [], [], y.at_, p.i, p.deep, p.in_))
           else
            p_grammar_parser_is p.i 5 [40] p >>= fun x8 =>
            if x8 then
             p_grammar_parser_expr (Grammar_parser.mk p.g p.l (w64 (p.i + 1)) p.end_ p.deep p.in_) >>= fun res => match res with
             | .error (e11, i11, deep7, in_7) =>
               some (.error (.error (e11, i11, deep7, in_7)))
             | .ok (x9, i9, deep6, in_6) =>
              p_grammar_parser_take 6 [41] (Grammar_parser.mk p.g p.l i9 p.end_ deep6 in_6) >>= fun res => match res with
              | .error e10 =>
                some (.error (.error (e10, i9, deep6, in_6)))
              | .ok i10 =>
               some (.ok (x9.kind, x9.op_, x9.name, x9.lit.shape, x9.lit.cells, x9.kids, x9.at_, i10, deep6, in_6))
            else
             p_grammar_parser_fail 2 p.i p >>= fun res => match res with
             | .error e12 =>
               some (.error (.error (e12, p.i, p.deep, p.in_)))
             | .ok _ =>
              some (.ok (0, 0, [], [], [], [], y.at_, p.i, p.deep, p.in_))
         else
          if (y.kind == 3) then
           p_core_Name y.text >>= fun x10 =>
           if x10 then
            some (.ok (2, 0, y.text, [], [], [], y.at_, (w64 (p.i + 1)), p.deep, p.in_))
           else
            p_grammar_parser_is p.i 5 [40] p >>= fun x11 =>
            if x11 then
             p_grammar_parser_expr (Grammar_parser.mk p.g p.l (w64 (p.i + 1)) p.end_ p.deep p.in_) >>= fun res => match res with
             | .error (e14, i14, deep9, in_9) =>
               some (.error (.error (e14, i14, deep9, in_9)))
             | .ok (x12, i12, deep8, in_8) =>
              p_grammar_parser_take 6 [41] (Grammar_parser.mk p.g p.l i12 p.end_ deep8 in_8) >>= fun res => match res with
              | .error e13 =>
                some (.error (.error (e13, i12, deep8, in_8)))
              | .ok i13 =>
               some (.ok (x12.kind, x12.op_, x12.name, x12.lit.shape, x12.lit.cells, x12.kids, x12.at_, i13, deep8, in_8))
            else
             p_grammar_parser_fail 2 p.i p >>= fun res => match res with
             | .error e15 =>
               some (.error (.error (e15, p.i, p.deep, p.in_)))
             | .ok _ =>
              some (.ok (0, 0, [], [], [], [], y.at_, p.i, p.deep, p.in_))
          else
           p_grammar_parser_is p.i 5 [40] p >>= fun x13 =>
           if x13 then
            p_grammar_parser_expr (Grammar_parser.mk p.g p.l (w64 (p.i + 1)) p.end_ p.deep p.in_) >>= fun res => match res with
            | .error (e17, i17, deep11, in_11) =>
              some (.error (.error (e17, i17, deep11, in_11)))
            | .ok (x14, i15, deep10, in_10) =>
             p_grammar_parser_take 6 [41] (Grammar_parser.mk p.g p.l i15 p.end_ deep10 in_10) >>= fun res => match res with
             | .error e16 =>
               some (.error (.error (e16, i15, deep10, in_10)))
             | .ok i16 =>
              some (.ok (x14.kind, x14.op_, x14.name, x14.lit.shape, x14.lit.cells, x14.kids, x14.at_, i16, deep10, in_10))
           else
            p_grammar_parser_fail 2 p.i p >>= fun res => match res with
            | .error e18 =>
              some (.error (.error (e18, p.i, p.deep, p.in_)))
            | .ok _ =>
             some (.ok (0, 0, [], [], [], [], y.at_, p.i, p.deep, p.in_))
       else
        if (y.kind == 3) then
         if (decide (p.in_ > 0)) then
          if (y.text == p.g.right) then
           some (.ok (4, 0, [], [], [], [], y.at_, (w64 (p.i + 1)), p.deep, p.in_))
          else
           if (y.kind == 3) then
            p_core_Name y.text >>= fun x15 =>
            if x15 then
             some (.ok (2, 0, y.text, [], [], [], y.at_, (w64 (p.i + 1)), p.deep, p.in_))
            else
             p_grammar_parser_is p.i 5 [40] p >>= fun x16 =>
             if x16 then
              p_grammar_parser_expr (Grammar_parser.mk p.g p.l (w64 (p.i + 1)) p.end_ p.deep p.in_) >>= fun res => match res with
              | .error (e20, i20, deep13, in_13) =>
                some (.error (.error (e20, i20, deep13, in_13)))
              | .ok (x17, i18, deep12, in_12) =>
               p_grammar_parser_take 6 [41] (Grammar_parser.mk p.g p.l i18 p.end_ deep12 in_12) >>= fun res => match res with
               | .error e19 =>
                 some (.error (.error (e19, i18, deep12, in_12)))
               | .ok i19 =>
                some (.ok (x17.kind, x17.op_, x17.name, x17.lit.shape, x17.lit.cells, x17.kids, x17.at_, i19, deep12, in_12))
             else
              p_grammar_parser_fail 2 p.i p >>= fun res => match res with
              | .error e21 =>
                some (.error (.error (e21, p.i, p.deep, p.in_)))
              | .ok _ =>
               some (.ok (0, 0, [], [], [], [], y.at_, p.i, p.deep, p.in_))
           else
            p_grammar_parser_is p.i 5 [40] p >>= fun x18 =>
            if x18 then
             p_grammar_parser_expr (Grammar_parser.mk p.g p.l (w64 (p.i + 1)) p.end_ p.deep p.in_) >>= fun res => match res with
             | .error (e23, i23, deep15, in_15) =>
               some (.error (.error (e23, i23, deep15, in_15)))
             | .ok (x19, i21, deep14, in_14) =>
              p_grammar_parser_take 6 [41] (Grammar_parser.mk p.g p.l i21 p.end_ deep14 in_14) >>= fun res => match res with
              | .error e22 =>
                some (.error (.error (e22, i21, deep14, in_14)))
              | .ok i22 =>
               some (.ok (x19.kind, x19.op_, x19.name, x19.lit.shape, x19.lit.cells, x19.kids, x19.at_, i22, deep14, in_14))
            else
             p_grammar_parser_fail 2 p.i p >>= fun res => match res with
             | .error e24 =>
               some (.error (.error (e24, p.i, p.deep, p.in_)))
             | .ok _ =>
              some (.ok (0, 0, [], [], [], [], y.at_, p.i, p.deep, p.in_))
         else
          if (y.kind == 3) then
           p_core_Name y.text >>= fun x20 =>
           if x20 then
            some (.ok (2, 0, y.text, [], [], [], y.at_, (w64 (p.i + 1)), p.deep, p.in_))
           else
            p_grammar_parser_is p.i 5 [40] p >>= fun x21 =>
            if x21 then
             p_grammar_parser_expr (Grammar_parser.mk p.g p.l (w64 (p.i + 1)) p.end_ p.deep p.in_) >>= fun res => match res with
             | .error (e26, i26, deep17, in_17) =>
               some (.error (.error (e26, i26, deep17, in_17)))
             | .ok (x22, i24, deep16, in_16) =>
              p_grammar_parser_take 6 [41] (Grammar_parser.mk p.g p.l i24 p.end_ deep16 in_16) >>= fun res => match res with
              | .error e25 =>
                some (.error (.error (e25, i24, deep16, in_16)))
              | .ok i25 =>
               some (.ok (x22.kind, x22.op_, x22.name, x22.lit.shape, x22.lit.cells, x22.kids, x22.at_, i25, deep16, in_16))
            else
             p_grammar_parser_fail 2 p.i p >>= fun res => match res with
             | .error e27 =>
               some (.error (.error (e27, p.i, p.deep, p.in_)))
             | .ok _ =>
              some (.ok (0, 0, [], [], [], [], y.at_, p.i, p.deep, p.in_))
          else
           p_grammar_parser_is p.i 5 [40] p >>= fun x23 =>
           if x23 then
            p_grammar_parser_expr (Grammar_parser.mk p.g p.l (w64 (p.i + 1)) p.end_ p.deep p.in_) >>= fun res => match res with
            | .error (e29, i29, deep19, in_19) =>
              some (.error (.error (e29, i29, deep19, in_19)))
            | .ok (x24, i27, deep18, in_18) =>
             p_grammar_parser_take 6 [41] (Grammar_parser.mk p.g p.l i27 p.end_ deep18 in_18) >>= fun res => match res with
             | .error e28 =>
               some (.error (.error (e28, i27, deep18, in_18)))
             | .ok i28 =>
              some (.ok (x24.kind, x24.op_, x24.name, x24.lit.shape, x24.lit.cells, x24.kids, x24.at_, i28, deep18, in_18))
           else
            p_grammar_parser_fail 2 p.i p >>= fun res => match res with
            | .error e30 =>
              some (.error (.error (e30, p.i, p.deep, p.in_)))
            | .ok _ =>
             some (.ok (0, 0, [], [], [], [], y.at_, p.i, p.deep, p.in_))
        else
         if (y.kind == 3) then
          p_core_Name y.text >>= fun x25 =>
          if x25 then
           some (.ok (2, 0, y.text, [], [], [], y.at_, (w64 (p.i + 1)), p.deep, p.in_))
          else
           p_grammar_parser_is p.i 5 [40] p >>= fun x26 =>
           if x26 then
            p_grammar_parser_expr (Grammar_parser.mk p.g p.l (w64 (p.i + 1)) p.end_ p.deep p.in_) >>= fun res => match res with
            | .error (e32, i32, deep21, in_21) =>
              some (.error (.error (e32, i32, deep21, in_21)))
            | .ok (x27, i30, deep20, in_20) =>
             p_grammar_parser_take 6 [41] (Grammar_parser.mk p.g p.l i30 p.end_ deep20 in_20) >>= fun res => match res with
             | .error e31 =>
               some (.error (.error (e31, i30, deep20, in_20)))
             | .ok i31 =>
              some (.ok (x27.kind, x27.op_, x27.name, x27.lit.shape, x27.lit.cells, x27.kids, x27.at_, i31, deep20, in_20))
           else
            p_grammar_parser_fail 2 p.i p >>= fun res => match res with
            | .error e33 =>
              some (.error (.error (e33, p.i, p.deep, p.in_)))
            | .ok _ =>
             some (.ok (0, 0, [], [], [], [], y.at_, p.i, p.deep, p.in_))
         else
          p_grammar_parser_is p.i 5 [40] p >>= fun x28 =>
          if x28 then
           p_grammar_parser_expr (Grammar_parser.mk p.g p.l (w64 (p.i + 1)) p.end_ p.deep p.in_) >>= fun res => match res with
           | .error (e35, i35, deep23, in_23) =>
             some (.error (.error (e35, i35, deep23, in_23)))
           | .ok (x29, i33, deep22, in_22) =>
            p_grammar_parser_take 6 [41] (Grammar_parser.mk p.g p.l i33 p.end_ deep22 in_22) >>= fun res => match res with
            | .error e34 =>
              some (.error (.error (e34, i33, deep22, in_22)))
            | .ok i34 =>
             some (.ok (x29.kind, x29.op_, x29.name, x29.lit.shape, x29.lit.cells, x29.kids, x29.at_, i34, deep22, in_22))
          else
           p_grammar_parser_fail 2 p.i p >>= fun res => match res with
           | .error e36 =>
             some (.error (.error (e36, p.i, p.deep, p.in_)))
           | .ok _ =>
            some (.ok (0, 0, [], [], [], [], y.at_, p.i, p.deep, p.in_))
      else
       if (y.kind == 3) then
        if (decide (p.in_ > 0)) then
         if (y.text == p.g.right) then
          some (.ok (4, 0, [], [], [], [], y.at_, (w64 (p.i + 1)), p.deep, p.in_))
         else
          if (y.kind == 3) then
           p_core_Name y.text >>= fun x30 =>
           if x30 then
            some (.ok (2, 0, y.text, [], [], [], y.at_, (w64 (p.i + 1)), p.deep, p.in_))
           else
            p_grammar_parser_is p.i 5 [40] p >>= fun x31 =>
            if x31 then
             p_grammar_parser_expr (Grammar_parser.mk p.g p.l (w64 (p.i + 1)) p.end_ p.deep p.in_) >>= fun res => match res with
             | .error (e38, i38, deep25, in_25) =>
               some (.error (.error (e38, i38, deep25, in_25)))
             | .ok (x32, i36, deep24, in_24) =>
              p_grammar_parser_take 6 [41] (Grammar_parser.mk p.g p.l i36 p.end_ deep24 in_24) >>= fun res => match res with
              | .error e37 =>
                some (.error (.error (e37, i36, deep24, in_24)))
              | .ok i37 =>
               some (.ok (x32.kind, x32.op_, x32.name, x32.lit.shape, x32.lit.cells, x32.kids, x32.at_, i37, deep24, in_24))
            else
             p_grammar_parser_fail 2 p.i p >>= fun res => match res with
             | .error e39 =>
               some (.error (.error (e39, p.i, p.deep, p.in_)))
             | .ok _ =>
              some (.ok (0, 0, [], [], [], [], y.at_, p.i, p.deep, p.in_))
          else
           p_grammar_parser_is p.i 5 [40] p >>= fun x33 =>
           if x33 then
            p_grammar_parser_expr (Grammar_parser.mk p.g p.l (w64 (p.i + 1)) p.end_ p.deep p.in_) >>= fun res => match res with
            | .error (e41, i41, deep27, in_27) =>
              some (.error (.error (e41, i41, deep27, in_27)))
            | .ok (x34, i39, deep26, in_26) =>
             p_grammar_parser_take 6 [41] (Grammar_parser.mk p.g p.l i39 p.end_ deep26 in_26) >>= fun res => match res with
             | .error e40 =>
               some (.error (.error (e40, i39, deep26, in_26)))
             | .ok i40 =>
              some (.ok (x34.kind, x34.op_, x34.name, x34.lit.shape, x34.lit.cells, x34.kids, x34.at_, i40, deep26, in_26))
           else
            p_grammar_parser_fail 2 p.i p >>= fun res => match res with
            | .error e42 =>
              some (.error (.error (e42, p.i, p.deep, p.in_)))
            | .ok _ =>
             some (.ok (0, 0, [], [], [], [], y.at_, p.i, p.deep, p.in_))
        else
         if (y.kind == 3) then
          p_core_Name y.text >>= fun x35 =>
          if x35 then
           some (.ok (2, 0, y.text, [], [], [], y.at_, (w64 (p.i + 1)), p.deep, p.in_))
          else
           p_grammar_parser_is p.i 5 [40] p >>= fun x36 =>
           if x36 then
            p_grammar_parser_expr (Grammar_parser.mk p.g p.l (w64 (p.i + 1)) p.end_ p.deep p.in_) >>= fun res => match res with
            | .error (e44, i44, deep29, in_29) =>
              some (.error (.error (e44, i44, deep29, in_29)))
            | .ok (x37, i42, deep28, in_28) =>
             p_grammar_parser_take 6 [41] (Grammar_parser.mk p.g p.l i42 p.end_ deep28 in_28) >>= fun res => match res with
             | .error e43 =>
               some (.error (.error (e43, i42, deep28, in_28)))
             | .ok i43 =>
              some (.ok (x37.kind, x37.op_, x37.name, x37.lit.shape, x37.lit.cells, x37.kids, x37.at_, i43, deep28, in_28))
           else
            p_grammar_parser_fail 2 p.i p >>= fun res => match res with
            | .error e45 =>
              some (.error (.error (e45, p.i, p.deep, p.in_)))
            | .ok _ =>
             some (.ok (0, 0, [], [], [], [], y.at_, p.i, p.deep, p.in_))
         else
          p_grammar_parser_is p.i 5 [40] p >>= fun x38 =>
          if x38 then
           p_grammar_parser_expr (Grammar_parser.mk p.g p.l (w64 (p.i + 1)) p.end_ p.deep p.in_) >>= fun res => match res with
           | .error (e47, i47, deep31, in_31) =>
             some (.error (.error (e47, i47, deep31, in_31)))
           | .ok (x39, i45, deep30, in_30) =>
            p_grammar_parser_take 6 [41] (Grammar_parser.mk p.g p.l i45 p.end_ deep30 in_30) >>= fun res => match res with
            | .error e46 =>
              some (.error (.error (e46, i45, deep30, in_30)))
            | .ok i46 =>
             some (.ok (x39.kind, x39.op_, x39.name, x39.lit.shape, x39.lit.cells, x39.kids, x39.at_, i46, deep30, in_30))
          else
           p_grammar_parser_fail 2 p.i p >>= fun res => match res with
           | .error e48 =>
             some (.error (.error (e48, p.i, p.deep, p.in_)))
           | .ok _ =>
            some (.ok (0, 0, [], [], [], [], y.at_, p.i, p.deep, p.in_))
       else
        if (y.kind == 3) then
         p_core_Name y.text >>= fun x40 =>
         if x40 then
          some (.ok (2, 0, y.text, [], [], [], y.at_, (w64 (p.i + 1)), p.deep, p.in_))
         else
          p_grammar_parser_is p.i 5 [40] p >>= fun x41 =>
          if x41 then
           p_grammar_parser_expr (Grammar_parser.mk p.g p.l (w64 (p.i + 1)) p.end_ p.deep p.in_) >>= fun res => match res with
           | .error (e50, i50, deep33, in_33) =>
             some (.error (.error (e50, i50, deep33, in_33)))
           | .ok (x42, i48, deep32, in_32) =>
            p_grammar_parser_take 6 [41] (Grammar_parser.mk p.g p.l i48 p.end_ deep32 in_32) >>= fun res => match res with
            | .error e49 =>
              some (.error (.error (e49, i48, deep32, in_32)))
            | .ok i49 =>
             some (.ok (x42.kind, x42.op_, x42.name, x42.lit.shape, x42.lit.cells, x42.kids, x42.at_, i49, deep32, in_32))
          else
           p_grammar_parser_fail 2 p.i p >>= fun res => match res with
           | .error e51 =>
             some (.error (.error (e51, p.i, p.deep, p.in_)))
           | .ok _ =>
            some (.ok (0, 0, [], [], [], [], y.at_, p.i, p.deep, p.in_))
        else
         p_grammar_parser_is p.i 5 [40] p >>= fun x43 =>
         if x43 then
          p_grammar_parser_expr (Grammar_parser.mk p.g p.l (w64 (p.i + 1)) p.end_ p.deep p.in_) >>= fun res => match res with
          | .error (e53, i53, deep35, in_35) =>
            some (.error (.error (e53, i53, deep35, in_35)))
          | .ok (x44, i51, deep34, in_34) =>
           p_grammar_parser_take 6 [41] (Grammar_parser.mk p.g p.l i51 p.end_ deep34 in_34) >>= fun res => match res with
           | .error e52 =>
             some (.error (.error (e52, i51, deep34, in_34)))
           | .ok i52 =>
            some (.ok (x44.kind, x44.op_, x44.name, x44.lit.shape, x44.lit.cells, x44.kids, x44.at_, i52, deep34, in_34))
         else
          p_grammar_parser_fail 2 p.i p >>= fun res => match res with
          | .error e54 =>
            some (.error (.error (e54, p.i, p.deep, p.in_)))
          | .ok _ =>
           some (.ok (0, 0, [], [], [], [], y.at_, p.i, p.deep, p.in_))
   : Option (Except (Except (Fault × Int × Int × Int) (Node × Int × Int × Int)) (Int × Int × Str × (List Int) × (List Cell) × (List Node) × Int × Int × Int × Int))) >>= fun res => match res with
   | .error r => some r
   | .ok (n0, n1, n2, n3, n4, n5, n6, p15, p17, p18) =>
    (
     p_grammar_parser_operand_l0 (p, y, n0, n1, n2, n3, n4, n5, n6, p15, p17, p18)
    : Option (Except (Except (Fault × Int × Int × Int) (Node × Int × Int × Int)) (Int × Int × Str × (List Int) × (List Cell) × (List Node) × Int × Int × Int × Int))) >>= fun res => match res with
    | .error r => some r
    | .ok (n02, n12, n22, n32, n42, n52, n62, c15, c17, c18) =>
     some (.ok ((Node.mk n02 n12 n22 (Arr.mk n32 n42) n52 n62), c15, c17, c18))
 partial_fixpoint
def p_grammar_parser_base_l0 (a : Bool × Grammar_parser × (List Node) × Int × Int × Int) : Option (Except (Except (Fault × Int × Int × Int) (Node × Int × Int × Int)) ((List Node) × Int × Int × Int)) := match a with
 | (behind, p, l, p15, p17, p18) =>
  p_grammar_parser_is p15 6 [41] (Grammar_parser.mk p.g p.l p15 p.end_ p17 p18) >>= fun x3 =>
  if (!x3) then
   p_grammar_parser_function (behind, (Grammar_parser.mk p.g p.l p15 p.end_ p17 p18)) >>= fun res => match res with
   | .error (e1, i3, deep3, in_3) =>
     some (.error (.error (e1, i3, deep3, in_3)))
   | .ok (x4, i2, deep2, in_2) =>
    lapp l [x4] >>= fun l1 =>
    p_grammar_parser_base_l0 (behind, p, l1, i2, deep2, in_2)
  else
   some (.ok (l, p15, p17, p18))
 partial_fixpoint
def p_grammar_parser_base (a : Bool × Grammar_parser) : Option (Except (Fault × Int × Int × Int) (Node × Int × Int × Int)) := match a with
 | (behind, p) =>
  p_grammar_parser_here p >>= fun at_ =>
  p_grammar_parser_is p.i 5 p.g.open_ p >>= fun x =>
  if x then
   p_grammar_parser_lambda p >>= fun res => match res with
   | .error (e, i1, deep1, in_1) =>
     some (.error (e, i1, deep1, in_1))
   | .ok (x1, i, deep, in_) =>
    some (.ok (x1, i, deep, in_))
  else
   p_grammar_parser_is p.i 5 [40] p >>= fun x2 =>
   if x2 then
    (
     p_grammar_parser_base_l0 (behind, p, [], (w64 (p.i + 1)), p.deep, p.in_)
    : Option (Except (Except (Fault × Int × Int × Int) (Node × Int × Int × Int)) ((List Node) × Int × Int × Int))) >>= fun res => match res with
    | .error r => some r
    | .ok (l2, p151, p171, p181) =>
     if ((List.length l2 : Int) == 1) then
      lget l2 0 >>= fun y =>
      some (.ok (y, (w64 (p151 + 1)), p171, p181))
     else
      if ((List.length l2 : Int) == 2) then
       some (.ok ((Node.mk 28 0 [] (Arr.mk [] []) l2 at_), (w64 (p151 + 1)), p171, p181))
      else
       some (.ok ((Node.mk 27 0 [] (Arr.mk [] []) l2 at_), (w64 (p151 + 1)), p171, p181))
   else
    lget p.l p.i >>= fun y1 =>
    some (.ok ((Node.mk 21 0 y1.text (Arr.mk [] []) [] at_), (w64 (p.i + 1)), p.deep, p.in_))
 partial_fixpoint
def p_grammar_parser_lambda (a : Grammar_parser) : Option (Except (Fault × Int × Int × Int) (Node × Int × Int × Int)) := match a with
 | p =>
  p_grammar_parser_here p >>= fun at_ =>
  p_grammar_parser_expr (Grammar_parser.mk p.g p.l (w64 (p.i + 1)) p.end_ p.deep (w64 (p.in_ + 1))) >>= fun res => match res with
  | .error (e7, i2, deep1, in_1) =>
    some (.error (e7, i2, deep1, in_1))
  | .ok (x, i, deep, in_) =>
   p_grammar_parser_take 6 p.g.close (Grammar_parser.mk p.g p.l i p.end_ deep (w64 (in_ - 1))) >>= fun res => match res with
   | .error e6 =>
     some (.error (e6, i, deep, (w64 (in_ - 1))))
   | .ok i1 =>
    p_grammar_uses (x, 3) >>= fun left =>
    p_grammar_uses (x, 4) >>= fun right =>
    (
     if left then
      if right then
       some (.error (.ok ((Node.mk 23 0 [] (Arr.mk [] []) [x] at_), i1, deep, (w64 (in_ - 1)))))
      else
       if p.g.lone then
        if right then
         p_grammar_parser_fail 2 p.i (Grammar_parser.mk p.g p.l i1 p.end_ deep (w64 (in_ - 1))) >>= fun res => match res with
         | .error e =>
           some (.error (.error (e, i1, deep, (w64 (in_ - 1)))))
         | .ok _ =>
          some (.ok ())
        else
         if (!p.g.lone) then
          if left then
           p_grammar_parser_fail 2 p.i (Grammar_parser.mk p.g p.l i1 p.end_ deep (w64 (in_ - 1))) >>= fun res => match res with
           | .error e1 =>
             some (.error (.error (e1, i1, deep, (w64 (in_ - 1)))))
           | .ok _ =>
            some (.ok ())
          else
           some (.ok ())
         else
          some (.ok ())
       else
        if (!p.g.lone) then
         if left then
          p_grammar_parser_fail 2 p.i (Grammar_parser.mk p.g p.l i1 p.end_ deep (w64 (in_ - 1))) >>= fun res => match res with
          | .error e2 =>
            some (.error (.error (e2, i1, deep, (w64 (in_ - 1)))))
          | .ok _ =>
           some (.ok ())
         else
          some (.ok ())
        else
         some (.ok ())
     else
      if p.g.lone then
       if right then
        p_grammar_parser_fail 2 p.i (Grammar_parser.mk p.g p.l i1 p.end_ deep (w64 (in_ - 1))) >>= fun res => match res with
        | .error e3 =>
          some (.error (.error (e3, i1, deep, (w64 (in_ - 1)))))
        | .ok _ =>
         some (.ok ())
       else
        if (!p.g.lone) then
         if left then
          p_grammar_parser_fail 2 p.i (Grammar_parser.mk p.g p.l i1 p.end_ deep (w64 (in_ - 1))) >>= fun res => match res with
          | .error e4 =>
            some (.error (.error (e4, i1, deep, (w64 (in_ - 1)))))
          | .ok _ =>
           some (.ok ())
         else
          some (.ok ())
        else
         some (.ok ())
      else
       if (!p.g.lone) then
        if left then
         p_grammar_parser_fail 2 p.i (Grammar_parser.mk p.g p.l i1 p.end_ deep (w64 (in_ - 1))) >>= fun res => match res with
         | .error e5 =>
           some (.error (.error (e5, i1, deep, (w64 (in_ - 1)))))
         | .ok _ =>
          some (.ok ())
        else
         some (.ok ())
       else
        some (.ok ())
    : Option (Except (Except (Fault × Int × Int × Int) (Node × Int × Int × Int)) (Unit))) >>= fun res => match res with
    | .error r => some r
    | .ok _ =>
     p_grammar_righted x >>= fun x1 =>
     some (.ok ((Node.mk 22 0 [] (Arr.mk [] []) [x1] at_), i1, deep, (w64 (in_ - 1))))
 partial_fixpoint
end
def p_apl_Grammar  : Option (Grammar) :=
 some (Grammar.mk [[43], [45], [195, 151], [124], [126], [226, 141, 179], [226, 141, 180], [226, 137, 162], [44], [226, 138, 150], [226, 140, 189], [226, 141, 137], [226, 141, 139], [226, 141, 146], [226, 136, 170], [226, 138, 130], [226, 138, 131], [195, 183], [226, 140, 138], [226, 140, 136], [61], [226, 137, 160], [60], [62], [226, 137, 164], [226, 137, 165], [226, 134, 145], [226, 134, 147], [226, 141, 170], [226, 136, 138], [226, 140, 183]] [[47], [226, 140, 191], [92], [226, 141, 128], [226, 141, 168]] [[47], [226, 140, 191]] [226, 136, 152, 46] [226, 141, 163] [123] [125] [226, 141, 186] [226, 141, 181] [194, 175] [39] false false true)
def p_grammar_Parse_1_q (a_ : Node) (a_1 : Fault) : Option (Unit) :=
 some ()
def p_grammar_Parse_1_p (e : Fault) (a_ : Node) (a_1 : Fault) : Option (Int × Int × Str × (List Int) × (List Cell) × (List Node) × Int × Int × Int × Int) :=
 some (0, 0, [], [], [], [], 0, e.err, e.at_, e.why)
def p_grammar_Parse_1_p_2 (e : Fault) (a_ : Node) (a_1 : Fault) : Option (Int × Int × Str × (List Int) × (List Cell) × (List Node) × Int × Int × Int × Int) :=
 some (0, 0, [], [], [], [], 0, e.err, e.at_, e.why)
def p_grammar_Parse (g : Grammar) (l : (List Token)) (end_ : Int) : Option (Node × Fault) :=
 p_grammar_parser_expr (Grammar_parser.mk g l 0 end_ 0 0) >>= fun res => match res with
 | .error (e1, i1, deep1, in_1) =>
   p_grammar_Parse_1_p_2 e1 (Node.mk 0 0 [] (Arr.mk [] []) [] 0) (Fault.mk 0 0 0) >>= fun (kind1, op_1, name1, shape1, cells1, kids1, at_2, err1, at_3, why1) =>
   some ((Node.mk kind1 op_1 name1 (Arr.mk shape1 cells1) kids1 at_2), (Fault.mk err1 at_3 why1))
 | .ok (x, i, deep, in_) =>
  (
   if (decide (i < (List.length l : Int))) then
    p_grammar_parser_fail 2 i (Grammar_parser.mk (Grammar_parser.mk g l 0 end_ 0 0).g (Grammar_parser.mk g l 0 end_ 0 0).l i (Grammar_parser.mk g l 0 end_ 0 0).end_ deep in_) >>= fun res => match res with
    | .error e =>
      p_grammar_Parse_1_p e x (Fault.mk 0 0 0) >>= fun (kind, op_, name, shape, cells, kids, at_, err, at_1, why) =>
      some (.error ((Node.mk kind op_ name (Arr.mk shape cells) kids at_), (Fault.mk err at_1 why)))
    | .ok _ =>
     some (.ok ())
   else
    some (.ok ())
  : Option (Except (Node × Fault) (Unit))) >>= fun res => match res with
  | .error r => some r
  | .ok _ =>
   p_grammar_Parse_1_q x (Fault.mk 0 0 0) >>= fun _ =>
   some (x, (Fault.mk 0 0 0))
def p_strings_HasPrefix (s : Str) (prefix_ : Str) : Option (Bool) :=
 p_stringslite_HasPrefix s prefix_ >>= fun x =>
 some x
def p_runes_first (c : Int) : Option (Int × Int) :=
 if (decide (c < 128)) then
  some (1, (w64 c))
 else
  if (decide (c < 192)) then
   some (0, 0)
  else
   if (decide (c ≥ 248)) then
    some (0, 0)
   else
    if (decide (c < 224)) then
     some (2, (w64 (IntKind.u8.wrap ((BitVec.ofInt 8 c &&& BitVec.ofInt 8 31).toNat))))
    else
     if (decide (c < 240)) then
      some (3, (w64 (IntKind.u8.wrap ((BitVec.ofInt 8 c &&& BitVec.ofInt 8 15).toNat))))
     else
      some (4, (w64 (IntKind.u8.wrap ((BitVec.ofInt 8 c &&& BitVec.ofInt 8 7).toNat))))
def p_runes_put_nil (n : Int) : Option ((List Int)) :=
 if (decide (n < 128)) then
  lapp [] [(IntKind.u8.wrap n)] >>= fun l =>
  some l
 else
  if (decide (n < 2048)) then
   lapp [] [(IntKind.u8.wrap (w64 ((BitVec.ofInt 64 192 ||| BitVec.ofInt 64 (Int.fdiv n (2 ^ 6))).toNat))), (IntKind.u8.wrap (w64 ((BitVec.ofInt 64 128 ||| BitVec.ofInt 64 (w64 ((BitVec.ofInt 64 n &&& BitVec.ofInt 64 63).toNat))).toNat)))] >>= fun l1 =>
   some l1
  else
   if (decide (n < 65536)) then
    lapp [] [(IntKind.u8.wrap (w64 ((BitVec.ofInt 64 224 ||| BitVec.ofInt 64 (Int.fdiv n (2 ^ 12))).toNat))), (IntKind.u8.wrap (w64 ((BitVec.ofInt 64 128 ||| BitVec.ofInt 64 (w64 ((BitVec.ofInt 64 (Int.fdiv n (2 ^ 6)) &&& BitVec.ofInt 64 63).toNat))).toNat))), (IntKind.u8.wrap (w64 ((BitVec.ofInt 64 128 ||| BitVec.ofInt 64 (w64 ((BitVec.ofInt 64 n &&& BitVec.ofInt 64 63).toNat))).toNat)))] >>= fun l2 =>
    some l2
   else
    lapp [] [(IntKind.u8.wrap (w64 ((BitVec.ofInt 64 240 ||| BitVec.ofInt 64 (Int.fdiv n (2 ^ 18))).toNat))), (IntKind.u8.wrap (w64 ((BitVec.ofInt 64 128 ||| BitVec.ofInt 64 (w64 ((BitVec.ofInt 64 (Int.fdiv n (2 ^ 12)) &&& BitVec.ofInt 64 63).toNat))).toNat))), (IntKind.u8.wrap (w64 ((BitVec.ofInt 64 128 ||| BitVec.ofInt 64 (w64 ((BitVec.ofInt 64 (Int.fdiv n (2 ^ 6)) &&& BitVec.ofInt 64 63).toNat))).toNat))), (IntKind.u8.wrap (w64 ((BitVec.ofInt 64 128 ||| BitVec.ofInt 64 (w64 ((BitVec.ofInt 64 n &&& BitVec.ofInt 64 63).toNat))).toNat)))] >>= fun l3 =>
    some l3
def p_runes_One_l0 (a : (List Int) × Int × Int) : Option (Except (Int × Int) (Int)) := match a with
 | (l, n1, x) =>
  if (decide (x < (List.length l : Int))) then
   lget l x >>= fun c =>
   if ((IntKind.u8.wrap ((BitVec.ofInt 8 c &&& BitVec.ofInt 8 192).toNat)) != 128) then
    some (.error (0, 0))
   else
    p_runes_One_l0 (l, (w64 ((BitVec.ofInt 64 (w64 (n1 * 2 ^ 6)) ||| BitVec.ofInt 64 (w64 (IntKind.u8.wrap ((BitVec.ofInt 8 c &&& BitVec.ofInt 8 63).toNat)))).toNat)), (w64 (x + 1)))
  else
   some (.ok n1)
 partial_fixpoint
def p_runes_One (b : (List Int)) : Option (Int × Int) :=
 if ((List.length b : Int) == 0) then
  some (0, 0)
 else
  lget b 0 >>= fun y =>
  p_runes_first y >>= fun (k, n) =>
  if (k == 0) then
   some (0, 0)
  else
   if (decide (k > (List.length b : Int))) then
    some (0, 0)
   else
    lmid b 1 k >>= fun l =>
    (
     p_runes_One_l0 (l, n, 0)
    : Option (Except (Int × Int) (Int))) >>= fun res => match res with
    | .error r => some r
    | .ok n2 =>
     p_runes_Good n2 >>= fun x1 =>
     if (!x1) then
      some (0, 0)
     else
      p_runes_put_nil n2 >>= fun x2 =>
      if ((List.length x2 : Int) != k) then
       some (0, 0)
      else
       some (n2, k)
def p_alex_lexer_byte (k : Int) (b : Str) (at_ : Int) (err : Int) (at_1 : Int) (why : Int) : Option (Int) :=
 if (decide ((w64 (at_ + k)) < (List.length b : Int))) then
  sget b (w64 (at_ + k)) >>= fun c =>
  some c
 else
  some 0
def p_alex_lexer_number (b : Str) (at_ : Int) (err : Int) (at_1 : Int) (why : Int) : Option (Bool) :=
 sfrom b at_ >>= fun s =>
 p_strings_CutPrefix s [194, 175] >>= fun (rest, below) =>
 if (decide ((List.length rest : Int) > 0)) then
  sget rest 0 >>= fun c =>
  p_alex_digit c >>= fun x =>
  if x then
   if below then
    some true
   else
    sget b at_ >>= fun c1 =>
    p_alex_digit c1 >>= fun x1 =>
    some x1
  else
   some false
 else
  some false
def p_arr_Atom (n : Int) : Option (Arr) :=
 some (Arr.mk [] [(Cell.mk 0 n [])])
def p_arr_Nums_l0 (a : ((List Int)) × Int × (List Cell)) : Option ((List Cell)) := match a with
 | (l, x, a1) =>
  if (decide (x < (List.length l : Int))) then
   lget l x >>= fun n =>
   lapp a1 [(Cell.mk 0 n [])] >>= fun l1 =>
   p_arr_Nums_l0 (l, (w64 (x + 1)), l1)
  else
   some a1
 partial_fixpoint
def p_arr_Nums (l : (List Int)) : Option (Arr) :=
 (
  p_arr_Nums_l0 (l, 0, [])
 : Option ((List Cell))) >>= fun a11 =>
 some (Arr.mk [(List.length l : Int)] a11)
def p_alex_lexer_numbers_l1 (a : Str × Int × Int × Int × Int) : Option (Int) := match a with
 | (b, x3, x4, x5, x11) =>
  p_alex_lexer_byte 0 b x11 x3 x4 x5 >>= fun x2 =>
  if (x2 == 32) then
   p_alex_lexer_numbers_l1 (b, x3, x4, x5, (w64 (x11 + 1)))
  else
   some x11
 partial_fixpoint
def p_alex_lexer_numbers_l0 (a : Str × (List Int) × Int × Int × Int × Int) : Option ((List Int) × Int × Int × Int × Int) := match a with
 | (b, l, x1, x3, x4, x5) =>
  if (x3 == 0) then
   (
    p_alex_lexer_numbers_l1 (b, x3, x4, x5, x1)
   : Option (Int)) >>= fun x12 =>
   if (x12 == x1) then
    some (l, x1, x3, x4, x5)
   else
    p_alex_lexer_number b x12 x3 x4 x5 >>= fun x6 =>
    if (!x6) then
     some (l, x1, x3, x4, x5)
    else
     p_alex_lexer_one b x12 x3 x4 x5 >>= fun (x7, at_4, err2, at_5, why2) =>
     lapp l [x7] >>= fun l1 =>
     p_alex_lexer_numbers_l0 (b, l1, at_4, err2, at_5, why2)
  else
   some (l, x1, x3, x4, x5)
 partial_fixpoint
def p_alex_lexer_numbers (b : Str) (at_ : Int) (err : Int) (at_1 : Int) (why : Int) : Option (Token × Int × Int × Int × Int) :=
 p_alex_lexer_one b at_ err at_1 why >>= fun (x, at_2, err1, at_3, why1) =>
 (
  p_alex_lexer_numbers_l0 (b, [x], at_2, err1, at_3, why1)
 : Option ((List Int) × Int × Int × Int × Int)) >>= fun (l2, c1, c3, c4, c5) =>
 p_arr_Nums l2 >>= fun x8 =>
 (
  if ((List.length l2 : Int) == 1) then
   lget l2 0 >>= fun y =>
   p_arr_Atom y >>= fun x9 =>
   some (x9.shape, x9.cells)
  else
   some (x8.shape, x8.cells)
 : Option ((List Int) × (List Cell))) >>= fun (t2, t3) =>
 some ((Token.mk 1 [] (Arr.mk t2 t3) at_), c1, c3, c4, c5)
def p_arr_Text_l0 (a : ((List Int)) × Int × (List Cell)) : Option ((List Cell)) := match a with
 | (l, x, a1) =>
  if (decide (x < (List.length l : Int))) then
   lget l x >>= fun n =>
   lapp a1 [(Cell.mk 1 n [])] >>= fun l1 =>
   p_arr_Text_l0 (l, (w64 (x + 1)), l1)
  else
   some a1
 partial_fixpoint
def p_arr_Text (l : (List Int)) : Option (Arr) :=
 (
  if ((List.length l : Int) == 1) then
   some []
  else
   some [(List.length l : Int)]
 : Option ((List Int))) >>= fun a0 =>
 (
  p_arr_Text_l0 (l, 0, [])
 : Option ((List Cell))) >>= fun a11 =>
 some (Arr.mk a0 a11)
def p_alex_lexer_text_l0 (a : Str × Int × Int × Int × Int × (List Int) × Int) : Option (Except (Token × Int × Int × Int × Int) (Unit)) := match a with
 | (b, at_, err, at_1, why, l, x1) =>
  if (decide (x1 ≥ (List.length b : Int))) then
   p_alex_lexer_fail 2 at_ b x1 err at_1 why >>= fun (err1, at_2, why1) =>
   some (.error ((Token.mk 2 [] (Arr.mk [] []) at_), x1, err1, at_2, why1))
  else
   sfrom b x1 >>= fun s =>
   sbytes s >>= fun b1 =>
   p_runes_One b1 >>= fun (n, k) =>
   (
    if (k == 0) then
     p_alex_lexer_fail 3 x1 b x1 err at_1 why >>= fun (err2, at_3, why2) =>
     some (.error ((Token.mk 2 [] (Arr.mk [] []) at_), x1, err2, at_3, why2))
    else
     if (n == 39) then
      p_alex_lexer_byte 1 b x1 err at_1 why >>= fun x =>
      if (x != 39) then
       p_arr_Text l >>= fun x2 =>
       some (.error ((Token.mk 2 [] x2 at_), (w64 (x1 + 1)), err, at_1, why))
      else
       if (n == 39) then
        some (.ok 2)
       else
        if (decide (n < 32)) then
         p_alex_lexer_fail 2 x1 b x1 err at_1 why >>= fun (err3, at_4, why3) =>
         some (.error ((Token.mk 2 [] (Arr.mk [] []) at_), x1, err3, at_4, why3))
        else
         if (n == 127) then
          p_alex_lexer_fail 2 x1 b x1 err at_1 why >>= fun (err4, at_5, why4) =>
          some (.error ((Token.mk 2 [] (Arr.mk [] []) at_), x1, err4, at_5, why4))
         else
          some (.ok k)
     else
      if (n == 39) then
       some (.ok 2)
      else
       if (decide (n < 32)) then
        p_alex_lexer_fail 2 x1 b x1 err at_1 why >>= fun (err5, at_6, why5) =>
        some (.error ((Token.mk 2 [] (Arr.mk [] []) at_), x1, err5, at_6, why5))
       else
        if (n == 127) then
         p_alex_lexer_fail 2 x1 b x1 err at_1 why >>= fun (err6, at_7, why6) =>
         some (.error ((Token.mk 2 [] (Arr.mk [] []) at_), x1, err6, at_7, why6))
        else
         some (.ok k)
   : Option (Except (Token × Int × Int × Int × Int) (Int))) >>= fun res => match res with
   | .error r => some (.error r)
   | .ok k1 =>
    lapp l [n] >>= fun l1 =>
    p_alex_lexer_text_l0 (b, at_, err, at_1, why, l1, (w64 (x1 + k1)))
 partial_fixpoint
def p_alex_lexer_text (b : Str) (at_ : Int) (err : Int) (at_1 : Int) (why : Int) : Option (Token × Int × Int × Int × Int) :=
 p_alex_lexer_text_l0 (b, at_, err, at_1, why, [], (w64 (at_ + 1))) >>= fun res => match res with
 | .error r => some r
 | .ok _ => none
def p_alex_letter (c : Int) : Option (Bool) :=
 if (decide (c ≥ 97)) then
  some (decide (c ≤ 119))
 else
  some false
def p_alex_lexer_name_l0 (a : Str × Int × Int × Int × Int × Int) : Option (Int) := match a with
 | (b, at_, err, at_1, why, k) =>
  p_alex_lexer_byte k b at_ err at_1 why >>= fun x =>
  p_alex_letter x >>= fun x1 =>
  if x1 then
   p_alex_lexer_name_l0 (b, at_, err, at_1, why, (w64 (k + 1)))
  else
   p_alex_lexer_byte k b at_ err at_1 why >>= fun x2 =>
   p_alex_digit x2 >>= fun x3 =>
   if x3 then
    p_alex_lexer_name_l0 (b, at_, err, at_1, why, (w64 (k + 1)))
   else
    some k
 partial_fixpoint
def p_alex_lexer_name (b : Str) (at_ : Int) (err : Int) (at_1 : Int) (why : Int) : Option (Token × Int × Int × Int × Int) :=
 (
  p_alex_lexer_name_l0 (b, at_, err, at_1, why, 1)
 : Option (Int)) >>= fun k1 =>
 smid b at_ (w64 (at_ + k1)) >>= fun s =>
 (
  if (decide (k1 > 8)) then
   p_alex_lexer_fail 2 at_ b at_ err at_1 why >>= fun (err1, at_2, why1) =>
   some (err1, at_2, why1)
  else
   some (err, at_1, why)
 : Option (Int × Int × Int)) >>= fun (x31, x4, x5) =>
 some ((Token.mk 3 s (Arr.mk [] []) at_), (w64 (at_ + k1)), x31, x4, x5)
def p_alex_lexer_word (b : Str) (at_ : Int) (err : Int) (at_1 : Int) (why : Int) : Option (Token × Int × Int × Int × Int) :=
 sfrom b at_ >>= fun s =>
 sbytes s >>= fun b1 =>
 p_runes_One b1 >>= fun (x, k) =>
 if (k == 0) then
  p_alex_lexer_fail 3 at_ b at_ err at_1 why >>= fun (err1, at_2, why1) =>
  some ((Token.mk 0 [] (Arr.mk [] []) 0), at_, err1, at_2, why1)
 else
  p_alex_lexer_byte 0 b at_ err at_1 why >>= fun c =>
  p_alex_lexer_number b at_ err at_1 why >>= fun x1 =>
  if x1 then
   p_alex_lexer_numbers b at_ err at_1 why >>= fun (x2, at_3, err2, at_4, why2) =>
   some (x2, at_3, err2, at_4, why2)
  else
   if (c == 39) then
    p_alex_lexer_text b at_ err at_1 why >>= fun (x3, at_5, err3, at_6, why3) =>
    some (x3, at_5, err3, at_6, why3)
   else
    p_alex_letter c >>= fun x4 =>
    if x4 then
     p_alex_lexer_name b at_ err at_1 why >>= fun (x5, at_7, err4, at_8, why4) =>
     some (x5, at_7, err4, at_8, why4)
    else
     go_fixed b at_ err at_1 why >>= fun (x6, ok) =>
     (
      if (!ok) then
       p_alex_lexer_fail 2 at_ b at_ err at_1 why >>= fun (err5, at_9, why5) =>
       some (err5, at_9, why5)
      else
       some (err, at_1, why)
     : Option (Int × Int × Int)) >>= fun (x31, x41, x51) =>
     some (x6, (w64 (at_ + (List.length x6.text : Int))), x31, x41, x51)
def p_alex_Lex_l0 (a : Str × Int × (List Token) × Int × Int × Int) : Option (Except ((List Token) × Fault) (Int × (List Token) × Int × Int × Int)) := match a with
 | (s, x1, x2, x3, x4, x5) =>
  if (decide (x1 < (List.length s : Int))) then
   if (x3 == 0) then
    sget s x1 >>= fun c =>
    if (c == 32) then
     p_alex_Lex_l0 (s, (w64 (x1 + 1)), x2, x3, x4, x5)
    else
     sfrom s x1 >>= fun s1 =>
     p_strings_HasPrefix s1 [226, 141, 157] >>= fun x =>
     if x then
      some (.error (x2, (Fault.mk 0 0 0)))
     else
      if ((List.length x2 : Int) == 2048) then
       some (.error ([], (Fault.mk 14 x1 0)))
      else
       p_alex_lexer_word s x1 x3 x4 x5 >>= fun (x6, at_, err, at_1, why) =>
       lapp x2 [x6] >>= fun l =>
       p_alex_Lex_l0 (s, at_, l, err, at_1, why)
   else
    some (.ok (x1, x2, x3, x4, x5))
  else
   some (.ok (x1, x2, x3, x4, x5))
 partial_fixpoint
def p_alex_Lex (s : Str) : Option ((List Token) × Fault) :=
 if (decide ((List.length s : Int) > 8192)) then
  some ([], (Fault.mk 14 0 0))
 else
  (
   p_alex_Lex_l0 (s, 0, [], 0, 0, 0)
  : Option (Except ((List Token) × Fault) (Int × (List Token) × Int × Int × Int))) >>= fun res => match res with
  | .error r => some r
  | .ok (x11, x21, x31, x41, x51) =>
   if (x31 != 0) then
    some ([], (Fault.mk x31 x41 x51))
   else
    some (x21, (Fault.mk 0 0 0))
def p_apl_origin_1 (t : Token) : Option (Bool) :=
 some true
def p_apl_origin_2 (t : Token) : Option (Bool) :=
 some (t.kind == 7)
def p_apl_origin_3 (t : Token) : Option (Bool) :=
 if (t.kind == 1) then
  if ((List.length t.lit.shape : Int) == 0) then
   lget t.lit.cells 0 >>= fun y =>
   if (y.n == 0) then
    some true
   else
    lget t.lit.cells 0 >>= fun y1 =>
    some (y1.n == 1)
  else
   some false
 else
  some false
def p_apl_origin_4 (t : Token) : Option (Bool) :=
 some (t.text == [226, 139, 132])
def p_apl_origin (l : (List Token)) (end_ : Int) : Option (Int × Int × Fault) :=
 if ((List.length l : Int) == 0) then
  some (1, 0, (Fault.mk 0 0 0))
 else
  lget l 0 >>= fun y =>
  if (!(y.text == [226, 142, 149, 73, 79])) then
   some (1, 0, (Fault.mk 0 0 0))
  else
   if (decide (0 ≥ (List.length l : Int))) then
    some (0, 0, (Fault.mk 2 end_ 0))
   else
    lget l 0 >>= fun y1 =>
    p_apl_origin_1 y1 >>= fun x =>
    if (!x) then
     lget l 0 >>= fun y2 =>
     some (0, 0, (Fault.mk 2 y2.at_ 0))
    else
     if (decide (1 ≥ (List.length l : Int))) then
      some (0, 0, (Fault.mk 2 end_ 0))
     else
      lget l 1 >>= fun y3 =>
      p_apl_origin_2 y3 >>= fun x1 =>
      if (!x1) then
       lget l 1 >>= fun y4 =>
       some (0, 0, (Fault.mk 2 y4.at_ 0))
      else
       if (decide (2 ≥ (List.length l : Int))) then
        some (0, 0, (Fault.mk 2 end_ 0))
       else
        lget l 2 >>= fun y5 =>
        p_apl_origin_3 y5 >>= fun x2 =>
        if (!x2) then
         lget l 2 >>= fun y6 =>
         some (0, 0, (Fault.mk 2 y6.at_ 0))
        else
         if (decide (3 ≥ (List.length l : Int))) then
          some (0, 0, (Fault.mk 2 end_ 0))
         else
          lget l 3 >>= fun y7 =>
          p_apl_origin_4 y7 >>= fun x3 =>
          if (!x3) then
           lget l 3 >>= fun y8 =>
           some (0, 0, (Fault.mk 2 y8.at_ 0))
          else
           lget l 2 >>= fun y9 =>
           lget y9.lit.cells 0 >>= fun y10 =>
           some (y10.n, 4, (Fault.mk 0 0 0))
def p_apl_Parse (s : Str) : Option (Prgm × Fault) :=
 p_alex_Lex s >>= fun (l, x) =>
 if (x.err != 0) then
  some ((Prgm.mk [] 0 (Node.mk 0 0 [] (Arr.mk [] []) [] 0)), x)
 else
  p_apl_origin l (List.length s : Int) >>= fun (from_, k, x1) =>
  if (x1.err != 0) then
   some ((Prgm.mk [] 0 (Node.mk 0 0 [] (Arr.mk [] []) [] 0)), x1)
  else
   lfrom l k >>= fun l1 =>
   if (decide ((List.length l1 : Int) > 1)) then
    lget l1 0 >>= fun y =>
    if (y.kind == 3) then
     lget l1 1 >>= fun y1 =>
     if (y1.kind == 7) then
      lget l1 0 >>= fun y2 =>
      p_core_Name y2.text >>= fun x2 =>
      (
       if x2 then
        lget l1 0 >>= fun y3 =>
        lfrom l1 2 >>= fun l2 =>
        some (l2, y3.text)
       else
        some (l1, [])
      : Option ((List Token) × Str)) >>= fun (l3, p0) =>
      p_apl_Grammar >>= fun x3 =>
      p_grammar_Parse x3 l3 (List.length s : Int) >>= fun (x4, x5) =>
      if (x5.err != 0) then
       some ((Prgm.mk [] 0 (Node.mk 0 0 [] (Arr.mk [] []) [] 0)), x5)
      else
       some ((Prgm.mk p0 from_ x4), (Fault.mk 0 0 0))
     else
      p_apl_Grammar >>= fun x6 =>
      p_grammar_Parse x6 l1 (List.length s : Int) >>= fun (x7, x8) =>
      if (x8.err != 0) then
       some ((Prgm.mk [] 0 (Node.mk 0 0 [] (Arr.mk [] []) [] 0)), x8)
      else
       some ((Prgm.mk [] from_ x7), (Fault.mk 0 0 0))
    else
     p_apl_Grammar >>= fun x9 =>
     p_grammar_Parse x9 l1 (List.length s : Int) >>= fun (x10, x11) =>
     if (x11.err != 0) then
      some ((Prgm.mk [] 0 (Node.mk 0 0 [] (Arr.mk [] []) [] 0)), x11)
     else
      some ((Prgm.mk [] from_ x10), (Fault.mk 0 0 0))
   else
    p_apl_Grammar >>= fun x12 =>
    p_grammar_Parse x12 l1 (List.length s : Int) >>= fun (x13, x14) =>
    if (x14.err != 0) then
     some ((Prgm.mk [] 0 (Node.mk 0 0 [] (Arr.mk [] []) [] 0)), x14)
    else
     some ((Prgm.mk [] from_ x13), (Fault.mk 0 0 0))
def p_spell_Write (g : Grammar) (n : Node) : Option (Str × Int) :=
 p_spell_writer_expr (n, (Spell_writer.mk g [] g.right 0 false)) >>= fun (out, nodes, bad) =>
 if bad then
  some ([], 1)
 else
  go_Join out [] >>= fun x =>
  some (x, 0)
def p_arr_Same (a_ : Arr) (b : Arr) : Option (Bool) :=
 p_arr_Cmp (a_, b) >>= fun x =>
 some (x == 0)
mutual
def p_core_Same_l0 (a : Node × Node × Int) : Option (Except (Bool) (Unit)) := match a with
 | (a_, b, x1) =>
  if (decide (x1 < (List.length a_.kids : Int))) then
   lget a_.kids x1 >>= fun y =>
   lget b.kids x1 >>= fun y1 =>
   p_core_Same (y, y1) >>= fun x2 =>
   if (!x2) then
    some (.error false)
   else
    p_core_Same_l0 (a_, b, (w64 (x1 + 1)))
  else
   some (.ok ())
 partial_fixpoint
def p_core_Same (a : Node × Node) : Option (Bool) := match a with
 | (a_, b) =>
  if (a_.kind != b.kind) then
   some false
  else
   if (a_.op_ != b.op_) then
    some false
   else
    if (!(a_.name == b.name)) then
     some false
    else
     p_arr_Same a_.lit b.lit >>= fun x =>
     if (!x) then
      some false
     else
      if ((List.length a_.kids : Int) != (List.length b.kids : Int)) then
       some false
      else
       (
        p_core_Same_l0 (a_, b, 0)
       : Option (Except (Bool) (Unit))) >>= fun res => match res with
       | .error r => some r
       | .ok _ =>
        some true
 partial_fixpoint
end
def p_apl_Print (p : Prgm) : Option (Str × Int) :=
 if (!(p.set_ == [])) then
  p_core_Name p.set_ >>= fun x =>
  if (!x) then
   some ([], 1)
  else
   if (p.origin != 0) then
    if (p.origin != 1) then
     some ([], 1)
    else
     p_apl_Grammar >>= fun x1 =>
     p_spell_Write x1 p.expr >>= fun (s, e) =>
     if (e != 0) then
      some ([], e)
     else
      (
       if (!(p.set_ == [])) then
        scat p.set_ [32, 226, 134, 144, 32] >>= fun s1 =>
        scat s1 s >>= fun s2 =>
        some s2
       else
        some s
      : Option (Str)) >>= fun s3 =>
      (
       if (p.origin == 0) then
        scat [226, 142, 149, 73, 79, 32, 226, 134, 144, 32, 48, 32, 226, 139, 132, 32] s3 >>= fun s4 =>
        some s4
       else
        some s3
      : Option (Str)) >>= fun s5 =>
      p_apl_Parse s5 >>= fun (x2, x3) =>
      if (x3.err != 0) then
       some ([], 1)
      else
       if (!(x2.set_ == p.set_)) then
        some ([], 1)
       else
        if (x2.origin != p.origin) then
         some ([], 1)
        else
         p_core_Same (x2.expr, p.expr) >>= fun x4 =>
         if (!x4) then
          some ([], 1)
         else
          some (s5, 0)
   else
    p_apl_Grammar >>= fun x5 =>
    p_spell_Write x5 p.expr >>= fun (s6, e1) =>
    if (e1 != 0) then
     some ([], e1)
    else
     (
      if (!(p.set_ == [])) then
       scat p.set_ [32, 226, 134, 144, 32] >>= fun s7 =>
       scat s7 s6 >>= fun s8 =>
       some s8
      else
       some s6
     : Option (Str)) >>= fun s9 =>
     (
      if (p.origin == 0) then
       scat [226, 142, 149, 73, 79, 32, 226, 134, 144, 32, 48, 32, 226, 139, 132, 32] s9 >>= fun s10 =>
       some s10
      else
       some s9
     : Option (Str)) >>= fun s11 =>
     p_apl_Parse s11 >>= fun (x6, x7) =>
     if (x7.err != 0) then
      some ([], 1)
     else
      if (!(x6.set_ == p.set_)) then
       some ([], 1)
      else
       if (x6.origin != p.origin) then
        some ([], 1)
       else
        p_core_Same (x6.expr, p.expr) >>= fun x8 =>
        if (!x8) then
         some ([], 1)
        else
         some (s11, 0)
 else
  if (p.origin != 0) then
   if (p.origin != 1) then
    some ([], 1)
   else
    p_apl_Grammar >>= fun x9 =>
    p_spell_Write x9 p.expr >>= fun (s12, e2) =>
    if (e2 != 0) then
     some ([], e2)
    else
     (
      if (!(p.set_ == [])) then
       scat p.set_ [32, 226, 134, 144, 32] >>= fun s13 =>
       scat s13 s12 >>= fun s14 =>
       some s14
      else
       some s12
     : Option (Str)) >>= fun s15 =>
     (
      if (p.origin == 0) then
       scat [226, 142, 149, 73, 79, 32, 226, 134, 144, 32, 48, 32, 226, 139, 132, 32] s15 >>= fun s16 =>
       some s16
      else
       some s15
     : Option (Str)) >>= fun s17 =>
     p_apl_Parse s17 >>= fun (x10, x11) =>
     if (x11.err != 0) then
      some ([], 1)
     else
      if (!(x10.set_ == p.set_)) then
       some ([], 1)
      else
       if (x10.origin != p.origin) then
        some ([], 1)
       else
        p_core_Same (x10.expr, p.expr) >>= fun x12 =>
        if (!x12) then
         some ([], 1)
        else
         some (s17, 0)
  else
   p_apl_Grammar >>= fun x13 =>
   p_spell_Write x13 p.expr >>= fun (s18, e3) =>
   if (e3 != 0) then
    some ([], e3)
   else
    (
     if (!(p.set_ == [])) then
      scat p.set_ [32, 226, 134, 144, 32] >>= fun s19 =>
      scat s19 s18 >>= fun s20 =>
      some s20
     else
      some s18
    : Option (Str)) >>= fun s21 =>
    (
     if (p.origin == 0) then
      scat [226, 142, 149, 73, 79, 32, 226, 134, 144, 32, 48, 32, 226, 139, 132, 32] s21 >>= fun s22 =>
      some s22
     else
      some s21
    : Option (Str)) >>= fun s23 =>
    p_apl_Parse s23 >>= fun (x14, x15) =>
    if (x15.err != 0) then
     some ([], 1)
    else
     if (!(x14.set_ == p.set_)) then
      some ([], 1)
     else
      if (x14.origin != p.origin) then
       some ([], 1)
      else
       p_core_Same (x14.expr, p.expr) >>= fun x16 =>
       if (!x16) then
        some ([], 1)
       else
        some (s23, 0)
def p_triglyphref03_ints (a_ : Int) (b : Int) : Option (Int) :=
 if (decide (a_ < b)) then
  some (-1)
 else
  if (decide (a_ > b)) then
   some 1
  else
   some 0
def p_triglyphref03_Cmp_l0 (a : Arr × Arr × Int × Int) : Option (Int) := match a with
 | (a_, b, o1, i) =>
  if (decide (i < (List.length a_.shape : Int))) then
   if (o1 == 0) then
    lget a_.shape i >>= fun y =>
    lget b.shape i >>= fun y1 =>
    p_triglyphref03_ints y y1 >>= fun o2 =>
    p_triglyphref03_Cmp_l0 (a_, b, o2, (w64 (i + 1)))
   else
    some o1
  else
   some o1
 partial_fixpoint
mutual
def p_triglyphref03_Cmp_l1 (a : Arr × Arr × Int × Int) : Option (Int) := match a with
 | (a_, b, o4, i1) =>
  if (decide (i1 < (List.length a_.cells : Int))) then
   if (decide (i1 < (List.length b.cells : Int))) then
    if (o4 == 0) then
     lget a_.cells i1 >>= fun y2 =>
     lget b.cells i1 >>= fun y3 =>
     p_triglyphref03_Cell (y2, y3) >>= fun o5 =>
     p_triglyphref03_Cmp_l1 (a_, b, o5, (w64 (i1 + 1)))
    else
     some o4
   else
    some o4
  else
   some o4
 partial_fixpoint
def p_triglyphref03_Cmp (a : Arr × Arr) : Option (Int) := match a with
 | (a_, b) =>
  p_triglyphref03_ints (List.length a_.shape : Int) (List.length b.shape : Int) >>= fun o =>
  (
   p_triglyphref03_Cmp_l0 (a_, b, o, 0)
  : Option (Int)) >>= fun o3 =>
  (
   p_triglyphref03_Cmp_l1 (a_, b, o3, 0)
  : Option (Int)) >>= fun o6 =>
  (
   if (o6 == 0) then
    p_triglyphref03_ints (List.length a_.cells : Int) (List.length b.cells : Int) >>= fun o7 =>
    some o7
   else
    some o6
  : Option (Int)) >>= fun o8 =>
  some o8
 partial_fixpoint
def p_triglyphref03_Cell (a : Cell × Cell) : Option (Int) := match a with
 | (a_, b) =>
  p_triglyphref03_ints a_.kind b.kind >>= fun o =>
  (
   if (o == 0) then
    p_triglyphref03_ints a_.n b.n >>= fun o1 =>
    some o1
   else
    some o
  : Option (Int)) >>= fun o2 =>
  if (o2 == 0) then
   if (decide ((List.length a_.box : Int) > 0)) then
    if (decide ((List.length b.box : Int) > 0)) then
     lget a_.box 0 >>= fun y =>
     lget b.box 0 >>= fun y1 =>
     p_triglyphref03_Cmp (y, y1) >>= fun x =>
     some x
    else
     (
      if (o2 == 0) then
       p_triglyphref03_ints (List.length a_.box : Int) (List.length b.box : Int) >>= fun o3 =>
       some o3
      else
       some o2
     : Option (Int)) >>= fun o4 =>
     some o4
   else
    (
     if (o2 == 0) then
      p_triglyphref03_ints (List.length a_.box : Int) (List.length b.box : Int) >>= fun o5 =>
      some o5
     else
      some o2
    : Option (Int)) >>= fun o6 =>
    some o6
  else
   (
    if (o2 == 0) then
     p_triglyphref03_ints (List.length a_.box : Int) (List.length b.box : Int) >>= fun o7 =>
     some o7
    else
     some o2
   : Option (Int)) >>= fun o8 =>
   some o8
 partial_fixpoint
end
mutual
def p_triglyphref10_Same_l0 (a : Node × Node × Int) : Option (Except (Bool) (Unit)) := match a with
 | (a_, b, i) =>
  if (decide (i < (List.length a_.kids : Int))) then
   lget a_.kids i >>= fun y =>
   lget b.kids i >>= fun y1 =>
   p_triglyphref10_Same (y, y1) >>= fun x1 =>
   if (!x1) then
    some (.error false)
   else
    p_triglyphref10_Same_l0 (a_, b, (w64 (i + 1)))
  else
   some (.ok ())
 partial_fixpoint
def p_triglyphref10_Same (a : Node × Node) : Option (Bool) := match a with
 | (a_, b) =>
  if (a_.kind != b.kind) then
   some false
  else
   if (a_.op_ != b.op_) then
    some false
   else
    if (!(a_.name == b.name)) then
     some false
    else
     if ((List.length a_.kids : Int) != (List.length b.kids : Int)) then
      some false
     else
      p_triglyphref03_Cmp (a_.lit, b.lit) >>= fun x =>
      if (x != 0) then
       some false
      else
       (
        p_triglyphref10_Same_l0 (a_, b, 0)
       : Option (Except (Bool) (Unit))) >>= fun res => match res with
       | .error r => some r
       | .ok _ =>
        some true
 partial_fixpoint
end
def p_triglyphref17_Same (a_ : Prgm) (b : Prgm) : Option (Bool) :=
 if (a_.set_ == b.set_) then
  if (a_.origin == b.origin) then
   p_triglyphref10_Same (a_.expr, b.expr) >>= fun x =>
   some x
  else
   some false
 else
  some false
def p_triglyphlaw17_AplOnce (s : Str) : Option (Bool) :=
 if (decide ((List.length s : Int) > 2000)) then
  go_works >>= fun x =>
  some x
 else
  p_apl_Parse s >>= fun (x1, x2) =>
  if (x2.err != 0) then
   go_works >>= fun x3 =>
   some x3
  else
   p_apl_Print x1 >>= fun (t, e) =>
   if (e != 0) then
    go_works >>= fun x4 =>
    some x4
   else
    p_apl_Parse t >>= fun (x5, x6) =>
    p_apl_Print x5 >>= fun (u, e1) =>
    if (x6.err == 0) then
     if (e1 == 0) then
      if (t == u) then
       p_triglyphref17_Same x1 x5 >>= fun x7 =>
       if x7 then
        go_works >>= fun x8 =>
        some x8
       else
        some false
      else
       some false
     else
      some false
    else
     some false
end Go.AM.Seat

namespace Go.AM
open Go
variable [Globs]
def wpN (X : Ctx) (sz : Nat) (c : Code) (Q : AX → St → Prop) (s : St) : Prop :=
 (∀ k, CallsOK X.P (X.call k)) → ProgOK X.P → ∀ (K : Col) (μ : Nat → Nat) (w : World) (a : Act) (Qm : Exit → Act → World → Prop),
  Sim K μ s a w → a.tmps.size = sz → (∀ x s', Q x s' → Goal K μ w s.nid sz x s' Qm) → c.wp X.P Qm a w
inductive seqN (X : Ctx) (sz : Nat) (b : Code) (Q : AX → St → Prop) : AX → St → Prop where
 | normal {s : St} : wpN X sz b Q s → seqN X sz b Q .normal s
 | exit {id : Nat} {s : St} : Q (.exit id) s → seqN X sz b Q (.exit id) s
 | ret {s : St} : Q .ret s → seqN X sz b Q .ret s
 | pan {d : D} {s : St} : Q (.pan d) s → seqN X sz b Q (.pan d) s
section
variable {X : Ctx} {f sz : Nat} {Q : AX → St → Prop} {s : St}
theorem wpN_of {c : Code} (h : awp X f c Q s) (hd : dstsBelow sz c = true) : wpN X sz c Q s := by
 intro hc hP K μ w a Qm hs hsz hg
 obtain ⟨x, s', ⟨k0, hk⟩, hq⟩ := h.ex
 exact aexec_sound (hc k0) hP c hd (hk k0 (Nat.le_refl _)) hs hsz (hg x s' hq)
theorem wpN_seq' {b c : Code} (h : wpN X sz c (seqN X sz b Q) s) : wpN X sz (.seq c b) Q s := by
 intro hc hP K μ w a Qm hs hsz hg
 refine wp_seq (h hc hP K μ w a _ hs hsz ?_)
 intro x s' hq e K' μ' a' w' ho ha hn hs' hsz'
 cases hq with
 | normal hb =>
  simp only [Out] at ho; subst ho
  exact hb hc hP K' μ' w' a' Qm hs' hsz' fun x s'' hq' => (hg x s'' hq').later ha hn
 | exit hq => simp only [Out] at ho; subst ho; exact hg _ _ hq _ K' μ' a' w' rfl ha hn hs' hsz'
 | ret hq => simp only [Out] at ho; subst ho; exact hg _ _ hq _ K' μ' a' w' rfl ha hn hs' hsz'
 | pan hq => obtain ⟨u, rfl, hu⟩ := ho; exact hg _ _ hq _ K' μ' a' w' ⟨u, rfl, hu⟩ ha hn hs' hsz'
theorem wpN_seq {b c : Code} (h : awp X f c (seqN X sz b Q) s) (hd : dstsBelow sz c = true) : wpN X sz (.seq c b) Q s :=
 wpN_seq' (wpN_of h hd)
theorem callOK_of_wpN (hX : ∀ k, CallsOK X.P (X.call k)) (hP : ProgOK X.P) {fn : Func} {code : Code} {args : List C} {lh : List (List C)} {r : CRes} (hf : X.P.funcs[f]? = some fn) (hb : fn.body = some code)
  (hl : args.length = fn.params.size + fn.nfree) (hnt : fn.params.size + fn.nfree ≤ fn.ntmps) (h : wpN X fn.ntmps code (atEnd X fn lh.length r) (enterSt args lh)) : CallOK X.P f args lh r := by
 intro K μ w vs hr hi hh hbk hgl
 have hvl : vs.length = args.length := hr.length.symm
 have hsim := sim_enter (n := fn.ntmps - vs.toArray.size) hr hi hh hbk hgl
 refine calls_of_wp_defers (R := fun e w' => EndOK K μ w lh.length r e w') hf hb (h hX hP K μ w _ _ hsim (by simp; omega) ?_)
 intro x s' hq e K' μ' a' w' ho ha hn hs' hsz
 obtain ⟨k0, hk⟩ := hq.ex
 exact finish_sound hP X.H (hX k0) k0 (hk k0 (Nat.le_refl _)) ho ha hn hs'
theorem aval_endN {fn : Func} {code : Code} {args : List C} {lh : List (List C)} {r : CRes} {tm : List (Nat × V)} {hp : List (Nat × List C)} {n : Nat}
  (ht : zipIdx' 0 (args.map fun c => V.c c.plain) = tm) (hh : zipIdx' 0 lh = hp) (hn : lh.length = n) (h : wpN X sz code (atEnd X fn n r) ⟨tm, hp, n, [], none⟩) : wpN X sz code (atEnd X fn lh.length r) (enterSt args lh) := by
 unfold enterSt; rw [ht, hh, hn]; exact h
end
section
variable {P : Program} {K K' : Col} {μ μ' : Nat → Nat} {w w' : World} {s : St} {a : Act}
theorem evOps_pre {call : Call} (hcall : CallsOK P call) (hP : ProgOK P) {ops : Array Oper} {sz : Nat} (hd : ∀ o ∈ ops.toList, ∀ t, o.dst = some t → t < sz) {s' : St} {fs' : List Foot}
  {Q : Exit → Act → World → Prop} (post : List Oper) : ∀ (l : List Oper) (i : Nat) (K : Col) (μ : Nat → Nat) (s : St) (a : Act) (w : World) (fs : List Foot), ops.toList.drop i = l ++ post → evOps P call ops l s fs = some (.normal, s', fs') →
   Sim K μ s a w → a.tmps.size = sz →
   (∀ K' μ' a' w', After K μ w s.nid K' μ' w' → s.nid ≤ s'.nid → Sim K' μ' s' a' w' → a'.tmps.size = sz → wpOps P ops Q (List.range' (i + l.length) post.length) a' w') →
   wpOps P ops Q (List.range' i (l.length + post.length)) a w
 | [], i, K, μ, s, a, w, fs, _, h, hs, hsz, hg => by
  simp only [evOps, Option.some.injEq, Prod.mk.injEq, true_and] at h
  obtain ⟨rfl, rfl⟩ := h
  simpa using hg K μ a w (After.refl _ _ _ _) (Nat.le_refl _) hs hsz
 | o :: l, i, K, μ, s, a, w, fs, hl, h, hs, hsz, hg => by
  have hoi : ops[i]? = some o := by
   have : (ops.toList.drop i)[0]? = some o := by rw [hl]; rfl
   rw [get_drop] at this
   simpa using this
  have hl' : ops.toList.drop (i + 1) = l ++ post := by
   rw [← List.drop_drop, hl]; rfl
  have hom : o ∈ ops.toList := by
   have : o ∈ ops.toList.drop i := by rw [hl]; simp
   exact List.mem_of_mem_drop this
  have hdo : ∀ t, o.dst = some t → t < a.tmps.size := by rw [hsz]; exact hd o hom
  rw [List.length_cons, show l.length + 1 + post.length = (l.length + post.length) + 1 from by omega, List.range'_succ]
  simp only [wpOps, hoi]
  simp only [evOps] at h
  split at h
  ·simp at h
  ·rename_i hw
   rw [wanted_eq hs hw]
   simp only [Bool.false_eq_true, if_false]
   have hs' := hs.put (dst := o.dst) (V := .c .undef) (v := Go.undef) hdo good_undef
   have hn : (putDst o (.c .undef) s).nid = s.nid := by unfold putDst putSt; cases o.dst <;> rfl
   refine evOps_pre hcall hP hd post l (i + 1) K μ _ _ w _ hl' h hs' (by rw [put_size]; exact hsz) ?_
   intro K' μ' a' w' hA h3 hs2 hsz2
   rw [hn] at hA h3
   have := hg K' μ' a' w' hA h3 hs2 hsz2
   rw [List.length_cons, show i + (l.length + 1) = i + 1 + l.length from by omega] at this
   exact this
  ·rename_i hw
   rw [wanted_eq hs hw]
   simp only [if_true]
   split at h
   ·simp at h
   ·simp at h
   ·rename_i v s1 f hop
    refine .inl (op_sound hcall hP hs hop hdo ⟨?_, by simp⟩)
    intro V s'' K' μ' a' w' e haf hn hs' hsz'
    simp only [ORes.val.injEq] at e
    obtain ⟨rfl, rfl⟩ := e
    have hn' : (putDst o v s1).nid = s1.nid := by unfold putDst putSt; cases o.dst <;> rfl
    refine evOps_pre hcall hP hd post l (i + 1) K' μ' _ a' w' _ hl' h hs' (by rw [hsz', hsz]) ?_
    intro K2 μ2 a2 w2 hA h3 hs2 hsz2
    rw [hn'] at hA h3
    have := hg K2 μ2 a2 w2 (haf.trans hA hn) (by omega) hs2 hsz2
    rw [List.length_cons, show i + (l.length + 1) = i + 1 + l.length from by omega] at this
    exact this
theorem look_dropB {b b' : Nat} : ∀ {hp : List (Nat × List C)}, look b' (hp.filter fun p => p.1 != b) = if b' = b then none else look b' hp
 | [] => by simp [look]
 | (j, c) :: r => by
  have ih := look_dropB (b := b) (b' := b') (hp := r)
  by_cases hj : j = b
  ·subst hj
   simp only [List.filter_cons, bne_self_eq_false, Bool.false_eq_true, if_false, ih, look]
   by_cases h : b' = j
   ·simp [h]
   ·rw [if_neg h, if_neg h, if_neg (Ne.symm h)]
  ·have : (j != b) = true := by simp [hj]
   simp only [List.filter_cons, this, if_true, look, ih]
   by_cases h : j = b'
   ·subst h; simp [hj]
   ·simp [h]
def colGone (K : Col) (b : Nat) : Col := fun g o => if K g o = .blk b then .other else K g o
theorem step_gone {b : Nat} {w : World} : Step (fun t => t = .blk b) K w (colGone K b) w :=
 ⟨rfl, rfl, rfl, Nat.le_refl _, fun _ _ _ => rfl, fun g o _ hn => ⟨rfl, rfl, by simp only [colGone]; rw [if_neg hn]⟩⟩
theorem Sim.gone (h : Sim K μ s a w) (b : Nat) : Sim (colGone K b) μ { s with heap := s.heap.filter fun p => p.1 != b } a w := by
 have h1 : Sim K μ { s with heap := s.heap.filter fun p => p.1 != b } a w := by
  refine ⟨h.tm, h.tids, h.own, ?_, ?_, h.bound, h.defs, h.dids, h.glob⟩
  ·intro t l sz xs ht
   have hv := h.view t l sz xs ht
   cases l with
   | tmp u => exact hv
   | cell b' off =>
    intro cells z ys hb hc
    rw [look_dropB] at hb
    split at hb
    ·simp at hb
    ·exact hv cells z ys hb hc
  ·intro b' cells hb
   rw [look_dropB] at hb
   split at hb
   ·simp at hb
   ·exact h.heap b' cells hb
 refine h1.step step_gone (by simp) ?_ (by simp) ?_
 ·intro b' cells hb e
  simp only [Tag.blk.injEq] at e
  subst e
  rw [look_dropB, if_pos rfl] at hb
  simp at hb
 ·intro g o hl
  simp only [colGone, h.bound g o hl]
  simp
end
end Go.AM

namespace Go.AM
open Go
open Go.ChangeMaps (setBlock)
variable [Globs]
def kvM (kvs : List (D × D)) : List (D × MV) := kvs.map fun p => (p.1, .d p.2)
def EntRep (K : Col) (w : World) (kvs : List (D × D)) (es : List MapEntry) : Prop :=
 kvs.length = es.length ∧ ∀ (i : Nat) (k v : D), kvs[i]? = some (k, v) → ∃ e : MapEntry, es[i]? = some e ∧ Rep K w k e.key ∧ Rep K w v e.val
theorem entRep_of {K : Col} {μ : Nat → Nat} {w : World} : ∀ {kvs : List (D × D)} {es : List MapEntry}, MapRep K μ w (kvM kvs) es → EntRep K w kvs es
 | [], es, h => by
  simp only [kvM, List.map_nil, MapRep] at h
  subst h
  exact ⟨rfl, fun i k v h => by simp at h⟩
 | (k, v) :: r, es, h => by
  simp only [kvM, List.map_cons, MapRep] at h
  obtain ⟨e, es', rfl, h1, h2, h3⟩ := h
  obtain ⟨g1, g2⟩ := entRep_of h3
  refine ⟨by simp [g1], fun i k' v' hi => ?_⟩
  cases i with
  | zero =>
   simp only [List.getElem?_cons_zero, Option.some.injEq, Prod.mk.injEq] at hi
   obtain ⟨rfl, rfl⟩ := hi
   exact ⟨e, by simp, h1, by simpa [MV.toC, RepC] using h2⟩
  | succ i =>
   simp only [List.getElem?_cons_succ] at hi ⊢
   exact g2 i k' v' hi
theorem EntRep.step {W : Tag → Prop} {K K' : Col} {w w' : World} {kvs : List (D × D)} {es : List MapEntry} (h : EntRep K w kvs es) (hs : Step W K w K' w') (hro : ¬ W .ro) : EntRep K' w' kvs es :=
 ⟨h.1, fun i k v hi => by
  obtain ⟨e, h1, h2, h3⟩ := h.2 i k v hi
  exact ⟨e, h1, Rep.step hs hro _ _ h2, Rep.step hs hro _ _ h3⟩⟩
theorem step_block {K : Col} {w w' : World} {r : Nat} {o : Obj} (hw : w' = w ∨ w' = w.drew) (hK : ∀ off, K r off = .other) : Step (fun t => t = .other) K w K (setBlock w' r o) := by
 have hh : w'.heap = w.heap := by rcases hw with rfl | rfl <;> rfl
 have hne : ∀ b, b ≠ r → (setBlock w' r o).heap[b]? = w.heap[b]? := by
  intro b hb
  simp only [setBlock, hh]
  rw [Array.getElem?_setIfInBounds_ne (Ne.symm hb)]
 refine ⟨?_, ?_, ?_, ?_, fun b _ hn => ?_, fun b off _ hn => ?_⟩
 ·rcases hw with rfl | rfl <;> rfl
 ·rcases hw with rfl | rfl <;> rfl
 ·rcases hw with rfl | rfl <;> rfl
 ·simp [setBlock, hh]
 ·refine hne b ?_
  rintro rfl
  exact hn 0 (hK 0)
 ·have hb : b ≠ r := by
   rintro rfl
   exact hn (hK off)
  exact ⟨cell_of_block (hne b hb) off, frozen_of_block (hne b hb) off, rfl⟩
theorem after_block {K₀ K : Col} {μ₀ μ : Nat → Nat} {w₀ w w' : World} {n r : Nat} {o : Obj} (h : After K₀ μ₀ w₀ n K μ w) (hw : w' = w ∨ w' = w.drew) (hK : ∀ off, K r off = .other) (hr : w₀.heap.size ≤ r) : After K₀ μ₀ w₀ n K μ (setBlock w' r o) := by
 have hh : w'.heap = w.heap := by rcases hw with rfl | rfl <;> rfl
 have hne : ∀ b, b ≠ r → (setBlock w' r o).heap[b]? = w.heap[b]? := by
  intro b hb
  simp only [setBlock, hh]
  rw [Array.getElem?_setIfInBounds_ne (Ne.symm hb)]
 refine ⟨⟨?_, ?_, ?_, ?_, fun b hb hn => ?_, fun b off hb hn => ?_⟩, h.mu⟩
 ·rw [← h.step.os]; rcases hw with rfl | rfl <;> rfl
 ·rw [← h.step.tape]; rcases hw with rfl | rfl <;> rfl
 ·rw [← h.step.output]; rcases hw with rfl | rfl <;> rfl
 ·have := h.step.size
  simp [setBlock, hh]
  omega
 ·rw [hne b (by omega)]; exact h.step.block b hb hn
 ·have hb' : b ≠ r := by omega
  obtain ⟨g1, g2, g3⟩ := h.step.cell b off hb hn
  exact ⟨(cell_of_block (hne b hb') off).trans g1, (frozen_of_block (hne b hb') off).trans g2, g3⟩
section
variable {X : Ctx} {sz : Nat} {Q : AX → St → Prop}
def opsTo (X : Ctx) (ops : Array Oper) (l : List Oper) (s s' : St) : Prop := awpO X ops l (fun x t => x = .normal ∧ t = s') s
theorem opsTo.sound {ops : Array Oper} {l : List Oper} {s s' : St} (h : opsTo X ops l s s') (hc : ∀ k, CallsOK X.P (X.call k)) (hP : ProgOK X.P) {i : Nat} (hd : ∀ o ∈ ops.toList, ∀ t, o.dst = some t → t < sz) (hl : ops.toList.drop i = l)
  {K : Col} {μ : Nat → Nat} {a : Act} {w : World} {Qm : Exit → Act → World → Prop} (hs : Sim K μ s a w) (hsz : a.tmps.size = sz)
  (hg : ∀ K' μ' a' w', After K μ w s.nid K' μ' w' → s.nid ≤ s'.nid → Sim K' μ' s' a' w' → a'.tmps.size = sz → Qm .normal a' w') : wpOps X.P ops Qm (List.range' i l.length) a w := by
 obtain ⟨x, s1, ⟨k0, hk0⟩, rfl, rfl⟩ := h.ex
 obtain ⟨fs', hev⟩ := hk0 k0 (Nat.le_refl _) []
 refine evOps_sound (hc k0) hP hd l i K μ s a w [] hl hev hs hsz ?_
 intro e K' μ' a' w' ho ha hn hs' hsz'
 simp only [Out] at ho; subst ho
 exact hg K' μ' a' w' ha hn hs' hsz'
theorem wanted_none {K : Col} {μ : Nat → Nat} {s : St} {a : Act} {w : World} (hs : Sim K μ s a w) {ops : Array Oper} {o : Oper} (hg : o.guard = none) : Region.wanted o (yielded ops a.tmps) = true :=
 wanted_eq hs (b := true) (by simp [wantedAt, hg])
theorem good_c {K : Col} {μ : Nat → Nat} {s : St} {a : Act} {w : World} {dst : Option Nat} {c : C} {v : Value} (hr : RepC K μ w c v) (hi : ∀ b ∈ c.ids, b < s.nid) (hno : ∀ z xs, c ≠ .own z xs) : Good K μ s a w dst (.c c) v :=
 ⟨by simpa [RepV] using hr, by simpa [V.ids] using hi, fun z xs e => absurd (by simpa using e) (hno z xs), by simp⟩
theorem good_tuple {K : Col} {μ : Nat → Nat} {s : St} {a : Act} {w : World} {dst : Option Nat} {ds : List D} {vs : List Value} (hr : RepCs K μ w (ds.map .d) vs) : Good K μ s a w dst (.tuple (ds.map .d)) (.tuple vs.toArray) :=
 ⟨by simp only [RepV]; exact ⟨vs, rfl, hr⟩, by simp [V.ids, C.ids], by simp, by simp⟩
theorem wpN_range {id9 id10 id11 B B3 : Nat} {ops9 ops10 ops11 : Array Oper} {body : Code} {pre rest : List Oper} {o9 oN oX oE : Oper} {t tk te : TypeId} {t74 t75 t76 t77 t78 n n1 b : Nat} {kvs : List (D × D)} {tm0 tm1 tmH : List (Nat × V)} {hp0 hp1 hpH : List (Nat × List C)} {ks : List Nat} {done : D → Prop} {sB : D → D → St}
  (h9 : ops9.toList = pre ++ [o9]) (h9o : o9.op = .range t (.tmp t74)) (h9d : o9.dst = some t75) (h9g : o9.guard = none)
  (h10 : ops10.toList = [oN, oX]) (hNo : oN.op = .next (.tmp t75) false) (hNd : oN.dst = some t76) (hNg : oN.guard = none)
  (h11 : ops11.toList = oE :: rest) (hEo : oE.op = .entry (.tmp t75)) (hEd : oE.dst = some t78) (hEg : oE.guard = none)
  (hdb : dstsBelow sz (.seq (.region id9 ops9 false) (.block B (.loop (.seq (.region id10 ops10 false) (.seq (.cond (.tmp t77) .skip (.exit B)) (.block B3 (.seq (.region id11 ops11 false) body))))))) = true)
  (htt : X.P.underlying t = some (.map tk te)) (h76 : t76 ≠ t75) (h77 : t77 ≠ t75)
  (hpre : opsTo X ops9 pre ⟨tm0, hp0, n, [], none⟩ ⟨tm1, hp1, n1, [], none⟩)
  (hmp : look t74 tm1 = some (.c (.mp b))) (hmb : look b hp1 = some [.ment (kvM kvs)]) (hkeep : keepT ks tm1 = tmH) (hhp : (((n1, []) :: hp1).filter (fun p => p.1 != n1)).filter (fun p => p.1 != b) = hpH) (hn1 : noView n1 tmH = true) (hbn : b ≠ n1)
  (hX : ∀ c cs, opsTo X ops10 [oX] ⟨(t76, .tuple (.d (.bool c) :: cs)) :: (t75, .c (.ptr n1 0)) :: tmH, hpH, n1 + 1, [], none⟩ ⟨(t77, .d (.bool c)) :: (t76, .tuple (.d (.bool c) :: cs)) :: (t75, .c (.ptr n1 0)) :: tmH, hpH, n1 + 1, [], none⟩)
  (hrest : ∀ k v, (k, v) ∈ kvs → opsTo X ops11 rest ⟨(t78, .tuple [.d k, .d v]) :: (t77, .d (.bool true)) :: (t76, .tuple [.d (.bool true), .d k, .d v]) :: (t75, .c (.ptr n1 0)) :: tmH, hpH, n1 + 1, [], none⟩ (sB k v))
  (hsB : ∀ k v, (sB k v).nid = n1 + 1)
  (hbody : ∀ k v, (k, v) ∈ kvs → wpN X sz body (fun x s' => (x = .normal ∧ done k ∧ ∃ ks' tm', s' = ⟨tm', hpH, n1 + 1, [], none⟩ ∧ keepT ks' tm' = (t75, .c (.ptr n1 0)) :: tmH) ∨ ((x = .ret ∨ ∃ d, x = .pan d) ∧ Q x s')) (sB k v))
  (hend : (∀ p ∈ kvs, done p.1) → Q .normal ⟨(t77, .d (.bool false)) :: (t76, .tuple [.d (.bool false)]) :: (t75, .c (.ptr n1 0)) :: tmH, hpH, n1 + 1, [], none⟩) :
  wpN X sz (.seq (.region id9 ops9 false) (.block B (.loop (.seq (.region id10 ops10 false) (.seq (.cond (.tmp t77) .skip (.exit B)) (.block B3 (.seq (.region id11 ops11 false) body))))))) Q ⟨tm0, hp0, n, [], none⟩ := by
 intro hc hP K μ w a Qm hs hsz hg
 simp only [dstsBelow, Bool.and_eq_true, List.all_eq_true] at hdb
 have toB : ∀ {ops : Array Oper}, (∀ o ∈ ops.toList, (match o.dst with | some t => decide (t < sz) | none => true) = true) → ∀ o ∈ ops.toList, ∀ t, o.dst = some t → t < sz := by
  intro ops h o ho t ht
  have := h o ho
  rw [ht] at this
  simpa using this
 have hd9 := toB hdb.1
 have hd10 := toB hdb.2.1
 have hd11 := toB hdb.2.2.2.1
 obtain ⟨x, s1, ⟨k0, hk0⟩, rfl, rfl⟩ := hpre.ex
 obtain ⟨fs', hev⟩ := hk0 k0 (Nat.le_refl _) []
 have hsize : ops9.size = pre.length + [o9].length := by rw [← Array.length_toList, h9, List.length_append]
 refine wp_seq (wp_region ?_)
 rw [List.range_eq_range', hsize]
 refine evOps_pre (hc k0) hP hd9 [o9] pre 0 K μ _ a w [] (by simp [h9]) hev hs hsz ?_
 intro K1 μ1 a1 w1 hA1 hle1 hs1 hsz1
 have ho9 : ops9[0 + pre.length]? = some o9 := by
  rw [← Array.getElem?_toList, h9]; simp
 show wpOps X.P ops9 _ [0 + pre.length] a1 w1
 simp only [wpOps, ho9, wanted_none hs1 h9g, if_true]
 refine .inl ?_
 obtain ⟨es, clk, hobj, hrep, hborn⟩ := (hs1.heap b _ hmb).2.2.map rfl
 have hv74 : a1.tmps.getD t74 Go.undef = .map (some (μ1 b)) := by
  have := (hs1.tm t74 _ hmp).2
  simpa [RepV, RepC] using this
 have hgl : μ1 b < w1.heap.size := (hs1.heap b _ hmb).2.2.2.1
 have hrun : (execOp a1.eval o9).run X.P w1 = .ok (.value (.pointer (some (ad w1.heap.size 0)))) (w1.alloc (.mapIter (some (μ1 b)) clk #[] clk)) := by
  simp [execOp, h9o, Act.eval, hv74, run_range_map w1 t tk te _ es clk htt hobj]
 simp only [Oper.wp, hrun, Oper.upon_value]
 have hom := oneMore_alloc w1 (.mapIter (some (μ1 b)) clk #[] clk)
 have hs1k := hs1.keep ks
 simp only [hkeep] at hs1k
 have hs2 : Sim (colNew K1 w1.heap.size fun _ => .blk n1) μ1 ⟨tmH, hp1, n1, [], none⟩ a1 (w1.alloc (.mapIter (some (μ1 b)) clk #[] clk)) :=
  hs1k.step (hom.step fun _ => .blk n1) (by simp) (by simp) (by simp) (hom.bound hs1k.bound _)
 have hs3 := hs2.addB (g := w1.heap.size) (cs := []) ⟨fun off _ => by rw [muSet_same]; simp [colNew], by rw [muSet_same]; simp, .inl ⟨rfl, fun i c h => by simp [flatC] at h, fun z ds e => by simp at e⟩⟩ (by simp) (noView_spec hn1)
 have hdo9 : ∀ t, o9.dst = some t → t < a1.tmps.size := by rw [hsz1]; exact hd9 o9 (by simp [h9])
 have hs4 := hs3.put (dst := o9.dst) (V := .c (.ptr n1 0)) (v := .pointer (some (ad w1.heap.size 0))) hdo9 (good_c (by simp only [RepC, muSet_same]) (by simp [C.ids]) (by simp))
 rw [h9d] at hs4
 have hs5 := (hs4.gone n1).gone b
 have hhp' : ((putSt (some t75) (.c (.ptr n1 0)) ({ tmps := tmH, heap := (n1, []) :: hp1, nid := n1 + 1, defers := [], pan := none } : St)).heap.filter (fun p => p.1 != n1)).filter (fun p => p.1 != b) = hpH := hhp
 have hs6 : Sim (colGone (colGone (colNew K1 w1.heap.size fun _ => .blk n1) n1) b) (muSet μ1 n1 w1.heap.size) ⟨(t75, .c (.ptr n1 0)) :: tmH, hpH, n1 + 1, [], none⟩ (a1.put (some t75) (.pointer (some (ad w1.heap.size 0)))) (w1.alloc (.mapIter (some (μ1 b)) clk #[] clk)) := by
  rw [← hhp']
  exact hs5
 have hA2 : After K μ w n (colGone (colGone (colNew K1 w1.heap.size fun _ => .blk n1) n1) b) (muSet μ1 n1 w1.heap.size) (w1.alloc (.mapIter (some (μ1 b)) clk #[] clk)) := by
  refine hA1.trans (m := n1) ⟨?_, fun i hi => muSet_other μ1 _ (by omega)⟩ hle1
  have e1 := (hom.step (K := K1) fun _ => .blk n1).none_mine
  have e2 := (step_gone (K := colNew K1 w1.heap.size fun _ => .blk n1) (b := n1) (w := w1.alloc (.mapIter (some (μ1 b)) clk #[] clk))).mono (W' := mine) (fun t ht => by subst ht; simp [mine])
  have e3 := (step_gone (K := colGone (colNew K1 w1.heap.size fun _ => .blk n1) n1) (b := b) (w := w1.alloc (.mapIter (some (μ1 b)) clk #[] clk))).mono (W' := mine) (fun t ht => by subst ht; simp [mine])
  exact (e1.trans e2).trans e3
 have hKr : ∀ off, colGone (colGone (colNew K1 w1.heap.size fun _ => .blk n1) n1) b w1.heap.size off = .other := by
  intro off; simp [colGone, colNew]
 have hKg : ∀ off, colGone (colGone (colNew K1 w1.heap.size fun _ => .blk n1) n1) b (μ1 b) off = .other := by
  intro off
  have := (hs1.heap b _ hmb).2.2.1 off (by cases off <;> simp)
  have hne : ¬ (μ1 b = w1.heap.size) := by omega
  simp [colGone, colNew, this, hne, hbn]
 have hE : EntRep (colGone (colGone (colNew K1 w1.heap.size fun _ => .blk n1) n1) b) (w1.alloc (.mapIter (some (μ1 b)) clk #[] clk)) kvs es.toList := by
  refine (((entRep_of hrep).step (hom.step fun _ => .blk n1) (by simp)).step step_gone (by simp)).step step_gone (by simp)
 have hsz2 : (a1.put (some t75) (.pointer (some (ad w1.heap.size 0)))).tmps.size = sz := by rw [put_size]; exact hsz1
 have hgr : (w1.alloc (.mapIter (some (μ1 b)) clk #[] clk)).heap[μ1 b]? = some (.map es clk) := (hom.old hgl).trans hobj
 have hrr := hom.new
 have hsr : w.heap.size ≤ w1.heap.size := hA1.step.size
 rw [h9d]
 generalize a1.put (some t75) (.pointer (some (ad w1.heap.size 0))) = a2 at *
 generalize w1.alloc (.mapIter (some (μ1 b)) clk #[] clk) = w2 at *
 generalize colGone (colGone (colNew K1 w1.heap.size fun _ => .blk n1) n1) b = K2 at *
 have hμr : muSet μ1 n1 w1.heap.size n1 = w1.heap.size := muSet_same _ _ _
 generalize muSet μ1 n1 w1.heap.size = μ2 at *
 generalize μ1 b = g at *
 generalize w1.heap.size = r at *
 clear hs5 hs4 hs3 hs2 hs1k hs1 hrun hom hrep hobj hv74 hdo9 hhp' hA1 hgl ho9 hev hk0
 show (Code.block B _).wp X.P Qm a2 w2
 refine wp_block (wp_loop_rounds (es.size + 1) ?_)
 have hwN : ∀ {K : Col} {μ : Nat → Nat} {s : St} {a : Act} {w : World}, Sim K μ s a w → Region.wanted oN (yielded ops10 a.tmps) = true := fun h => wanted_none h hNg
 have ho10 : ops10[0]? = some oN := by rw [← Array.getElem?_toList, h10]; rfl
 have ho11 : ops11[0]? = some oE := by rw [← Array.getElem?_toList, h11]; rfl
 have hz10 : ops10.size = 2 := by rw [← Array.length_toList, h10]; rfl
 have hz11 : ops11.size = rest.length + 1 := by rw [← Array.length_toList, h11]; rfl
 have round : ∀ (m : Nat) (seen : Array Nat) (K3 : Col) (μ3 : Nat → Nat) (a3 : Act) (w3 : World) (c0 : Nat),
   (∀ (seen' : Array Nat) (K4 : Col) (μ4 : Nat → Nat) (a4 : Act) (w4 : World) (c1 : Nat), (leftOf es seen').size < m → Sim K4 μ4 ⟨(t75, .c (.ptr n1 0)) :: tmH, hpH, n1 + 1, [], none⟩ a4 w4 → a4.tmps.size = sz → After K μ w n K4 μ4 w4 → μ4 n1 = r →
    w4.heap[r]? = some (.mapIter (some g) clk seen' c1) → w4.heap[g]? = some (.map es clk) → (∀ off, K4 r off = .other) → (∀ off, K4 g off = .other) → EntRep K4 w4 kvs es.toList → clk ≤ c1 →
    (∀ (i : Nat) (e : MapEntry) (p : D × D), es.toList[i]? = some e → seen'.contains e.born = true → kvs[i]? = some p → done p.1) →
    Code.rounds X.P (.seq (.region id10 ops10 false) (.seq (.cond (.tmp t77) .skip (.exit B)) (.block B3 (.seq (.region id11 ops11 false) body)))) (Exit.inBlock B Qm) m a4 w4) →
   (leftOf es seen).size ≤ m → Sim K3 μ3 ⟨(t75, .c (.ptr n1 0)) :: tmH, hpH, n1 + 1, [], none⟩ a3 w3 → a3.tmps.size = sz → After K μ w n K3 μ3 w3 → μ3 n1 = r →
   w3.heap[r]? = some (.mapIter (some g) clk seen c0) → w3.heap[g]? = some (.map es clk) → (∀ off, K3 r off = .other) → (∀ off, K3 g off = .other) → EntRep K3 w3 kvs es.toList → clk ≤ c0 →
   (∀ (i : Nat) (e : MapEntry) (p : D × D), es.toList[i]? = some e → seen.contains e.born = true → kvs[i]? = some p → done p.1) →
   Code.rounds X.P (.seq (.region id10 ops10 false) (.seq (.cond (.tmp t77) .skip (.exit B)) (.block B3 (.seq (.region id11 ops11 false) body)))) (Exit.inBlock B Qm) (m + 1) a3 w3 := by
  intro m seen K3 μ3 a3 w3 c0 ih hm hs3 hsz3 hA3 hμ3 hr3 hg3 hKr3 hKg3 hE3 hcc hdone
  have hlr : r < w3.heap.size := by
   rcases Nat.lt_or_ge r w3.heap.size with h | h
   ·exact h
   ·simp [Array.getElem?_eq_none h] at hr3
  have hlg : g < w3.heap.size := by
   rcases Nat.lt_or_ge g w3.heap.size with h | h
   ·exact h
   ·simp [Array.getElem?_eq_none h] at hg3
  rw [rounds_succ]
  refine wp_seq (wp_region ?_)
  rw [hz10]
  show wpOps X.P ops10 _ [0, 1] a3 w3
  have hv75 : a3.tmps.getD t75 Go.undef = .pointer (some (ad r 0)) := by
   have := (hs3.tm t75 (.c (.ptr n1 0)) (by simp only [look, if_true])).2
   simp only [RepV, RepC, hμ3] at this
   exact this
  have hdoN : ∀ t, oN.dst = some t → t < a3.tmps.size := by rw [hsz3]; exact hd10 oN (by simp [h10])
  rw [wpOps.eq_2]
  simp only [ho10, hwN hs3, if_true]
  refine .inl ?_
  have law := run_next_at (P := X.P) w3 oN.type r g clk c0 seen es clk hr3 hg3 hborn.1 hcc
  rcases law with ⟨h0, hrun⟩ | ⟨e, he, w', hw', hrun⟩
  ·have hrun' : (execOp a3.eval oN).run X.P w3 = .ok (.value (.tuple #[.bool false])) w3 := by
    simp [execOp, hNo, Act.eval, hv75, hrun]
   simp only [Oper.wp, hrun', Oper.upon_value]
   have hs4 := hs3.put (dst := oN.dst) (V := .tuple [.d (.bool false)]) (v := .tuple #[.bool false]) hdoN (good_tuple (ds := [.bool false]) (vs := [.bool false]) (.cons (by simp [RepC, Rep]) .nil))
   rw [hNd] at hs4 ⊢
   refine (hX false []).sound hc hP (i := 1) hd10 (by simp [h10]) hs4 (by rw [put_size]; exact hsz3) ?_
   intro K5 μ5 a5 w5 hA5 hn5 hs5 hsz5
   show (Code.seq (.cond (.tmp t77) .skip (.exit B)) _).wp X.P _ a5 w5
   have hb : a5.eval (.tmp t77) = .bool false := by
    have := (hs5.tm t77 (.d (.bool false)) (by simp only [look, if_true])).2
    simpa [RepV, RepC, Rep, Act.eval] using this
   refine wp_seq (wp_cond_false hb (wp_exit ?_))
   show (if B = B then Qm .normal a5 w5 else Qm (.exit B) a5 w5)
   rw [if_pos rfl]
   refine hg _ _ (hend ?_) .normal K5 μ5 a5 w5 rfl (hA3.trans hA5 (by show n ≤ n1 + 1; simp only at hle1; omega)) (by show n ≤ n1 + 1; simp only at hle1; omega) hs5 hsz5
   intro p hp
   obtain ⟨i, hi⟩ := List.mem_iff_getElem?.1 hp
   obtain ⟨e, he, _⟩ := hE3.2 i p.1 p.2 hi
   exact hdone i e p he (all_seen es seen h0 e (List.mem_of_getElem? he)) hi
  ·have hmem := mem_left he
   obtain ⟨i, hi⟩ := List.mem_iff_getElem?.1 hmem.1
   have hil : i < kvs.length := by rw [hE3.1]; exact (List.getElem?_eq_some_iff.1 hi).1
   obtain ⟨⟨k, v⟩, hkv⟩ : ∃ p, kvs[i]? = some p := ⟨kvs[i], List.getElem?_eq_getElem hil⟩
   have hkm : (k, v) ∈ kvs := List.mem_of_getElem? hkv
   have hrun' : (execOp a3.eval oN).run X.P w3 = .ok (.value (.tuple #[.bool true, e.key, e.val])) (setBlock w' r (.mapIter (some g) clk (seen.push e.born) clk)) := by
    simp [execOp, hNo, Act.eval, hv75, hrun]
   simp only [Oper.wp, hrun', Oper.upon_value]
   have hst4 := step_block (w' := w') (o := .mapIter (some g) clk (seen.push e.born) clk) hw' hKr3
   have hh' : w'.heap = w3.heap := by rcases hw' with rfl | rfl <;> rfl
   have hs4 : Sim K3 μ3 ⟨(t75, .c (.ptr n1 0)) :: tmH, hpH, n1 + 1, [], none⟩ a3 (setBlock w' r (.mapIter (some g) clk (seen.push e.born) clk)) :=
    hs3.step hst4 (by simp) (by simp) (by simp) (fun blk off hl => hs3.bound blk off (by simpa [setBlock, hh'] using hl))
   have hA4 := after_block (o := .mapIter (some g) clk (seen.push e.born) clk) hA3 hw' hKr3 hsr
   have hE4 := hE3.step hst4 (by simp)
   have hr4 : (setBlock w' r (.mapIter (some g) clk (seen.push e.born) clk)).heap[r]? = some (.mapIter (some g) clk (seen.push e.born) clk) := by
    simp [setBlock, hh', hlr]
   have hgne : g ≠ r := by
    rintro rfl
    rw [hr3] at hg3; simp at hg3
   have hg4 : (setBlock w' r (.mapIter (some g) clk (seen.push e.born) clk)).heap[g]? = some (.map es clk) := by
    simp only [setBlock, hh']
    rw [Array.getElem?_setIfInBounds_ne (Ne.symm hgne)]
    exact hg3
   have hz4 : (setBlock w' r (.mapIter (some g) clk (seen.push e.born) clk)).heap.size = w3.heap.size := by simp [setBlock, hh']
   generalize setBlock w' r (.mapIter (some g) clk (seen.push e.born) clk) = w4 at *
   have hrep : ∀ {K' : Col} {w'' : World}, EntRep K' w'' kvs es.toList → Rep K' w'' k e.key ∧ Rep K' w'' v e.val := by
    intro K' w'' h
    obtain ⟨e', h1, h2, h3⟩ := h.2 i k v hkv
    rw [hi] at h1
    simp only [Option.some.injEq] at h1
    subst h1
    exact ⟨h2, h3⟩
   have hs5 := hs4.put (dst := oN.dst) (V := .tuple [.d (.bool true), .d k, .d v]) (v := .tuple #[.bool true, e.key, e.val]) hdoN
    (good_tuple (ds := [.bool true, k, v]) (vs := [.bool true, e.key, e.val]) (.cons (by simp [RepC, Rep]) (.cons (by simpa [RepC] using (hrep hE4).1) (.cons (by simpa [RepC] using (hrep hE4).2) .nil))))
   rw [hNd] at hs5 ⊢
   refine (hX true [.d k, .d v]).sound hc hP (i := 1) hd10 (by simp [h10]) hs5 (by rw [put_size]; exact hsz3) ?_
   intro K6 μ6 a6 w6 hA6 hn6 hs6 hsz6
   show (Code.seq (.cond (.tmp t77) .skip (.exit B)) _).wp X.P _ a6 w6
   have hb : a6.eval (.tmp t77) = .bool true := by
    have := (hs6.tm t77 (.d (.bool true)) (by simp only [look, if_true])).2
    simpa [RepV, RepC, Rep, Act.eval] using this
   refine wp_seq (wp_cond_true hb (wp_skip ?_))
   show (Code.block B3 _).wp X.P _ a6 w6
   refine wp_block (wp_seq (wp_region ?_))
   rw [hz11, List.range_eq_range', List.range'_succ]
   have notmine : ¬ mine Tag.other := by simp [mine]
   have keepr : ∀ {K' : Col} {μ' : Nat → Nat} {w'' : World}, After K3 μ3 w4 (n1 + 1) K' μ' w'' → w''.heap[r]? = some (.mapIter (some g) clk (seen.push e.born) clk) ∧ w''.heap[g]? = some (.map es clk) ∧ (∀ off, K' r off = .other) ∧ (∀ off, K' g off = .other) ∧ EntRep K' w'' kvs es.toList ∧ μ' n1 = r := by
    intro K' μ' w'' h
    refine ⟨(h.step.block r (by omega) fun off => by rw [hKr3]; exact notmine).trans hr4, (h.step.block g (by omega) fun off => by rw [hKg3]; exact notmine).trans hg4, fun off => ?_, fun off => ?_, hE4.step h.step (by simp [mine]), (h.mu n1 (by omega)).trans hμ3⟩
    ·rw [(h.step.cell r off (by omega) (by rw [hKr3]; exact notmine)).2.2, hKr3]
    ·rw [(h.step.cell g off (by omega) (by rw [hKg3]; exact notmine)).2.2, hKg3]
   obtain ⟨hr6, hg6, hKr6, hKg6, hE6, hμ6⟩ := keepr hA6
   have hv75' : a6.tmps.getD t75 Go.undef = .pointer (some (ad r 0)) := by
    have := (hs6.tm t75 (.c (.ptr n1 0)) (by simp only [look, if_neg h77, if_neg h76, if_true])).2
    simp only [RepV, RepC, hμ6] at this
    exact this
   rw [wpOps.eq_2]
   simp only [ho11, wanted_none hs6 hEg, if_true]
   refine .inl ?_
   have hrunE : (execOp a6.eval oE).run X.P w6 = .ok (.value (.tuple #[e.key, e.val])) w6 := by
    simp [execOp, hEo, Act.eval, hv75', run_entry_at w6 r g clk seen es clk e hr6 hg6 hmem.1 hborn.2]
   simp only [Oper.wp, hrunE, Oper.upon_value]
   have hdoE : ∀ t, oE.dst = some t → t < a6.tmps.size := by rw [hsz6]; exact hd11 oE (by simp [h11])
   have hs7 := hs6.put (dst := oE.dst) (V := .tuple [.d k, .d v]) (v := .tuple #[e.key, e.val]) hdoE
    (good_tuple (ds := [k, v]) (vs := [e.key, e.val]) (.cons (by simpa [RepC] using (hrep hE6).1) (.cons (by simpa [RepC] using (hrep hE6).2) .nil)))
   rw [hEd] at hs7 ⊢
   refine (hrest k v hkm).sound hc hP (i := 0 + 1) hd11 (by simp [h11]) hs7 (by rw [put_size]; exact hsz6) ?_
   intro K8 μ8 a8 w8 hA8 hn8 hs8 hsz8
   show body.wp X.P _ a8 w8
   refine hbody k v hkm hc hP K8 μ8 w8 a8 _ hs8 hsz8 ?_
   intro x s' hq e' K9 μ9 a9 w9 ho hA9 hn9 hs9 hsz9
   rw [hsB] at hA9 hn9
   have hA49 : After K3 μ3 w4 (n1 + 1) K9 μ9 w9 := hA6.trans (hA8.trans hA9 (Nat.le_refl _)) (Nat.le_refl _)
   have hle : n ≤ n1 + 1 := by simp only at hle1; omega
   have hA09 : After K μ w n K9 μ9 w9 := hA4.trans hA49 hle
   rcases hq with ⟨rfl, hdk, ks', tm', rfl, hkt⟩ | ⟨hx, hq⟩
   ·simp only [Out] at ho; subst ho
    show Code.rounds X.P _ (Exit.inBlock B Qm) m a9 w9
    obtain ⟨q1, q2, q3, q4, q5, q6⟩ := keepr hA49
    have hs10 := hs9.keep ks'
    simp only [hkt] at hs10
    refine ih (seen.push e.born) K9 μ9 a9 w9 clk (Nat.lt_of_lt_of_le (left_shrinks es seen e he) hm) hs10 hsz9 hA09 q6 q1 q2 q3 q4 q5 (Nat.le_refl _) ?_
    intro j e2 p hj hc2 hp
    rw [contains_push] at hc2
    rcases Bool.or_eq_true _ _ ▸ hc2 with h1 | h1
    ·exact hdone j e2 p hj h1 hp
    ·have : e2 = e := born_inj hborn.2 (List.mem_of_getElem? hj) hmem.1 (beq_iff_eq.1 h1)
     subst this
     have hij : j = i := by
      have h3 : (es.toList.map (·.born))[j]? = some e2.born := by rw [List.getElem?_map, hj]; rfl
      have h4 : (es.toList.map (·.born))[i]? = some e2.born := by rw [List.getElem?_map, hi]; rfl
      exact (List.getElem?_inj (by rw [List.length_map]; exact (List.getElem?_eq_some_iff.1 hj).1) hborn.2).1 (h3.trans h4.symm)
     subst hij
     rw [hkv] at hp
     simp only [Option.some.injEq] at hp
     subst hp
     exact hdk
   ·have hn9' : n ≤ s'.nid := by omega
    rcases hx with rfl | ⟨d, rfl⟩
    ·simp only [Out] at ho; subst ho
     exact hg _ _ hq .ret K9 μ9 a9 w9 rfl hA09 hn9' hs9 hsz9
    ·obtain ⟨u, rfl, hu⟩ := ho
     exact hg _ _ hq _ K9 μ9 a9 w9 ⟨u, rfl, hu⟩ hA09 hn9' hs9 hsz9
 have key : ∀ (m : Nat) (seen : Array Nat) (K3 : Col) (μ3 : Nat → Nat) (a3 : Act) (w3 : World) (c0 : Nat),
   (leftOf es seen).size ≤ m → Sim K3 μ3 ⟨(t75, .c (.ptr n1 0)) :: tmH, hpH, n1 + 1, [], none⟩ a3 w3 → a3.tmps.size = sz → After K μ w n K3 μ3 w3 → μ3 n1 = r →
   w3.heap[r]? = some (.mapIter (some g) clk seen c0) → w3.heap[g]? = some (.map es clk) → (∀ off, K3 r off = .other) → (∀ off, K3 g off = .other) → EntRep K3 w3 kvs es.toList → clk ≤ c0 →
   (∀ (i : Nat) (e : MapEntry) (p : D × D), es.toList[i]? = some e → seen.contains e.born = true → kvs[i]? = some p → done p.1) →
   Code.rounds X.P (.seq (.region id10 ops10 false) (.seq (.cond (.tmp t77) .skip (.exit B)) (.block B3 (.seq (.region id11 ops11 false) body)))) (Exit.inBlock B Qm) (m + 1) a3 w3 := by
  intro m
  induction m with
  | zero => exact fun seen K3 μ3 a3 w3 c0 => round 0 seen K3 μ3 a3 w3 c0 (fun seen' K4 μ4 a4 w4 c1 h => absurd h (by omega))
  | succ m ih => exact fun seen K3 μ3 a3 w3 c0 => round (m + 1) seen K3 μ3 a3 w3 c0 (fun seen' K4 μ4 a4 w4 c1 h => ih seen' K4 μ4 a4 w4 c1 (by omega))
 exact key es.size #[] K2 μ2 a2 w2 clk (by simpa [leftOf] using Array.size_filter_le) hs6 hsz2 hA2 hμr hrr hgr hKr hKg hE (Nat.le_refl _) (fun i e p _ h => by simp at h)
end
end Go.AM

namespace Go.AM.SeatX
open Go Go.AM Go.Proofs
set_option maxRecDepth 100000
structure S_text_kind where
 text : Str
 kind : Int
 deriving Inhabited
def encS_text_kind (x : S_text_kind) : D := .agg [(.str x.text), (.int .i64 x.kind)]
def h39 : Nat → List Nat | 0 => [0, 1] | 1 => [0, 1] | _ => []
def h45 : Nat → List Nat | 0 => [0] | 1 => [0] | 3 => [0] | 4 => [0, 4, 5] | 6 => [0, 4, 5] | 7 => [4, 5, 28, 29, 30] | 8 => [4, 5, 28, 29, 30] | 9 => [4, 5, 7, 28, 29, 30] | 11 => [4, 5, 7, 28, 29, 30] | 12 => [4, 5, 28, 29, 30] | 13 => [4, 5] | 15 => [4, 5] | 1000000 => [0, 4, 5] | _ => []
def h71 : Nat → List Nat | 0 => [0, 1] | 1 => [0, 1] | _ => []
def h79 : Nat → List Nat | 0 => [0] | 1 => [0, 2] | 2 => [0, 2, 16, 17, 18] | 3 => [0, 2, 16, 17, 18] | 4 => [0, 2, 5, 16, 17, 18] | 5 => [0, 2, 5] | 6 => [0, 2, 16, 17, 18] | 7 => [0, 2] | 8 => [0, 2, 7] | 9 => [0, 2, 8] | 10 => [0, 2, 8, 75] | 11 => [0, 2, 8, 75] | 12 => [0, 2, 8, 9, 10, 75] | 13 => [0, 2, 8, 9] | 14 => [2] | _ => []
def h80 : Nat → List Nat | 0 => [0] | 1 => [0] | 2 => [0] | 3 => [0] | 4 => [0] | 5 => [0] | 6 => [0] | 8 => [0] | 9 => [0] | 10 => [0] | _ => []
def h81 : Nat → List Nat | 0 => [0] | 1 => [0] | _ => []
def h82 : Nat → List Nat | 0 => [0, 1] | 1 => [0, 1] | 2 => [0, 1] | 3 => [0, 1] | 4 => [0, 1] | 5 => [0, 1] | 6 => [0, 1] | 7 => [0, 1] | 999999 => [1] | _ => []
def H : Nat → Nat → List Nat
 | 39 => h39
 | 45 => h45
 | 71 => h71
 | 79 => h79
 | 80 => h80
 | 81 => h81
 | 82 => h82
 | _ => fun _ => []
noncomputable abbrev P := Go.Proofs.Tryz.prog
def E : Nat → Option Call := fun f => if f = 113 then some containsCall else none
noncomputable abbrev X : Ctx := ⟨P, E, H⟩
def go_Contains (s t : Str) : Option Bool := if s.length < 4294967281 then some (subB s t) else none
theorem go_Contains_ok {s t : Str} {r : Bool} (h : go_Contains s t = some r) : aval X 113 [.d (.str s), .d (.str t)] [] (.ret (.d (.bool r)) []) :=
 aval_ext (g := containsCall) (args' := [.d (.str s), .d (.str t)]) rfl rfl (by
  unfold go_Contains at h
  split at h
  ·rename_i hl; cases h; simp only [containsCall, if_pos hl]
  ·cases h)
theorem I {α : Sort _} {a : α} : a = a := rfl
abbrev iZ (n : Int) : D := .int .i64 n
abbrev lI (l : List Int) : D := .list 1 (List.map (D.int .i64) l)
abbrev oI (l : List Int) : C := .own 1 (List.map (D.int .i64) l)
abbrev lS (l : List Str) : D := .list 1 (List.map D.str l)
abbrev oS (l : List Str) : C := .own 1 (List.map D.str l)
abbrev lC (l : List Cell) : D := .list 3 (List.map encCell l)
abbrev oC (l : List Cell) : C := .own 3 (List.map encCell l)
abbrev lN (l : List Node) : D := .list 7 (List.map encNodeR l)
abbrev oN (l : List Node) : C := .own 7 (List.map encNodeR l)
abbrev lT (l : List Token) : D := .list 5 (List.map encToken l)
abbrev oT (l : List Token) : C := .own 5 (List.map encToken l)
abbrev B := @bind_inv
abbrev E_ := @ite_inv
abbrev S_ := @awp_seq
abbrev N_ := @seqQ.normal
abbrev P_ := @condQ.pan
abbrev C_ := @condQ.ret
abbrev R_ := @awp_ret
abbrev K_ := @awp_skip
abbrev W_ := @awp_block
abbrev Q_ := @seqQ.ret
abbrev U_ := @seqQ.pan
abbrev O_ := @awpO_nil
abbrev X_ := @awp_exit
end Go.AM.SeatX

namespace Go.AM.SeatX
open Go Go.AM Go.Proofs
set_option maxRecDepth 100000
set_option maxHeartbeats 4000000
set_option linter.unusedVariables false
variable [Globs]
def p_stringslite_HasPrefix (s : Str) (prefix_ : Str) : Option (Bool) :=
 if (decide ((List.length s : Int) ≥ (List.length prefix_ : Int))) then
  sto s (List.length prefix_ : Int) >>= fun s1 =>
  some (s1 == prefix_)
 else
  some false
def p_strings_HasPrefix (s : Str) (prefix_ : Str) : Option (Bool) :=
 p_stringslite_HasPrefix s prefix_ >>= fun x =>
 some x
def p_runes_first (c : Int) : Option (Int × Int) :=
 if (decide (c < 128)) then
  some (1, (w64 c))
 else
  if (decide (c < 192)) then
   some (0, 0)
  else
   if (decide (c ≥ 248)) then
    some (0, 0)
   else
    if (decide (c < 224)) then
     some (2, (w64 (IntKind.u8.wrap ((BitVec.ofInt 8 c &&& BitVec.ofInt 8 31).toNat))))
    else
     if (decide (c < 240)) then
      some (3, (w64 (IntKind.u8.wrap ((BitVec.ofInt 8 c &&& BitVec.ofInt 8 15).toNat))))
     else
      some (4, (w64 (IntKind.u8.wrap ((BitVec.ofInt 8 c &&& BitVec.ofInt 8 7).toNat))))
def p_runes_Good (n : Int) : Option (Bool) :=
 if (decide (n ≥ 0)) then
  if (decide (n ≤ 1114111)) then
   if (decide (n < 55296)) then
    some true
   else
    some (decide (n > 57343))
  else
   some false
 else
  some false
def p_runes_put_nil (n : Int) : Option ((List Int)) :=
 if (decide (n < 128)) then
  lapp [] [(IntKind.u8.wrap n)] >>= fun l =>
  some l
 else
  if (decide (n < 2048)) then
   lapp [] [(IntKind.u8.wrap (w64 ((BitVec.ofInt 64 192 ||| BitVec.ofInt 64 (Int.fdiv n (2 ^ 6))).toNat))), (IntKind.u8.wrap (w64 ((BitVec.ofInt 64 128 ||| BitVec.ofInt 64 (w64 ((BitVec.ofInt 64 n &&& BitVec.ofInt 64 63).toNat))).toNat)))] >>= fun l1 =>
   some l1
  else
   if (decide (n < 65536)) then
    lapp [] [(IntKind.u8.wrap (w64 ((BitVec.ofInt 64 224 ||| BitVec.ofInt 64 (Int.fdiv n (2 ^ 12))).toNat))), (IntKind.u8.wrap (w64 ((BitVec.ofInt 64 128 ||| BitVec.ofInt 64 (w64 ((BitVec.ofInt 64 (Int.fdiv n (2 ^ 6)) &&& BitVec.ofInt 64 63).toNat))).toNat))), (IntKind.u8.wrap (w64 ((BitVec.ofInt 64 128 ||| BitVec.ofInt 64 (w64 ((BitVec.ofInt 64 n &&& BitVec.ofInt 64 63).toNat))).toNat)))] >>= fun l2 =>
    some l2
   else
    lapp [] [(IntKind.u8.wrap (w64 ((BitVec.ofInt 64 240 ||| BitVec.ofInt 64 (Int.fdiv n (2 ^ 18))).toNat))), (IntKind.u8.wrap (w64 ((BitVec.ofInt 64 128 ||| BitVec.ofInt 64 (w64 ((BitVec.ofInt 64 (Int.fdiv n (2 ^ 12)) &&& BitVec.ofInt 64 63).toNat))).toNat))), (IntKind.u8.wrap (w64 ((BitVec.ofInt 64 128 ||| BitVec.ofInt 64 (w64 ((BitVec.ofInt 64 (Int.fdiv n (2 ^ 6)) &&& BitVec.ofInt 64 63).toNat))).toNat))), (IntKind.u8.wrap (w64 ((BitVec.ofInt 64 128 ||| BitVec.ofInt 64 (w64 ((BitVec.ofInt 64 n &&& BitVec.ofInt 64 63).toNat))).toNat)))] >>= fun l3 =>
    some l3
def p_runes_One_l0 (a : (List Int) × Int × Int) : Option (Except (Int × Int) (Int)) := match a with
 | (l, n1, x) =>
  if (decide (x < (List.length l : Int))) then
   lget l x >>= fun c =>
   if ((IntKind.u8.wrap ((BitVec.ofInt 8 c &&& BitVec.ofInt 8 192).toNat)) != 128) then
    some (.error (0, 0))
   else
    p_runes_One_l0 (l, (w64 ((BitVec.ofInt 64 (w64 (n1 * 2 ^ 6)) ||| BitVec.ofInt 64 (w64 (IntKind.u8.wrap ((BitVec.ofInt 8 c &&& BitVec.ofInt 8 63).toNat)))).toNat)), (w64 (x + 1)))
  else
   some (.ok n1)
 partial_fixpoint
def p_runes_One (b : (List Int)) : Option (Int × Int) :=
 if ((List.length b : Int) == 0) then
  some (0, 0)
 else
  lget b 0 >>= fun y =>
  p_runes_first y >>= fun (k, n) =>
  if (k == 0) then
   some (0, 0)
  else
   if (decide (k > (List.length b : Int))) then
    some (0, 0)
   else
    lmid b 1 k >>= fun l =>
    (
     p_runes_One_l0 (l, n, 0)
    : Option (Except (Int × Int) (Int))) >>= fun res => match res with
    | .error r => some r
    | .ok n2 =>
     p_runes_Good n2 >>= fun x1 =>
     if (!x1) then
      some (0, 0)
     else
      p_runes_put_nil n2 >>= fun x2 =>
      if ((List.length x2 : Int) != k) then
       some (0, 0)
      else
       some (n2, k)
def p_alex_lexer_fixed (b : Str) (at_ : Int) (err : Int) (at_1 : Int) (why : Int) : Option (Token × Bool) :=
 lget [(S_text_kind.mk [226, 142, 149, 73, 79] 3), (S_text_kind.mk [226, 141, 186] 3), (S_text_kind.mk [226, 141, 181] 3), (S_text_kind.mk [226, 136, 152, 46] 4), (S_text_kind.mk [226, 134, 144] 7)] 0 >>= fun y =>
 sfrom b at_ >>= fun s =>
 p_strings_HasPrefix s y.text >>= fun x =>
 if x then
  some ((Token.mk y.kind y.text (Arr.mk [] []) at_), true)
 else
  lget [(S_text_kind.mk [226, 142, 149, 73, 79] 3), (S_text_kind.mk [226, 141, 186] 3), (S_text_kind.mk [226, 141, 181] 3), (S_text_kind.mk [226, 136, 152, 46] 4), (S_text_kind.mk [226, 134, 144] 7)] 1 >>= fun y1 =>
  sfrom b at_ >>= fun s1 =>
  p_strings_HasPrefix s1 y1.text >>= fun x1 =>
  if x1 then
   some ((Token.mk y1.kind y1.text (Arr.mk [] []) at_), true)
  else
   lget [(S_text_kind.mk [226, 142, 149, 73, 79] 3), (S_text_kind.mk [226, 141, 186] 3), (S_text_kind.mk [226, 141, 181] 3), (S_text_kind.mk [226, 136, 152, 46] 4), (S_text_kind.mk [226, 134, 144] 7)] 2 >>= fun y2 =>
   sfrom b at_ >>= fun s2 =>
   p_strings_HasPrefix s2 y2.text >>= fun x2 =>
   if x2 then
    some ((Token.mk y2.kind y2.text (Arr.mk [] []) at_), true)
   else
    lget [(S_text_kind.mk [226, 142, 149, 73, 79] 3), (S_text_kind.mk [226, 141, 186] 3), (S_text_kind.mk [226, 141, 181] 3), (S_text_kind.mk [226, 136, 152, 46] 4), (S_text_kind.mk [226, 134, 144] 7)] 3 >>= fun y3 =>
    sfrom b at_ >>= fun s3 =>
    p_strings_HasPrefix s3 y3.text >>= fun x3 =>
    if x3 then
     some ((Token.mk y3.kind y3.text (Arr.mk [] []) at_), true)
    else
     lget [(S_text_kind.mk [226, 142, 149, 73, 79] 3), (S_text_kind.mk [226, 141, 186] 3), (S_text_kind.mk [226, 141, 181] 3), (S_text_kind.mk [226, 136, 152, 46] 4), (S_text_kind.mk [226, 134, 144] 7)] 4 >>= fun y4 =>
     sfrom b at_ >>= fun s4 =>
     p_strings_HasPrefix s4 y4.text >>= fun x4 =>
     if x4 then
      some ((Token.mk y4.kind y4.text (Arr.mk [] []) at_), true)
     else
      sfrom b at_ >>= fun s5 =>
      sbytes s5 >>= fun b1 =>
      p_runes_One b1 >>= fun (x5, k) =>
      smid b at_ (w64 (at_ + k)) >>= fun s6 =>
      tailS s6 at_
end Go.AM.SeatX

namespace Go.AM.SeatX
open Go Go.AM Go.Proofs
set_option maxRecDepth 100000
set_option maxHeartbeats 4000000
set_option linter.unusedVariables false
variable [Globs]
theorem p_runes_Good_ok {n : Int} {r : Bool} (h : p_runes_Good n = some r) : aval X 81 [.d (iZ n)] [] (CRes.ret (.d (.bool r)) []) := by
 unfold p_runes_Good at h
 refine aval_start (tm := [(0, .d (iZ n))]) (hp := []) (n := 0) I Tryz.func81 I I I I I I (ra I (S_ (rn 3 I ?_)))
 rcases E_ h with ⟨hc, h⟩ | ⟨hc, h⟩
 ·refine gt I I I I hc I (on 4 I ?_)
  rcases E_ h with ⟨hc, h⟩ | ⟨hc, h⟩
  ·refine gt I I I I hc I (on 3 I ?_)
   rcases E_ h with ⟨hc, h⟩ | ⟨hc, h⟩
   ·refine gt I I I I hc I (on 5 I (rz (R_ ?_)))
    cases h
    exact .ret I I
   refine gf I I I I hc I (on 5 I (rz (R_ ?_)))
   cases h
   exact .ret I I
  refine gf I I I I hc I (on 8 I (rz (R_ ?_)))
  cases h
  exact .ret I I
 refine gf I I I I hc I (on 12 I (rz (R_ ?_)))
 cases h
 exact .ret I I
end Go.AM.SeatX

namespace Go.AM.SeatX
open Go Go.AM Go.Proofs
set_option maxRecDepth 100000
set_option maxHeartbeats 4000000
set_option linter.unusedVariables false
variable [Globs]
theorem p_runes_first_ok {c : Int} {r : Int × Int} (h : p_runes_first c = some r) : aval X 80 [.d (.int .u8 c)] [] (CRes.ret (.tuple [.d (iZ r.1), .d (iZ r.2)]) []) := by
 unfold p_runes_first at h
 refine aval_start (tm := [(0, .d (.int .u8 c))]) (hp := []) (n := 0) I Tryz.func80 I I I I I I (ra I (S_ (W_ (S_ (W_ (S_ (W_ (S_ (W_ (W_ (S_ (W_ (S_ (S_ (ra I ?_)))))))))))))))
 rcases E_ h with ⟨hc, h⟩ | ⟨hc, h⟩
 ·refine ct I hc (X_ (condQ.exit (seqQ.exit (seqQ.exit (eh I (N_ (S_ (ra I (R_ (Q_ (exitQ.ret (exitQ.ret (Q_ (exitQ.ret (Q_ (exitQ.ret (Q_ (exitQ.ret (Q_ ?_)))))))))))))))))))
  cases h
  exact .ret I I
 refine cf I hc (K_ (cn I (N_ (S_ (ra I ?_)))))
 rcases E_ h with ⟨hc, h⟩ | ⟨hc, h⟩
 ·refine ct I hc (X_ (condQ.exit (seqQ.exit (seqQ.exit (exitQ.there I (seqQ.exit (eh I (en I (N_ (S_ (ra I (R_ (Q_ (exitQ.ret (Q_ (exitQ.ret (Q_ (exitQ.ret (Q_ ?_)))))))))))))))))))
  cases h
  exact .ret I I
 refine cf I hc (K_ (cn I (N_ (S_ (ra I ?_)))))
 rcases E_ h with ⟨hc, h⟩ | ⟨hc, h⟩
 ·refine ct I hc (X_ (condQ.exit (seqQ.exit (seqQ.exit (exitQ.there I (seqQ.exit (exitQ.there I (eh I (N_ (S_ (ra I (R_ (Q_ (exitQ.ret (Q_ (exitQ.ret (Q_ (exitQ.ret (Q_ ?_)))))))))))))))))))
  cases h
  exact .ret I I
 refine cf I hc (K_ (cn I (N_ (S_ (ra I ?_)))))
 rcases E_ h with ⟨hc, h⟩ | ⟨hc, h⟩
 ·refine ct I hc (X_ (condQ.exit (seqQ.exit (seqQ.exit (exitQ.there I (seqQ.exit (exitQ.there I (exitQ.there I (seqQ.exit (eh I (N_ (S_ (ra I (R_ (Q_ (exitQ.ret (Q_ (exitQ.ret (Q_ ?_)))))))))))))))))))
  cases h
  exact .ret I I
 refine cf I hc (K_ (cn I (N_ (ra I ?_))))
 rcases E_ h with ⟨hc, h⟩ | ⟨hc, h⟩
 ·refine ct I hc (X_ (condQ.exit (seqQ.exit (exitQ.there I (seqQ.exit (exitQ.there I (exitQ.there I (seqQ.exit (exitQ.there I (seqQ.exit (eh I (N_ (S_ (ra I (R_ (Q_ (exitQ.ret (Q_ ?_))))))))))))))))))
  cases h
  exact .ret I I
 refine cf I hc (K_ (cn I (N_ (X_ (exitQ.there I (seqQ.exit (exitQ.there I (exitQ.there I (seqQ.exit (exitQ.there I (seqQ.exit (exitQ.there I (seqQ.exit (eh I (N_ (ra I (R_ ?_)))))))))))))))))
 cases h
 exact .ret I I
end Go.AM.SeatX

namespace Go.AM.SeatX
open Go Go.AM Go.Proofs
set_option maxRecDepth 100000
set_option maxHeartbeats 4000000
set_option linter.unusedVariables false
variable [Globs]
theorem p_runes_put_nil_ok {n : Int} {r : (List Int)} (h : p_runes_put_nil n = some r) : aval X 82 [.nilsl 1, .d (iZ n)] [] (CRes.ret (.d (.list 1 (List.map (D.int .u8) r))) []) := by
 unfold p_runes_put_nil at h
 refine aval_start (tm := [(0, .c (.nilsl 1)), (1, .d (iZ n))]) (hp := []) (n := 0) I Tryz.func82 I I I I I I (ra I (S_ (W_ (ra I ?_))))
 rcases E_ h with ⟨hc, h⟩ | ⟨hc, h⟩
 ·refine ct I hc (S_ (rn 4 I ?_))
  obtain ⟨l, hk, h⟩ := B h
  refine po (eappn hk I I I I I I I I I I I I ) I I (on 1 I (rz (R_ (C_ (exitQ.ret (Q_ ?_))))))
  cases h
  exact .ret I I
 refine cf I hc (ra I ?_)
 rcases E_ h with ⟨hc, h⟩ | ⟨hc, h⟩
 ·refine ct I hc (S_ (rn 10 I ?_))
  obtain ⟨l1, hk, h⟩ := B h
  refine po (eappn hk I I I I I I I I I I I I ) I I (on 1 I (rz (R_ (C_ (C_ (exitQ.ret (Q_ ?_)))))))
  cases h
  exact .ret I I
 refine cf I hc (ra I ?_)
 rcases E_ h with ⟨hc, h⟩ | ⟨hc, h⟩
 ·refine ct I hc (S_ (rn 15 I ?_))
  obtain ⟨l2, hk, h⟩ := B h
  refine po (eappn hk I I I I I I I I I I I I ) I I (on 1 I (rz (R_ (C_ (C_ (C_ (exitQ.ret (Q_ ?_))))))))
  cases h
  exact .ret I I
 refine cf I hc (K_ (cn I (cn I (cn I (en I (N_ (S_ (rn 20 I ?_))))))))
 obtain ⟨l3, hk, h⟩ := B h
 refine po (eappn hk I I I I I I I I I I I I ) I I (on 1 I (rz (R_ ?_)))
 cases h
 exact .ret I I
end Go.AM.SeatX

namespace Go.AM.SeatX
open Go Go.AM Go.Proofs
set_option maxRecDepth 100000
set_option maxHeartbeats 4000000
set_option linter.unusedVariables false
variable [Globs]
theorem p_runes_One_l0_ok (k : Int) : ∀ (a : (List Int) × Int × Int) (res : Except (Int × Int) (Int)), p_runes_One_l0 a = some res → (match a with | (l, n1, x) => awpL X 45 (codeAt [1, 1, 1, 1, 0, 1, 0, 0] (bodyOf Tryz.f45)) (cleanAt (X.H 45 7) 0) (exitQ 0 (X.H 45 1000000) 0 (SubQ X Tryz.f45 0 (fun (r : Int × Int) => (CRes.ret (.tuple [.d (iZ r.1), .d (iZ r.2)]) [])) (fun (n2 : Int) => (⟨[(4, .d (iZ k)), (5, .d (iZ n2))], [], 0, [], none⟩ : St)) res)) ⟨[(4, .d (iZ k)), (5, .d (iZ n1)), (28, .d (.list 1 (List.map (D.int .u8) l))), (29, .d (iZ (List.length l : Int))), (30, .d (iZ x))], [], 0, [], none⟩) := by
 refine p_runes_One_l0.partial_correctness _ ?_
 rintro p_runes_One_l0' ih ⟨l, n1, x⟩ res h
 refine lg I (ra I (S_ ?_))
 rcases E_ h with ⟨hc, h⟩ | ⟨hc, h⟩
 ·refine ct I hc (K_ (cn I (N_ (S_ (W_ (S_ (rn 0 I ?_)))))))
  obtain ⟨c, hk, h⟩ := B h
  refine po (elget (D.int .u8) (fun _ => I) hk I I I I I) I I (on 2 I (rz (S_ (ra I ?_))))
  rcases E_ h with ⟨hc, h⟩ | ⟨hc, h⟩
  ·refine ct I hc (ra I (R_ (C_ (Q_ (exitQ.ret (Q_ (loopQ.ret (exitQ.ret ?_))))))))
   cases h
   exact .err I (.ret I I)
  refine cf I hc (K_ (cn I (N_ (rn 7 I (O_ (en I (N_ (rn 2 I (O_ (loopQ.normal ?_))))))))))
  exact awpL_at I I (ih _ _ h)
 refine cf I hc (X_ (condQ.exit (seqQ.exit (loopQ.exit (eh I ?_)))))
 cases h
 exact .ok I
theorem p_runes_One_ok {b : (List Int)} {r : Int × Int} (h : p_runes_One b = some r) : aval X 45 [.d (.list 1 (List.map (D.int .u8) b))] [] (CRes.ret (.tuple [.d (iZ r.1), .d (iZ r.2)]) []) := by
 unfold p_runes_One at h
 refine aval_start (tm := [(0, .d (.list 1 (List.map (D.int .u8) b)))]) (hp := []) (n := 0) I Tryz.func45 I I I I I I (ra I (S_ (S_ (rn 1 I (po (ellen I I I I I I I) I I (on 1 I (rz ?_)))))))
 rcases E_ h with ⟨hc, h⟩ | ⟨hc, h⟩
 ·refine ct I hc (ra I (R_ (C_ (Q_ ?_))))
  cases h
  exact .ret I I
 refine cf I hc (K_ (cn I (N_ (S_ (rn 1 I ?_)))))
 obtain ⟨y, hk, h⟩ := B h
 refine po (elget (D.int .u8) (fun _ => I) hk I I I I I) I I (on 1 I ?_)
 obtain ⟨⟨k, n⟩, hk, h⟩ := B h
 refine po (ecall (p_runes_first_ok hk) I I I I I I I I I) I I (on 5 I (rz (S_ (S_ (rn 3 I ?_)))))
 rcases E_ h with ⟨hc, h⟩ | ⟨hc, h⟩
 ·refine gt I I I I hc I (on 5 I (rz (ct I I (ra I (R_ (C_ (Q_ ?_)))))))
  cases h
  exact .ret I I
 refine gf I I I I hc I (on 2 I (po (ellen I I I I I I I) I I (on 2 I (rz ?_))))
 rcases E_ h with ⟨hc, h⟩ | ⟨hc, h⟩
 ·refine ct I hc (ra I (R_ (C_ (Q_ ?_))))
  cases h
  exact .ret I I
 refine cf I hc (K_ (cn I (N_ (S_ (S_ (rn 2 I ?_))))))
 obtain ⟨l, hk, h⟩ := B h
 refine po (elmid hk I I I I I I I) I I (po (ellen I I I I I I I) I I (on 1 I (rz ?_)))
 obtain ⟨res, hs, h⟩ := B h
 refine awp_sub Tryz.f45 0 (fun (r : Int × Int) => (CRes.ret (.tuple [.d (iZ r.1), .d (iZ r.2)]) [])) (fun (n2 : Int) => (⟨[(4, .d (iZ k)), (5, .d (iZ n2))], [], 0, [], none⟩ : St)) (res := res) ?_ (fun y hy => ?_) (fun r x s' hr hx he => ?_)
 ·replace h := hs
  refine W_ (awp_loop ?_)
  exact awpL_at I I (p_runes_One_l0_ok k _ _ h)
 ·subst hy
  obtain n2 := y
  refine N_ (S_ (S_ (rn 1 I ?_)))
  obtain ⟨x1, hk, h⟩ := B h
  refine po (ecall (p_runes_Good_ok hk) I I I I I I I I I) I I (on 2 I ?_)
  rcases E_ h with ⟨hc, h⟩ | ⟨hc, h⟩
  ·refine gt I I I I hc I (on 6 I (rz (ct I I (ra I (R_ (C_ (Q_ ?_)))))))
   cases h
   exact .ret I I
  refine gf I I I I hc I (on 1 I ?_)
  obtain ⟨x2, hk, h⟩ := B h
  refine po (ecallk (p_runes_put_nil_ok hk) I I I I I I I) I I (po (ellen I I I I I I I) I I (on 3 I (rz ?_)))
  rcases E_ h with ⟨hc, h⟩ | ⟨hc, h⟩
  ·refine ct I hc (ra I (R_ (C_ (Q_ ?_))))
   cases h
   exact .ret I I
  refine cf I hc (K_ (cn I (N_ (ra I (R_ ?_)))))
  cases h
  exact .ret I I
 subst hr
 refine seqQ.out hx ?_
 cases h
 exact he
end Go.AM.SeatX

namespace Go.AM.SeatX
open Go Go.AM Go.Proofs
set_option maxRecDepth 100000
set_option maxHeartbeats 4000000
set_option linter.unusedVariables false
variable [Globs]
theorem p_stringslite_HasPrefix_ok {s : Str} {prefix_ : Str} {r : Bool} (h : p_stringslite_HasPrefix s prefix_ = some r) : aval X 71 [.d (.str s), .d (.str prefix_)] [] (CRes.ret (.d (.bool r)) []) := by
 unfold p_stringslite_HasPrefix at h
 refine aval_start (tm := [(0, .d (.str s)), (1, .d (.str prefix_))]) (hp := []) (n := 0) I Tryz.func71 I I I I I I (ra I (S_ (rn 6 I ?_)))
 rcases E_ h with ⟨hc, h⟩ | ⟨hc, h⟩
 ·refine gt I I I I hc I (on 3 I ?_)
  obtain ⟨s1, hk, h⟩ := B h
  refine po (esto hk I I I I) I I (on 4 I (rz (R_ ?_)))
  cases h
  exact .ret I I
 refine gf I I I I hc I (on 8 I (rz (R_ ?_)))
 cases h
 exact .ret I I
end Go.AM.SeatX

namespace Go.AM.SeatX
open Go Go.AM Go.Proofs
set_option maxRecDepth 100000
set_option maxHeartbeats 4000000
set_option linter.unusedVariables false
variable [Globs]
theorem p_strings_HasPrefix_ok {s : Str} {prefix_ : Str} {r : Bool} (h : p_strings_HasPrefix s prefix_ = some r) : aval X 39 [.d (.str s), .d (.str prefix_)] [] (CRes.ret (.d (.bool r)) []) := by
 unfold p_strings_HasPrefix at h
 refine aval_start (tm := [(0, .d (.str s)), (1, .d (.str prefix_))]) (hp := []) (n := 0) I Tryz.func39 I I I I I I (ra I (S_ (rn 2 I ?_)))
 obtain ⟨x, hk, h⟩ := B h
 refine po (ecall (p_stringslite_HasPrefix_ok hk) I I I I I I I I I) I I (on 1 I (rz (R_ ?_)))
 cases h
 exact .ret I I
end Go.AM.SeatX

namespace Go.AM.SeatX
open Go Go.AM Go.Proofs
set_option maxRecDepth 100000
set_option maxHeartbeats 4000000
set_option linter.unusedVariables false
variable [Globs]
theorem wpN_keep {X : Ctx} {sz : Nat} {c : Code} {Q : AX → St → Prop} {tm tm' : List (Nat × V)} {hp : List (Nat × List C)} {n : Nat} {df : List (Nat × List Nat)} {pn : Option D} {ks : List Nat} (hk : keepT ks tm = tm') (h : wpN X sz c Q ⟨tm', hp, n, df, pn⟩) : wpN X sz c Q ⟨tm, hp, n, df, pn⟩ := by
 intro hc hP K μ w a Qm hs hsz hg
 subst hk
 exact h hc hP K μ w a Qm (hs.keep ks) hsz hg
def opsAt : Code → Array Oper | .region _ ops _ => ops | _ => #[]
noncomputable abbrev o9 : Array Oper := opsAt (codeAt [1, 1, 1, 1, 0, 0] (bodyOf Tryz.f79))
def allOf (n : Int) : Str := if n = 4 then fxVerbs else if n = 5 then fxOpen else fxShut
def doneOf (s : Str) (k : D) : Prop := ∀ n, k = .int .i64 n → subB (allOf n) s = false
def kvsX : List (D × D) := [(.int .i64 4, .str fxVerbs), (.int .i64 5, .str fxOpen), (.int .i64 6, .str fxShut)]
abbrev hp0 (b : Str) (at_ err at_1 why : Int) : List (Nat × List C) :=
 [(1, [.d (.int .i64 0), .d (.str []), .own 1 (List.map (D.int .i64) []), .own 3 (List.map encCell []), .d (.int .i64 0)]), (0, [.d (.str b), .d (.int .i64 at_), .hid, .d (.int .i64 err), .d (.int .i64 at_1), .d (.int .i64 why)])]
abbrev tmHX (s : Str) : List (Nat × V) := [(0, .c (.ptr 0 0)), (2, .c (.ptr 1 0)), (8, .d (.str s))]
abbrev sBX (b s : Str) (at_ err at_1 why : Int) (k v : D) : St :=
 ⟨(10, .d v) :: (9, .d k) :: (80, .d v) :: (79, .d k) :: (78, .tuple [.d k, .d v]) :: (77, .d (.bool true)) :: (76, .tuple [.d (.bool true), .d k, .d v]) :: (75, .c (.ptr 35 0)) :: tmHX s, hp0 b at_ err at_1 why, 36, [], none⟩
theorem body_ok {b s : Str} {at_ err at_1 why n : Int} {all : Str} {r : Token × Bool} (hall : all.length < 4294967281) (h1 : subB all s = true → r = (Token.mk n s noLit at_, true)) {done : D → Prop} (h2 : subB all s = false → done (.int .i64 n)) :
  wpN X 92 (codeAt [1, 1, 1, 1, 0, 1, 0, 0, 1, 1, 0, 1] (bodyOf Tryz.f79))
   (fun x s' => (x = .normal ∧ done (.int .i64 n) ∧ ∃ ks' tm', s' = ⟨tm', hp0 b at_ err at_1 why, 36, [], none⟩ ∧ keepT ks' tm' = (75, .c (.ptr 35 0)) :: tmHX s) ∨ ((x = .ret ∨ ∃ d, x = .pan d) ∧
    (seqN X 92 (codeAt [1, 1, 1, 1, 1] (bodyOf Tryz.f79)) (atEnd X Tryz.f79 1 (CRes.ret (.tuple [.d (encToken r.1), .d (.bool r.2)]) [[.d (.str b), .d (.int .i64 at_), .hid, .d (.int .i64 err), .d (.int .i64 at_1), .d (.int .i64 why)]]))) x s'))
   (sBX b s at_ err at_1 why (.int .i64 n) (.str all)) := by
 refine wpN_of (f := 79) ?_ (by kernel_rfl)
 refine awp_seq ?_
 refine rn 2 rfl ?_
 refine po (ecall (go_Contains_ok (s := all) (t := s) (r := subB all s) (by unfold go_Contains; rw [if_pos hall])) rfl rfl rfl rfl rfl rfl rfl rfl rfl) rfl rfl ?_
 refine rz ?_
 cases hb : subB all s with
 | true =>
  refine ct rfl rfl ?_
  refine awp_seq ?_
  refine rn 9 rfl ?_
  refine rz ?_
  refine awp_ret ?_
  refine condQ.ret ?_
  refine .inr ⟨.inl rfl, seqN.ret ?_⟩
  rw [h1 hb]
  exact .ret rfl rfl
 | false =>
  refine cf rfl rfl ?_
  refine awp_skip ?_
  refine cn rfl ?_
  exact .inl ⟨rfl, h2 hb, [75, 0, 2, 8], _, rfl, rfl⟩
theorem tail_ok' {b s : Str} {at_ err at_1 why : Int} {r : Token × Bool} (h : tailS s at_ = some r) :
  wpN X 92 (codeAt [1, 1, 1, 1] (bodyOf Tryz.f79)) (atEnd X Tryz.f79 1 (CRes.ret (.tuple [.d (encToken r.1), .d (.bool r.2)]) [[.d (.str b), .d (.int .i64 at_), .hid, .d (.int .i64 err), .d (.int .i64 at_1), .d (.int .i64 why)]]))
   ⟨tmHX s, hp0 b at_ err at_1 why, 34, [], none⟩ := by
 obtain ⟨q1, q2, q3, q4⟩ := tailS_some h
 show wpN X 92 (.seq (codeAt [1, 1, 1, 1, 0] (bodyOf Tryz.f79)) (codeAt [1, 1, 1, 1, 1] (bodyOf Tryz.f79))) _ _
 refine wpN_seq' ?_
 refine wpN_range (n1 := 35) (kvs := kvsX) (ks := [0, 2, 8]) (pre := o9.toList.take 5) (done := doneOf s) (sB := sBX b s at_ err at_1 why) (tmH := tmHX s) (hpH := hp0 b at_ err at_1 why) (t74 := 74) (b := 34) (hp1 := (34, [.ment (kvM kvsX)]) :: hp0 b at_ err at_1 why) (tm1 := (74, .c (.mp 34)) :: (73, .c (.mp 34)) :: tmHX s)
  rfl rfl rfl rfl rfl rfl rfl rfl rfl rfl rfl rfl (by kernel_rfl) (Tryz.underlying144) (by decide) (by decide) ?_ rfl rfl rfl rfl rfl (by decide) ?_ ?_ ?_ ?_ ?_
 ·unfold opsTo
  refine pmk (nid' := 35) rfl rfl rfl rfl rfl ?_
  refine po (emap (kvs' := List.map (encI .i64 D.str) [(4, fxVerbs)]) rfl (.inl rfl) rfl rfl rfl rfl rfl rfl rfl) rfl rfl ?_
  refine po (emap (kvs' := List.map (encI .i64 D.str) [(4, fxVerbs), (5, fxOpen)]) rfl (.inl rfl) rfl rfl rfl rfl rfl rfl rfl) rfl rfl ?_
  refine po (emap (kvs' := List.map (encI .i64 D.str) [(4, fxVerbs), (5, fxOpen), (6, fxShut)]) rfl (.inl rfl) rfl rfl rfl rfl rfl rfl rfl) rfl rfl ?_
  refine on 1 rfl ?_
  exact awpO_nil ⟨rfl, rfl⟩
 ·intro c cs
  unfold opsTo
  refine on 1 rfl ?_
  exact awpO_nil ⟨rfl, rfl⟩
 ·intro k v hkv
  unfold opsTo
  refine on 4 rfl ?_
  exact awpO_nil ⟨rfl, rfl⟩
 ·intro k v; rfl
 ·intro k v hkv
  simp only [kvsX, List.mem_cons, Prod.mk.injEq, List.not_mem_nil, or_false] at hkv
  rcases hkv with ⟨rfl, rfl⟩ | ⟨rfl, rfl⟩ | ⟨rfl, rfl⟩
  ·exact body_ok (by decide) q1 (fun hb n e => by cases e; exact hb)
  ·exact body_ok (by decide) q2 (fun hb n e => by cases e; exact hb)
  ·exact body_ok (by decide) q3 (fun hb n e => by cases e; exact hb)
 ·intro hd
  have hr := q4 (hd (.int .i64 4, .str fxVerbs) (by simp [kvsX]) 4 rfl) (hd (.int .i64 5, .str fxOpen) (by simp [kvsX]) 5 rfl) (hd (.int .i64 6, .str fxShut) (by simp [kvsX]) 6 rfl)
  subst hr
  refine seqN.normal (wpN_of (f := 79) ?_ (by kernel_rfl))
  refine awp_seq ?_
  refine rn 3 rfl ?_
  refine rz ?_
  refine awp_ret ?_
  exact .ret rfl rfl
theorem tail_ok {b s : Str} {at_ err at_1 why : Int} {r : Token × Bool} {tm : List (Nat × V)} (hk : keepT [0, 2, 8] tm = tmHX s) (h : tailS s at_ = some r) :
  wpN X 92 (codeAt [1, 1, 1, 1] (bodyOf Tryz.f79)) (atEnd X Tryz.f79 1 (CRes.ret (.tuple [.d (encToken r.1), .d (.bool r.2)]) [[.d (.str b), .d (.int .i64 at_), .hid, .d (.int .i64 err), .d (.int .i64 at_1), .d (.int .i64 why)]]))
   ⟨tm, hp0 b at_ err at_1 why, 34, [], none⟩ := wpN_keep hk (tail_ok' h)
end Go.AM.SeatX

namespace Go.AM.SeatX
open Go Go.AM Go.Proofs
set_option maxRecDepth 100000
set_option maxHeartbeats 4000000
set_option linter.unusedVariables false
variable [Globs]
theorem p_alex_lexer_fixed_ok {b : Str} {at_ : Int} {err : Int} {at_1 : Int} {why : Int} {r : Token × Bool} (h : p_alex_lexer_fixed b at_ err at_1 why = some r) : wpN X 92 (bodyOf Tryz.f79) (atEnd X Tryz.f79 1 (CRes.ret (.tuple [.d (encToken r.1), .d (.bool r.2)]) [[.d (.str b), .d (iZ at_), .hid, .d (iZ err), .d (iZ at_1), .d (iZ why)]])) ⟨[(0, .c (.ptr 0 0))], [(0, [.d (.str b), .d (iZ at_), .hid, .d (iZ err), .d (iZ at_1), .d (iZ why)])], 1, [], none⟩ := by
 unfold p_alex_lexer_fixed at h
 show wpN X _ (codeAt [] (bodyOf Tryz.f79)) _ _
 refine wpN_seq (f := 79) ?_ (by kernel_rfl)
 refine rn (nid' := 2) 2 I (O_ (seqN.normal ?_))
 refine wpN_seq (f := 79) ?_ (by kernel_rfl)
 refine ra I (W_ (awp_loop (lg I (ra I (S_ (ct I I (K_ (cn I (N_ (S_ (W_ (S_ (rn 0 I ?_)))))))))))))
 obtain ⟨y, hk, h⟩ := B h
 refine po (elget encS_text_kind (fun _ => I) hk I I I I I) I I (on (nid' := 3) 3 I (rz (S_ (drn (m := 15) 8 I I ?_))))
 obtain ⟨s, hk, h⟩ := B h
 refine pd (esfrom hk I I I I) I I I I I (don 2 I ?_)
 obtain ⟨x, hk, h⟩ := B h
 refine pd (ecall (p_strings_HasPrefix_ok hk) I I I I I I I I I) I I I I I (dz (by kernel_rfl) ?_)
 rcases E_ h with ⟨hc, h⟩ | ⟨hc, h⟩
 ·refine ct I hc (S_ (drn (m := 26) 11 I I (dz (by kernel_rfl) (R_ (C_ (exitQ.ret (Q_ (loopQ.ret (exitQ.ret (seqN.ret ?_))))))))))
  cases h
  exact .ret I I
 refine cf I hc (K_ (cn I (en I (N_ (rn 2 I (O_ (loopQ.normal (lg I (ra I (S_ (ct I I (K_ (cn I (N_ (S_ (W_ (S_ (rn 0 I ?_))))))))))))))))))
 obtain ⟨y1, hk, h⟩ := B h
 refine po (elget encS_text_kind (fun _ => I) hk I I I I I) I I (on (nid' := 3) 3 I (rz (S_ (drn (m := 15) 8 I I ?_))))
 obtain ⟨s1, hk, h⟩ := B h
 refine pd (esfrom hk I I I I) I I I I I (don 2 I ?_)
 obtain ⟨x1, hk, h⟩ := B h
 refine pd (ecall (p_strings_HasPrefix_ok hk) I I I I I I I I I) I I I I I (dz (by kernel_rfl) ?_)
 rcases E_ h with ⟨hc, h⟩ | ⟨hc, h⟩
 ·refine ct I hc (S_ (drn (m := 26) 11 I I (dz (by kernel_rfl) (R_ (C_ (exitQ.ret (Q_ (loopQ.ret (exitQ.ret (seqN.ret ?_))))))))))
  cases h
  exact .ret I I
 refine cf I hc (K_ (cn I (en I (N_ (rn 2 I (O_ (loopQ.normal (lg I (ra I (S_ (ct I I (K_ (cn I (N_ (S_ (W_ (S_ (rn 0 I ?_))))))))))))))))))
 obtain ⟨y2, hk, h⟩ := B h
 refine po (elget encS_text_kind (fun _ => I) hk I I I I I) I I (on (nid' := 3) 3 I (rz (S_ (drn (m := 15) 8 I I ?_))))
 obtain ⟨s2, hk, h⟩ := B h
 refine pd (esfrom hk I I I I) I I I I I (don 2 I ?_)
 obtain ⟨x2, hk, h⟩ := B h
 refine pd (ecall (p_strings_HasPrefix_ok hk) I I I I I I I I I) I I I I I (dz (by kernel_rfl) ?_)
 rcases E_ h with ⟨hc, h⟩ | ⟨hc, h⟩
 ·refine ct I hc (S_ (drn (m := 26) 11 I I (dz (by kernel_rfl) (R_ (C_ (exitQ.ret (Q_ (loopQ.ret (exitQ.ret (seqN.ret ?_))))))))))
  cases h
  exact .ret I I
 refine cf I hc (K_ (cn I (en I (N_ (rn 2 I (O_ (loopQ.normal (lg I (ra I (S_ (ct I I (K_ (cn I (N_ (S_ (W_ (S_ (rn 0 I ?_))))))))))))))))))
 obtain ⟨y3, hk, h⟩ := B h
 refine po (elget encS_text_kind (fun _ => I) hk I I I I I) I I (on (nid' := 3) 3 I (rz (S_ (drn (m := 15) 8 I I ?_))))
 obtain ⟨s3, hk, h⟩ := B h
 refine pd (esfrom hk I I I I) I I I I I (don 2 I ?_)
 obtain ⟨x3, hk, h⟩ := B h
 refine pd (ecall (p_strings_HasPrefix_ok hk) I I I I I I I I I) I I I I I (dz (by kernel_rfl) ?_)
 rcases E_ h with ⟨hc, h⟩ | ⟨hc, h⟩
 ·refine ct I hc (S_ (drn (m := 26) 11 I I (dz (by kernel_rfl) (R_ (C_ (exitQ.ret (Q_ (loopQ.ret (exitQ.ret (seqN.ret ?_))))))))))
  cases h
  exact .ret I I
 refine cf I hc (K_ (cn I (en I (N_ (rn 2 I (O_ (loopQ.normal (lg I (ra I (S_ (ct I I (K_ (cn I (N_ (S_ (W_ (S_ (rn 0 I ?_))))))))))))))))))
 obtain ⟨y4, hk, h⟩ := B h
 refine po (elget encS_text_kind (fun _ => I) hk I I I I I) I I (on (nid' := 3) 3 I (rz (S_ (drn (m := 15) 8 I I ?_))))
 obtain ⟨s4, hk, h⟩ := B h
 refine pd (esfrom hk I I I I) I I I I I (don 2 I ?_)
 obtain ⟨x4, hk, h⟩ := B h
 refine pd (ecall (p_strings_HasPrefix_ok hk) I I I I I I I I I) I I I I I (dz (by kernel_rfl) ?_)
 rcases E_ h with ⟨hc, h⟩ | ⟨hc, h⟩
 ·refine ct I hc (S_ (drn (m := 26) 11 I I (dz (by kernel_rfl) (R_ (C_ (exitQ.ret (Q_ (loopQ.ret (exitQ.ret (seqN.ret ?_))))))))))
  cases h
  exact .ret I I
 refine cf I hc (K_ (cn I (en I (N_ (rn 2 I (O_ (loopQ.normal (lg I (ra I (S_ (cf I I (X_ (condQ.exit (seqQ.exit (loopQ.exit (eh I (seqN.normal ?_)))))))))))))))))
 refine wpN_seq (f := 79) ?_ (by kernel_rfl)
 refine drn (m := 18) 8 I I ?_
 obtain ⟨s5, hk, h⟩ := B h
 refine pd (esfrom hk I I I I) I I I I I ?_
 obtain ⟨b1, hk, h⟩ := B h
 refine pd (esbytes hk I I I I I I) I I I I I ?_
 obtain ⟨⟨x5, k⟩, hk, h⟩ := B h
 refine pd (ecall (p_runes_One_ok hk) I I I I I I I I I) I I I I I (don 5 I (dz' (by kernel_rfl) (seqN.normal ?_)))
 refine wpN_seq (f := 79) ?_ (by kernel_rfl)
 refine drn (m := 34) 14 I I ?_
 obtain ⟨s6, hk, h⟩ := B h
 refine pd (esmid hk I I I I I) I I I I I (don 1 I (dz' (by kernel_rfl) (seqN.normal ?_)))
 exact tail_ok I h
end Go.AM.SeatX

namespace Go.AM.SeatX
open Go Go.AM Go.AM.Fx
set_option linter.unusedVariables false
theorem w64_id {x : Int} (h1 : -9223372036854775808 ≤ x) (h2 : x < 9223372036854775808) : w64 x = x := by
 unfold w64; rw [IntKind.wrap_i64]; omega
theorem sfrom_eq {s : Str} {i : Int} (h0 : 0 ≤ i) (h : i ≤ s.length) : sfrom s i = some (s.drop i.toNat) := by
 unfold sfrom; rw [if_pos ⟨h0, by omega⟩]
theorem sto_eq {s : Str} {i : Int} (h0 : 0 ≤ i) (h : i ≤ s.length) : sto s i = some (s.take i.toNat) := by
 unfold sto; rw [if_pos ⟨h0, by omega⟩]
theorem smid_eq {s : Str} {i j : Int} (h0 : 0 ≤ i) (h1 : i ≤ j) (h : j ≤ s.length) : smid s i j = some ((s.take j.toNat).drop i.toNat) := by
 unfold smid; rw [if_pos ⟨h0, h1, by omega⟩]
theorem lget_eq {α : Type} {l : List α} {i : Int} {x : α} (h0 : 0 ≤ i) (h : l[i.toNat]? = some x) : lget l i = some x := by
 unfold lget; rw [if_pos h0, h]
theorem lapp_eq {α : Type} {l m : List α} (h : l.length + m.length ≤ 4294967296) : lapp l m = some (l ++ m) := by
 unfold lapp; rw [if_pos h]
theorem sbytes_eq {s : Str} (h : s.length ≤ 1099511627776) : sbytes s = some (s.map u8I) := by
 unfold sbytes; rw [if_pos h]
def hasPre (s p : Str) : Bool := p.isPrefixOf s
theorem HasPrefix_eq (s p : Str) : p_strings_HasPrefix s p = some (hasPre s p) := by
 unfold p_strings_HasPrefix p_stringslite_HasPrefix hasPre
 by_cases h : (List.length s : Int) ≥ (List.length p : Int)
 ·rw [if_pos (by simpa using h), sto_eq (by omega) (by omega)]
  simp only [Option.bind_eq_bind, Option.bind_some, Option.some.injEq, Int.toNat_natCast]
  rw [Bool.eq_iff_iff, beq_iff_eq, List.isPrefixOf_iff_prefix]
  constructor
  ·intro e
   have := List.take_append_drop p.length s
   rw [e] at this
   exact ⟨_, this⟩
  ·rintro ⟨r, rfl⟩; simp
 ·rw [if_neg (by simpa using h)]
  simp only [Option.bind_eq_bind, Option.bind_some, Option.some.injEq]
  rw [eq_comm, Bool.eq_false_iff]
  intro e
  rw [List.isPrefixOf_iff_prefix] at e
  have := e.length_le
  omega
theorem lget_cons {α : Type} {l : List α} {i : Int} {x : α} {r : List α} (h0 : 0 ≤ i) (h : l.drop i.toNat = x :: r) : lget l i = some x ∧ i < l.length ∧ l.drop (i + 1).toNat = r := by
 have h1 : l[i.toNat]? = some x := by
  have : (l.drop i.toNat)[0]? = some x := by rw [h]; rfl
  simpa using this
 have h2 : i.toNat < l.length := (List.getElem?_eq_some_iff.1 h1).1
 refine ⟨lget_eq h0 h1, by omega, ?_⟩
 rw [show (i + 1).toNat = i.toNat + 1 from by omega, ← List.drop_drop, h]; rfl
theorem drop_nil_le {α : Type} {l : List α} {i : Int} (h : l.drop i.toNat = []) : (l.length : Int) ≤ i ∨ i < 0 := by
 have : l.length ≤ i.toNat := by simpa using h
 omega
theorem first_eq (c : Int) : p_runes_first c = some (firstN c) := by
 unfold p_runes_first firstN
 simp only [decide_eq_true_eq]
 split
 ·rfl
 split
 ·rfl
 split
 ·rfl
 split
 ·rfl
 split <;> rfl
theorem firstN_bounds (c : Int) : 0 ≤ (firstN c).1 ∧ (firstN c).1 ≤ 4 := by
 unfold firstN
 split
 ·simp
 split
 ·simp
 split
 ·simp
 split
 ·simp
 split <;> simp
theorem Good_eq (n : Int) : p_runes_Good n = some (goodN n) := by
 unfold p_runes_Good goodN
 simp only [decide_eq_true_eq]
 split
 ·split
  ·split
   ·simp [*]
   ·rename_i h1 h2 h3; simp [h1, h2, h3]
  ·rename_i h1 h2; simp [h1, h2]
 ·rename_i h1; simp [h1]
theorem put_eq (n : Int) : ∃ l, p_runes_put_nil n = some l ∧ (l.length : Int) = widthN n := by
 unfold p_runes_put_nil widthN
 simp only [decide_eq_true_eq]
 split
 ·exact ⟨_, by rw [lapp_eq (by simp)]; rfl, by simp⟩
 split
 ·exact ⟨_, by rw [lapp_eq (by simp)]; rfl, by simp⟩
 split
 ·exact ⟨_, by rw [lapp_eq (by simp)]; rfl, by simp⟩
 ·exact ⟨_, by rw [lapp_eq (by simp)]; rfl, by simp⟩
theorem One_l0_eq {l : List Int} (hl : l.length < 4294967296) : ∀ (m : List Int) (x n : Int), 0 ≤ x → l.drop x.toNat = m → p_runes_One_l0 (l, n, x) = some (contGo m n)
 | [], x, n, h0, h => by
  rw [p_runes_One_l0]
  have := drop_nil_le h
  rw [if_neg (by simp; omega)]; rfl
 | c :: m, x, n, h0, h => by
  obtain ⟨h1, h2, h3⟩ := lget_cons h0 h
  rw [p_runes_One_l0]
  rw [if_pos (by simpa using h2), h1]
  simp only [Option.bind_eq_bind, Option.bind_some]
  by_cases hc : contN c = true
  ·rw [if_pos (by exact hc)]
   simp [contGo, hc]
  ·have hw : w64 (x + 1) = x + 1 := w64_id (by omega) (by omega)
   rw [if_neg (by exact hc), hw, One_l0_eq hl m (x + 1) _ (by omega) h3]
   simp only [contGo, if_neg hc]; rfl
theorem oneN_cons (c : Int) (r : List Int) : oneN (c :: r) = if (firstN c).1 = 0 then (0, 0) else if (firstN c).1 > (c :: r).length then (0, 0) else
  oneRest (firstN c).1 (contGo (r.take ((firstN c).1.toNat - 1)) (firstN c).2) := rfl
theorem One_eq {b : List Int} (hb : b.length < 4294967296) : p_runes_One b = some (oneN b) := by
 unfold p_runes_One
 cases b with
 | nil => rfl
 | cons c r =>
  rw [if_neg (by simp; omega), lget_eq (x := c) (by decide) rfl]
  simp only [Option.bind_eq_bind, Option.bind_some, first_eq]
  have hk := firstN_bounds c
  rw [oneN_cons]
  by_cases h0 : (firstN c).1 = 0
  ·rw [if_pos (by simp [h0]), if_pos h0]
  ·rw [if_neg (by simp [h0]), if_neg h0]
   by_cases h1 : (firstN c).1 > (c :: r).length
   ·rw [if_pos (by simpa using h1), if_pos h1]
   ·rw [if_neg (by simpa using h1), if_neg h1]
    have hm : lmid (c :: r) 1 (firstN c).1 = some (r.take ((firstN c).1.toNat - 1)) := by
     unfold lmid
     rw [if_pos ⟨by decide, by omega, by omega⟩]
     congr 1
     have : (firstN c).1.toNat = ((firstN c).1.toNat - 1) + 1 := by omega
     rw [this, List.take_succ_cons]; rfl
    rw [hm]
    simp only [Option.bind_some]
    rw [One_l0_eq (by have := List.length_take_le ((firstN c).1.toNat - 1) r; simp only [List.length_cons] at hb; omega) _ 0 _ (by decide) rfl]
    simp only [Option.bind_some, Int.toNat_zero, List.drop_zero]
    cases contGo (r.take ((firstN c).1.toNat - 1)) (firstN c).2 with
    | error r => rfl
    | ok n =>
     simp only [oneRest, Good_eq, Option.bind_some]
     cases hg : goodN n with
     | false => simp
     | true =>
      obtain ⟨l, hl, hw⟩ := put_eq n
      simp only [Bool.not_true, Bool.false_eq_true, if_false, hl, Option.bind_some, Bool.true_eq_false, if_false]
      rw [← hw]
      by_cases hx : (l.length : Int) = (firstN c).1
      ·rw [if_neg (by simp [hx]), if_neg (by simp [hx])]
      ·rw [if_pos (by simp [hx]), if_pos (by simp [hx])]
theorem oneN_k (b : List Int) : (oneN b).2 = 0 ∨ (1 ≤ (oneN b).2 ∧ (oneN b).2 ≤ 4 ∧ (oneN b).2 ≤ b.length) := by
 cases b with
 | nil => left; rfl
 | cons c r =>
  have hk := firstN_bounds c
  rw [oneN_cons]
  split
  ·left; rfl
  ·split
   ·left; rfl
   ·rename_i h0 h1
    have he : ∀ m n r', contGo m n = .error r' → r' = (0, 0) := by
     intro m
     induction m with
     | nil => intro n r' h; simp [contGo] at h
     | cons x m ih =>
      intro n r' h
      simp only [contGo] at h
      split at h
      ·simp only [Except.error.injEq] at h; exact h.symm
      ·exact ih _ _ h
    cases hc : contGo (r.take ((firstN c).1.toNat - 1)) (firstN c).2 with
    | error r' => left; rw [he _ _ _ hc]; rfl
    | ok n =>
     simp only [oneRest]
     split
     ·left; rfl
     ·split
      ·left; rfl
      ·right; simp only; omega
theorem fixed_plain {b : Str} {a e a1 y : Int} {r : Token × Bool} (h : fixedS b a = some r) : p_alex_lexer_fixed b a e a1 y = some r := by
 unfold fixedS at h
 split at h
 ·rename_i hc
  obtain ⟨h0, h1, h2⟩ := hc
  have hf : sfrom b a = some (b.drop a.toNat) := sfrom_eq h0 h1
  have g : ∀ {α : Type} (l : List α) (i : Nat) (x : α), l[i]? = some x → lget l (i : Int) = some x := fun l i x hx => lget_eq (by omega) (by simpa using hx)
  unfold p_alex_lexer_fixed
  rw [show lget _ 0 = some (S_text_kind.mk [226, 142, 149, 73, 79] 3) from rfl]
  simp only [Option.bind_eq_bind, Option.bind_some, hf, HasPrefix_eq]
  rcases Bool.eq_false_or_eq_true (List.isPrefixOf [226, 142, 149, 73, 79] (b.drop a.toNat)) with c1 | c1
  ·rw [if_pos c1] at h; rw [if_pos (by exact c1)]; exact h
  rw [if_neg (by simp [c1])] at h; rw [if_neg (by simp [hasPre, c1])]
  rw [show lget _ 1 = some (S_text_kind.mk [226, 141, 186] 3) from rfl]
  simp only [Option.bind_some]
  rcases Bool.eq_false_or_eq_true (List.isPrefixOf [226, 141, 186] (b.drop a.toNat)) with c2 | c2
  ·rw [if_pos c2] at h; rw [if_pos (by exact c2)]; exact h
  rw [if_neg (by simp [c2])] at h; rw [if_neg (by simp [hasPre, c2])]
  rw [show lget _ 2 = some (S_text_kind.mk [226, 141, 181] 3) from rfl]
  simp only [Option.bind_some]
  rcases Bool.eq_false_or_eq_true (List.isPrefixOf [226, 141, 181] (b.drop a.toNat)) with c3 | c3
  ·rw [if_pos c3] at h; rw [if_pos (by exact c3)]; exact h
  rw [if_neg (by simp [c3])] at h; rw [if_neg (by simp [hasPre, c3])]
  rw [show lget _ 3 = some (S_text_kind.mk [226, 136, 152, 46] 4) from rfl]
  simp only [Option.bind_some]
  rcases Bool.eq_false_or_eq_true (List.isPrefixOf [226, 136, 152, 46] (b.drop a.toNat)) with c4 | c4
  ·rw [if_pos c4] at h; rw [if_pos (by exact c4)]; exact h
  rw [if_neg (by simp [c4])] at h; rw [if_neg (by simp [hasPre, c4])]
  rw [show lget _ 4 = some (S_text_kind.mk [226, 134, 144] 7) from rfl]
  simp only [Option.bind_some]
  rcases Bool.eq_false_or_eq_true (List.isPrefixOf [226, 134, 144] (b.drop a.toNat)) with c5 | c5
  ·rw [if_pos c5] at h; rw [if_pos (by exact c5)]; exact h
  rw [if_neg (by simp [c5])] at h; rw [if_neg (by simp [hasPre, c5])]
  have hl : ((b.drop a.toNat).map u8I).length = b.length - a.toNat := by simp
  rw [sbytes_eq (by rw [List.length_drop]; omega)]
  simp only [Option.bind_some]
  rw [One_eq (by rw [hl]; omega)]
  simp only [Option.bind_some]
  have hk := oneN_k ((b.drop a.toNat).map u8I)
  rw [hl] at hk
  have hk0 : 0 ≤ (oneN ((b.drop a.toNat).map u8I)).2 := by omega
  have hkl : a + (oneN ((b.drop a.toNat).map u8I)).2 ≤ b.length := by omega
  have hw : w64 (a + (oneN ((b.drop a.toNat).map u8I)).2) = a + (oneN ((b.drop a.toNat).map u8I)).2 := w64_id (by omega) (by omega)
  rw [hw, smid_eq h0 (by omega) hkl]
  simp only [Option.bind_some]
  rw [show (List.take (a + (oneN ((b.drop a.toNat).map u8I)).2).toNat b).drop a.toNat = (b.drop a.toNat).take (oneN ((b.drop a.toNat).map u8I)).2.toNat from by
   rw [List.drop_take]
   congr 1
   omega]
  exact h
 ·cases h
theorem fixed_call [Globs] (hX : ∀ k, CallsOK X.P (X.call k)) (hP : ProgOK X.P) {args : List C} {lh : List (List C)} {r : CRes} (h : fixedCall 79 args lh = some r) : CallOK X.P 79 args lh r := by
 unfold fixedCall at h
 split at h
 ·rw [Option.map_eq_some_iff] at h
  obtain ⟨r, h, rfl⟩ := h
  exact callOK_of_wpN hX hP (fn := Go.Proofs.Tryz.f79) Go.Proofs.Tryz.func79 rfl rfl (by decide) (aval_endN rfl rfl rfl (p_alex_lexer_fixed_ok (fixed_plain h)))
 ·cases h
end Go.AM.SeatX

namespace Go.Proofs
open Go.Shelf
def Tryz.lays156_ren : Go.Shelf.Ren := ⟨fun | 156 => 36 | 165 => 65 | 166 => 66 | 169 => 67 | 240 => 103 | 241 => 104 | 276 => 124 | 277 => 125 | n => n, fun | 31 => 41 | 9 => 9 | 3 => 3 | 4 => 4 | 0 => 0 | 20 => 20 | 72 => 106 | 76 => 110 | 70 => 104 | 37 => 92 | 75 => 109 | 127 => 136 | 164 => 153 | 5 => 5 | 80 => 112 | n => n, fun | n => n⟩
theorem Tryz.lays156 : Go.Proofs.Lays.n156 Tryz.prog Tryz.lays156_ren := {
 mixed := by kernel_rfl
 f156 := Tryz.func36.trans (congrArg some (by kernel_rfl))
 f165 := Tryz.func65.trans (congrArg some (by kernel_rfl))
 f166 := Tryz.func66.trans (congrArg some (by kernel_rfl))
 f169 := Tryz.func67.trans (congrArg some (by kernel_rfl))
 f240 := Tryz.func103.trans (congrArg some (by kernel_rfl))
 f241 := Tryz.func104.trans (congrArg some (by kernel_rfl))
 f276 := Tryz.func124.trans (congrArg some (by kernel_rfl))
 f277 := Tryz.func125.trans (congrArg some (by kernel_rfl))
 t0 := Tryz.underlying0
 a0 := Tryz.isAgg0
 z0 := Tryz.sizeOf0
 v0 := Tryz.zeroValue0
 t3 := Tryz.underlying3
 a3 := Tryz.isAgg3
 z3 := Tryz.sizeOf3
 v3 := Tryz.zeroValue3
 t4 := Tryz.underlying4
 a4 := Tryz.isAgg4
 z4 := Tryz.sizeOf4
 v4 := Tryz.zeroValue4
 t9 := Tryz.underlying9
 a9 := Tryz.isAgg9
 z9 := Tryz.sizeOf9
 v9 := Tryz.zeroValue9
 t20 := Tryz.underlying20
 a20 := Tryz.isAgg20
 z20 := Tryz.sizeOf20
 v20 := Tryz.zeroValue20
 t31 := Tryz.underlying41
 a31 := Tryz.isAgg41
 z31 := Tryz.sizeOf41
 v31 := Tryz.zeroValue41
 t37 := Tryz.underlying92
 a37 := Tryz.isAgg92
 z37 := Tryz.sizeOf92
 v37 := Tryz.zeroValue92
 t70 := Tryz.underlying104
 a70 := Tryz.isAgg104
 z70 := Tryz.sizeOf104
 v70 := Tryz.zeroValue104
 t72 := Tryz.underlying106
 a72 := Tryz.isAgg106
 z72 := Tryz.sizeOf106
 v72 := Tryz.zeroValue106
 t75 := Tryz.underlying109
 a75 := Tryz.isAgg109
 z75 := Tryz.sizeOf109
 v75 := Tryz.zeroValue109
 t76 := Tryz.underlying110
 a76 := Tryz.isAgg110
 z76 := Tryz.sizeOf110
 v76 := Tryz.zeroValue110
 t127 := Tryz.underlying136
 a127 := Tryz.isAgg136
 z127 := Tryz.sizeOf136
 v127 := Tryz.zeroValue136
 t164 := Tryz.underlying153
 a164 := Tryz.isAgg153
 z164 := Tryz.sizeOf153
 v164 := Tryz.zeroValue153 }
theorem Tryz.Builder_Extra_156 : Builder.Extra Tryz.prog Tryz.lays156_ren := {
 sizeBuilder := by kernel_rfl
 liesBuilder := by kernel_rfl
 t5 := Tryz.underlying5
 a5 := Tryz.isAgg5
 z5 := Tryz.sizeOf5
 v5 := Tryz.zeroValue5
 infoByte := by kernel_rfl
 cellsByte := by kernel_rfl
 sizeByte := by kernel_rfl
 neB5 := by decide }
open Go.RowKit in
def Tryz.lays137_ren : Go.Shelf.Ren := ⟨fun | 137 => 83 | 217 => 114 | 266 => 129 | n => n, fun | 9 => 9 | 5 => 5 | 3 => 3 | n => n, fun | n => n⟩
theorem Tryz.lays137 : Go.Proofs.Lays.n137 Tryz.prog Tryz.lays137_ren := {
 mixed := by kernel_rfl
 f137 := Tryz.func83.trans (congrArg some (by kernel_rfl))
 f217 := Tryz.func114.trans (congrArg some (by kernel_rfl))
 f266 := Tryz.func129.trans (congrArg some (by kernel_rfl))
 t3 := Tryz.underlying3
 a3 := Tryz.isAgg3
 z3 := Tryz.sizeOf3
 v3 := Tryz.zeroValue3
 t5 := Tryz.underlying5
 a5 := Tryz.isAgg5
 z5 := Tryz.sizeOf5
 v5 := Tryz.zeroValue5
 t9 := Tryz.underlying9
 a9 := Tryz.isAgg9
 z9 := Tryz.sizeOf9
 v9 := Tryz.zeroValue9 }
open Go.RowKit in
def Tryz.lays150_ren : Go.Shelf.Ren := ⟨fun | 150 => 89 | 153 => 115 | 152 => 130 | 226 => 131 | 227 => 132 | 228 => 133 | 137 => 83 | 119 => 139 | 224 => 140 | 225 => 141 | 217 => 114 | 266 => 129 | n => n, fun | 9 => 9 | 4 => 4 | 3 => 3 | 5 => 5 | 21 => 21 | 117 => 159 | 116 => 158 | 0 => 0 | 46 => 119 | 124 => 165 | n => n, fun | n => n⟩
theorem Tryz.lays150 : Go.Proofs.Lays.n150 Tryz.prog Tryz.lays150_ren := {
 mixed := by kernel_rfl
 f119 := Tryz.func139.trans (congrArg some (by kernel_rfl))
 f137 := Tryz.func83.trans (congrArg some (by kernel_rfl))
 f150 := Tryz.func89.trans (congrArg some (by kernel_rfl))
 f152 := Tryz.func130.trans (congrArg some (by kernel_rfl))
 f153 := Tryz.func115.trans (congrArg some (by kernel_rfl))
 f217 := Tryz.func114.trans (congrArg some (by kernel_rfl))
 f224 := Tryz.func140.trans (congrArg some (by kernel_rfl))
 f225 := Tryz.func141.trans (congrArg some (by kernel_rfl))
 f226 := Tryz.func131.trans (congrArg some (by kernel_rfl))
 f227 := Tryz.func132.trans (congrArg some (by kernel_rfl))
 f228 := Tryz.func133.trans (congrArg some (by kernel_rfl))
 f266 := Tryz.func129.trans (congrArg some (by kernel_rfl))
 t0 := Tryz.underlying0
 a0 := Tryz.isAgg0
 z0 := Tryz.sizeOf0
 v0 := Tryz.zeroValue0
 t3 := Tryz.underlying3
 a3 := Tryz.isAgg3
 z3 := Tryz.sizeOf3
 v3 := Tryz.zeroValue3
 t4 := Tryz.underlying4
 a4 := Tryz.isAgg4
 z4 := Tryz.sizeOf4
 v4 := Tryz.zeroValue4
 t5 := Tryz.underlying5
 a5 := Tryz.isAgg5
 z5 := Tryz.sizeOf5
 v5 := Tryz.zeroValue5
 t9 := Tryz.underlying9
 a9 := Tryz.isAgg9
 z9 := Tryz.sizeOf9
 v9 := Tryz.zeroValue9
 t21 := Tryz.underlying21
 a21 := Tryz.isAgg21
 z21 := Tryz.sizeOf21
 v21 := Tryz.zeroValue21
 t46 := Tryz.underlying119
 a46 := Tryz.isAgg119
 z46 := Tryz.sizeOf119
 v46 := Tryz.zeroValue119
 t116 := Tryz.underlying158
 a116 := Tryz.isAgg158
 z116 := Tryz.sizeOf158
 t117 := Tryz.underlying159
 a117 := Tryz.isAgg159
 z117 := Tryz.sizeOf159
 v117 := Tryz.zeroValue159
 t124 := Tryz.underlying165
 a124 := Tryz.isAgg165
 z124 := Tryz.sizeOf165
 v124 := Tryz.zeroValue165 }
def Tryz.lays144_ren : Go.Shelf.Ren := ⟨fun | 144 => 113 | 143 => 128 | 219 => 138 | 217 => 114 | 225 => 141 | 224 => 140 | 267 => 145 | 266 => 129 | 314 => 149 | n => n, fun | 9 => 9 | 4 => 4 | 3 => 3 | 5 => 5 | 46 => 119 | 146 => 173 | 51 => 172 | n => n, fun | 1 => 0 | n => n⟩
theorem Tryz.lays144 : Go.Proofs.Lays.n144 Tryz.prog Tryz.lays144_ren := {
 mixed := by kernel_rfl
 f143 := Tryz.func128.trans (congrArg some (by kernel_rfl))
 f144 := Tryz.func113.trans (congrArg some (by kernel_rfl))
 f217 := Tryz.func114.trans (congrArg some (by kernel_rfl))
 f219 := Tryz.func138.trans (congrArg some (by kernel_rfl))
 f224 := Tryz.func140.trans (congrArg some (by kernel_rfl))
 f225 := Tryz.func141.trans (congrArg some (by kernel_rfl))
 f266 := Tryz.func129.trans (congrArg some (by kernel_rfl))
 f267 := Tryz.func145.trans (congrArg some (by kernel_rfl))
 f314 := Tryz.func149.trans (congrArg some (by kernel_rfl))
 t3 := Tryz.underlying3
 a3 := Tryz.isAgg3
 z3 := Tryz.sizeOf3
 v3 := Tryz.zeroValue3
 t4 := Tryz.underlying4
 a4 := Tryz.isAgg4
 z4 := Tryz.sizeOf4
 v4 := Tryz.zeroValue4
 t5 := Tryz.underlying5
 a5 := Tryz.isAgg5
 z5 := Tryz.sizeOf5
 v5 := Tryz.zeroValue5
 t9 := Tryz.underlying9
 a9 := Tryz.isAgg9
 z9 := Tryz.sizeOf9
 v9 := Tryz.zeroValue9
 t46 := Tryz.underlying119
 a46 := Tryz.isAgg119
 z46 := Tryz.sizeOf119
 v46 := Tryz.zeroValue119
 t51 := Tryz.underlying172
 a51 := Tryz.isAgg172
 z51 := Tryz.sizeOf172
 v51 := Tryz.zeroValue172
 t146 := Tryz.underlying173
 a146 := Tryz.isAgg173
 z146 := Tryz.sizeOf173
 v146 := Tryz.zeroValue173
 g1 := by kernel_rfl }
end Go.Proofs
namespace Go.AM.Seat
open Go Go.AM Go.Proofs
set_option maxRecDepth 100000
theorem progOK : ProgOK P where
 func f fn h := by
  have hall : (P.funcs.toList.all funcOK) = true := by kernel_rfl
  exact List.all_eq_true.1 hall fn (by rw [← Array.getElem?_toList] at h; exact List.mem_of_getElem? h)
 mixed := Tryz.lays156.mixed
theorem callee_join : Callee P 36 := ⟨_, Tryz.func36, by kernel_rfl⟩
theorem callee_index : Callee P 83 := ⟨_, Tryz.func83, by kernel_rfl⟩
theorem callee_any : Callee P 89 := ⟨_, Tryz.func89, by kernel_rfl⟩
theorem callee_fixed : Callee P 79 := ⟨_, Tryz.func79, by kernel_rfl⟩
theorem callee_contains : Callee P 113 := ⟨_, Tryz.func113, by kernel_rfl⟩
section
variable [Globs] {m : Int} (hm : (Tryz.lays144_ren.g 1, [Value.int .i64 m]) ∈ Globs.tab)
include hm
theorem externX_ok : ∀ f g, SeatX.E f = some g → ∀ args lh r, g f args lh = some r → Callee P f ∧ CallOK P f args lh r := by
 intro f g hf args lh r h
 unfold SeatX.E at hf
 split at hf
 ·rename_i e
  subst e
  simp only [Option.some.injEq] at hf
  subst hf
  exact ⟨callee_contains, contains_ok (ρ := Tryz.lays144_ren) Tryz.lays144 hm h⟩
 ·cases hf
theorem extern0_ok : ∀ f g, E0 f = some g → ∀ args lh r, g f args lh = some r → Callee P f ∧ CallOK P f args lh r := by
 intro f g hf args lh r h
 unfold E0 at hf
 split at hf
 ·rename_i e
  subst e
  simp only [Option.some.injEq] at hf
  subst hf
  exact ⟨callee_join, join_ok (ρ := Tryz.lays156_ren) Tryz.lays156 Tryz.Builder_Extra_156 h⟩
 ·split at hf
  ·rename_i e
   subst e
   simp only [Option.some.injEq] at hf
   subst hf
   exact ⟨callee_index, indexByte_ok (ρ := Tryz.lays137_ren) Tryz.lays137 h⟩
  ·split at hf
   ·rename_i e
    subst e
    simp only [Option.some.injEq] at hf
    subst hf
    exact ⟨callee_any, containsAny_ok (ρ := Tryz.lays150_ren) Tryz.lays150 (by kernel_rfl) h⟩
   ·split at hf
    ·rename_i e
     subst e
     simp only [Option.some.injEq] at hf
     subst hf
     exact ⟨callee_fixed, SeatX.fixed_call (fun k => acall_sound progOK (externX_ok hm) SeatX.H k) progOK h⟩
    ·cases hf
omit hm in
theorem works_run : acall P E0 H0 200 13 [] [] = some (.ret (.d (.bool true)) []) := by kernel_rfl
theorem extern_ok : ∀ f g, E f = some g → ∀ args lh r, g f args lh = some r → Callee P f ∧ CallOK P f args lh r := by
 intro f g hf args lh r h
 unfold E at hf
 split at hf
 ·rename_i e
  subst e
  simp only [Option.some.injEq] at hf
  subst hf
  unfold worksCall at h
  split at h
  ·simp only [Option.some.injEq] at h
   subst h
   exact acall_sound progOK (extern0_ok hm) H0 200 13 [] [] _ works_run
  ·cases h
 ·exact extern0_ok hm f g hf args lh r h
theorem call_ok {f : Nat} {args : List C} {lh : List (List C)} {r : CRes} (h : aval X f args lh r) : CallOK P f args lh r := by
 obtain ⟨k, hk⟩ := h
 exact (acall_sound progOK (extern_ok hm) H k f args lh r (hk k (Nat.le_refl k))).2
end
end Go.AM.Seat
namespace Go.AM.Seat
open Go Go.AM Go.Proofs
set_option maxRecDepth 100000
set_option maxHeartbeats 4000000
set_option linter.unusedVariables false
theorem p_alex_letter_ok {c : Int} {r : Bool} (h : p_alex_letter c = some r) : aval X 77 [.d (.int .u8 c)] [] (CRes.ret (.d (.bool r)) []) := by
 unfold p_alex_letter at h
 refine aval_start (tm := [(0, .d (.int .u8 c))]) (hp := []) (n := 0) I Tryz.func77 I I I I I I (ra I (S_ (rn 3 I ?_)))
 rcases E_ h with ⟨hc, h⟩ | ⟨hc, h⟩
 ·refine gt I I I I hc I (on 4 I (rz (R_ ?_)))
  cases h
  exact .ret I I
 refine gf I I I I hc I (on 4 I (rz (R_ ?_)))
 cases h
 exact .ret I I
theorem p_alex_lexer_byte_ok {k : Int} {b : Str} {at_ : Int} {err : Int} {at_1 : Int} {why : Int} {r : Int} (h : p_alex_lexer_byte k b at_ err at_1 why = some r) : aval X 73 [.ptr 0 0, .d (iZ k)] [[.d (.str b), .d (iZ at_), .hid, .d (iZ err), .d (iZ at_1), .d (iZ why)]] (CRes.ret (.d (.int .u8 r)) [[.d (.str b), .d (iZ at_), .hid, .d (iZ err), .d (iZ at_1), .d (iZ why)]]) := by
 unfold p_alex_lexer_byte at h
 refine aval_start (tm := [(0, .c (.ptr 0 0)), (1, .d (iZ k))]) (hp := [(0, [.d (.str b), .d (iZ at_), .hid, .d (iZ err), .d (iZ at_1), .d (iZ why)])]) (n := 1) I Tryz.func73 I I I I I I (ra I (S_ (S_ (drn (m := 13) 12 I I (dz (by kernel_rfl) ?_)))))
 rcases E_ h with ⟨hc, h⟩ | ⟨hc, h⟩
 ·refine ct I hc (S_ (drn (m := 25) 10 I I ?_))
  obtain ⟨c, hk, h⟩ := B h
  refine pd (esget hk I I I I) I I I I I (don 1 I (dz (by kernel_rfl) (R_ (C_ (Q_ ?_)))))
  cases h
  exact .ret I I
 refine cf I hc (K_ (cn I (N_ (ra I (R_ ?_)))))
 cases h
 exact .ret I I
theorem p_alex_lexer_fail_ok {e : Int} {at_ : Int} {b : Str} {at_1 : Int} {err : Int} {at_2 : Int} {why : Int} {r : Int × Int × Int} (h : p_alex_lexer_fail e at_ b at_1 err at_2 why = some r) : aval X 72 [.ptr 0 0, .d (iZ e), .d (iZ at_)] [[.d (.str b), .d (iZ at_1), .hid, .d (iZ err), .d (iZ at_2), .d (iZ why)]] (CRes.ret (.tuple []) [[.d (.str b), .d (iZ at_1), .hid, .d (iZ r.1), .d (iZ r.2.1), .d (iZ r.2.2)]]) := by
 unfold p_alex_lexer_fail at h
 refine aval_start (tm := [(0, .c (.ptr 0 0)), (1, .d (iZ e)), (2, .d (iZ at_))]) (hp := [(0, [.d (.str b), .d (iZ at_1), .hid, .d (iZ err), .d (iZ at_2), .d (iZ why)])]) (n := 1) I Tryz.func72 I I I I I I (ra I ?_)
 rcases E_ h with ⟨hc, h⟩ | ⟨hc, h⟩
 ·refine ct I hc (rn 7 I (O_ (cn I ?_)))
  cases h
  exact .normal I I
 refine cf I hc (K_ (cn I ?_))
 cases h
 exact .normal I I
theorem p_alex_digit_ok {c : Int} {r : Bool} (h : p_alex_digit c = some r) : aval X 111 [.d (.int .u8 c)] [] (CRes.ret (.d (.bool r)) []) := by
 unfold p_alex_digit at h
 refine aval_start (tm := [(0, .d (.int .u8 c))]) (hp := []) (n := 0) I Tryz.func111 I I I I I I (ra I (S_ (rn 3 I ?_)))
 rcases E_ h with ⟨hc, h⟩ | ⟨hc, h⟩
 ·refine gt I I I I hc I (on 4 I (rz (R_ ?_)))
  cases h
  exact .ret I I
 refine gf I I I I hc I (on 4 I (rz (R_ ?_)))
 cases h
 exact .ret I I
theorem p_alex_lexer_name_l0_ok : ∀ (a : Str × Int × Int × Int × Int × Int) (res : Int), p_alex_lexer_name_l0 a = some res → (match a with | (b, at_, err, at_1, why, k) => awpL X 78 (codeAt [1, 1, 0, 0, 0] (bodyOf Tryz.f78)) (cleanAt (X.H 78 2) 2) (exitQ 0 (X.H 78 1000000) 2 (NrmQ (fun (k1 : Int) => (⟨[(0, .c (.ptr 0 0)), (2, .c (.ptr 1 0)), (3, .d (iZ k1))], [(1, [.d (iZ 0), .d (.str []), oI [], oC [], .d (iZ 0)]), (0, [.d (.str b), .d (iZ at_), .hid, .d (iZ err), .d (iZ at_1), .d (iZ why)])], 2, [], none⟩ : St)) res)) ⟨[(0, .c (.ptr 0 0)), (2, .c (.ptr 1 0)), (3, .d (iZ k))], [(1, [.d (iZ 0), .d (.str []), oI [], oC [], .d (iZ 0)]), (0, [.d (.str b), .d (iZ at_), .hid, .d (iZ err), .d (iZ at_1), .d (iZ why)])], 2, [], none⟩) := by
 refine p_alex_lexer_name_l0.partial_correctness _ ?_
 rintro p_alex_lexer_name_l0' ih ⟨b, at_, err, at_1, why, k⟩ res h
 refine lg I (S_ (S_ (rn 2 I ?_)))
 obtain ⟨x, hk, h⟩ := B h
 refine po (ecallb (nid' := 2) (p_alex_lexer_byte_ok hk) I I I I I I I I I I I I) I I ?_
 obtain ⟨x1, hk, h⟩ := B h
 refine po (ecall (p_alex_letter_ok hk) I I I I I I I I I) I I (on 1 I ?_)
 rcases E_ h with ⟨hc, h⟩ | ⟨hc, h⟩
 ·refine gt I I I I hc I (on 5 I (rz (ct I I (K_ (cn I (N_ (W_ (rn 3 I (O_ (en I (loopQ.normal ?_)))))))))))
  exact awpL_at I I (ih _ _ h)
 refine gf I I I I hc I (on 2 I ?_)
 obtain ⟨x2, hk, h⟩ := B h
 refine po (ecallb (nid' := 2) (p_alex_lexer_byte_ok hk) I I I I I I I I I I I I) I I ?_
 obtain ⟨x3, hk, h⟩ := B h
 refine po (ecall (p_alex_digit_ok hk) I I I I I I I I I) I I (on 1 I (rz ?_))
 rcases E_ h with ⟨hc, h⟩ | ⟨hc, h⟩
 ·refine ct I hc (K_ (cn I (N_ (W_ (rn 3 I (O_ (en I (loopQ.normal ?_))))))))
  exact awpL_at I I (ih _ _ h)
 refine cf I hc (X_ (condQ.exit (seqQ.exit (loopQ.exit (eh I ?_)))))
 cases h
 exact .ok I
theorem p_alex_lexer_name_ok {b : Str} {at_ : Int} {err : Int} {at_1 : Int} {why : Int} {r : Token × Int × Int × Int × Int} (h : p_alex_lexer_name b at_ err at_1 why = some r) : aval X 78 [.ptr 0 0] [[.d (.str b), .d (iZ at_), .hid, .d (iZ err), .d (iZ at_1), .d (iZ why)]] (CRes.ret (.d (encToken r.1)) [[.d (.str b), .d (iZ r.2.1), .hid, .d (iZ r.2.2.1), .d (iZ r.2.2.2.1), .d (iZ r.2.2.2.2)]]) := by
 unfold p_alex_lexer_name at h
 refine aval_start (tm := [(0, .c (.ptr 0 0))]) (hp := [(0, [.d (.str b), .d (iZ at_), .hid, .d (iZ err), .d (iZ at_1), .d (iZ why)])]) (n := 1) I Tryz.func78 I I I I I I (ra (nid' := 2) I (ra I (S_ ?_)))
 obtain ⟨k1, hs, h⟩ := B h
 refine awp_nrm (fun (k1 : Int) => (⟨[(0, .c (.ptr 0 0)), (2, .c (.ptr 1 0)), (3, .d (iZ k1))], [(1, [.d (iZ 0), .d (.str []), oI [], oC [], .d (iZ 0)]), (0, [.d (.str b), .d (iZ at_), .hid, .d (iZ err), .d (iZ at_1), .d (iZ why)])], 2, [], none⟩ : St)) (y := k1) ?_ ?_
 ·replace h := hs
  refine W_ (awp_loop ?_)
  exact awpL_at I I (p_alex_lexer_name_l0_ok _ _ h)
 refine N_ (S_ (drn (m := 24) 14 I I ?_))
 obtain ⟨s, hk, h⟩ := B h
 refine pd (esmid hk I I I I I) I I I I I (don 7 I (dz (by kernel_rfl) (S_ (ra I ?_))))
 obtain ⟨⟨x31, x4, x5⟩, hs, h⟩ := B h
 refine awp_nrm (fun ((x31, x4, x5) : Int × Int × Int) => (⟨[(0, .c (.ptr 0 0)), (2, .c (.ptr 1 0)), (3, .d (iZ k1)), (4, .c (.ptr 22 0))], [(22, [.d (iZ 3), .d (.str s), oI [], oC [], .d (iZ at_)]), (1, [.d (iZ 0), .d (.str []), oI [], oC [], .d (iZ 0)]), (0, [.d (.str b), .d (iZ at_), .hid, .d (iZ x31), .d (iZ x4), .d (iZ x5)])], 24, [], none⟩ : St)) (y := (x31, x4, x5)) ?_ ?_
 ·replace h := hs
  rcases E_ h with ⟨hc, h⟩ | ⟨hc, h⟩
  ·refine ct I hc (rn 5 I ?_)
   obtain ⟨⟨err1, at_2, why1⟩, hk, h⟩ := B h
   refine po (ecallb (nid' := 24) (p_alex_lexer_fail_ok hk) I I I I I I I I I I I I) I I (O_ (cn I ?_))
   cases h
   exact .ok I
  refine cf I hc (K_ (cn I ?_))
  cases h
  exact .ok I
 refine N_ (ra I (ra I (R_ ?_)))
 cases h
 exact .ret I I
theorem p_stringslite_HasPrefix_ok {s : Str} {prefix_ : Str} {r : Bool} (h : p_stringslite_HasPrefix s prefix_ = some r) : aval X 71 [.d (.str s), .d (.str prefix_)] [] (CRes.ret (.d (.bool r)) []) := by
 unfold p_stringslite_HasPrefix at h
 refine aval_start (tm := [(0, .d (.str s)), (1, .d (.str prefix_))]) (hp := []) (n := 0) I Tryz.func71 I I I I I I (ra I (S_ (rn 6 I ?_)))
 rcases E_ h with ⟨hc, h⟩ | ⟨hc, h⟩
 ·refine gt I I I I hc I (on 3 I ?_)
  obtain ⟨s1, hk, h⟩ := B h
  refine po (esto hk I I I I) I I (on 4 I (rz (R_ ?_)))
  cases h
  exact .ret I I
 refine gf I I I I hc I (on 8 I (rz (R_ ?_)))
 cases h
 exact .ret I I
theorem p_stringslite_CutPrefix_ok {s : Str} {prefix_ : Str} {r : Str × Bool} (h : p_stringslite_CutPrefix s prefix_ = some r) : aval X 127 [.d (.str s), .d (.str prefix_)] [] (CRes.ret (.tuple [.d (.str r.1), .d (.bool r.2)]) []) := by
 unfold p_stringslite_CutPrefix at h
 refine aval_start (tm := [(0, .d (.str s)), (1, .d (.str prefix_))]) (hp := []) (n := 0) I Tryz.func127 I I I I I I (ra I (S_ (S_ (rn 2 I ?_))))
 obtain ⟨x, hk, h⟩ := B h
 refine po (ecall (p_stringslite_HasPrefix_ok hk) I I I I I I I I I) I I (on 1 I (rz ?_))
 rcases E_ h with ⟨hc, h⟩ | ⟨hc, h⟩
 ·refine ct I hc (ra I (R_ (C_ (Q_ ?_))))
  cases h
  exact .ret I I
 refine cf I hc (K_ (cn I (N_ (S_ (rn 3 I ?_)))))
 obtain ⟨after, hk, h⟩ := B h
 refine po (esfrom hk I I I I) I I (on 2 I (rz (R_ ?_)))
 cases h
 exact .ret I I
theorem p_strings_CutPrefix_ok {s : Str} {prefix_ : Str} {r : Str × Bool} (h : p_strings_CutPrefix s prefix_ = some r) : aval X 110 [.d (.str s), .d (.str prefix_)] [] (CRes.ret (.tuple [.d (.str r.1), .d (.bool r.2)]) []) := by
 unfold p_strings_CutPrefix at h
 refine aval_start (tm := [(0, .d (.str s)), (1, .d (.str prefix_))]) (hp := []) (n := 0) I Tryz.func110 I I I I I I (ra I (S_ (rn 2 I ?_)))
 obtain ⟨⟨after, found⟩, hk, h⟩ := B h
 refine po (ecall (p_stringslite_CutPrefix_ok hk) I I I I I I I I I) I I (on 4 I (rz (R_ ?_)))
 cases h
 exact .ret I I
theorem p_alex_lexer_number_ok {b : Str} {at_ : Int} {err : Int} {at_1 : Int} {why : Int} {r : Bool} (h : p_alex_lexer_number b at_ err at_1 why = some r) : aval X 74 [.ptr 0 0] [[.d (.str b), .d (iZ at_), .hid, .d (iZ err), .d (iZ at_1), .d (iZ why)]] (CRes.ret (.d (.bool r)) [[.d (.str b), .d (iZ at_), .hid, .d (iZ err), .d (iZ at_1), .d (iZ why)]]) := by
 unfold p_alex_lexer_number at h
 refine aval_start (tm := [(0, .c (.ptr 0 0))]) (hp := [(0, [.d (.str b), .d (iZ at_), .hid, .d (iZ err), .d (iZ at_1), .d (iZ why)])]) (n := 1) I Tryz.func74 I I I I I I (ra I (S_ (drn (m := 16) 8 I I ?_)))
 obtain ⟨s, hk, h⟩ := B h
 refine pd (esfrom hk I I I I) I I I I I ?_
 obtain ⟨⟨rest, below⟩, hk, h⟩ := B h
 refine pd (ecall (p_strings_CutPrefix_ok hk) I I I I I I I I I) I I I I I (don 5 I (dz (by kernel_rfl) (S_ (drn (m := 40) 4 I I ?_))))
 rcases E_ h with ⟨hc, h⟩ | ⟨hc, h⟩
 ·refine dgt I I I I hc I (don 1 I ?_)
  obtain ⟨c, hk, h⟩ := B h
  refine pd (esget hk I I I I) I I I I I ?_
  obtain ⟨x, hk, h⟩ := B h
  refine pd (ecall (p_alex_digit_ok hk) I I I I I I I I I) I I I I I (don 2 I ?_)
  rcases E_ h with ⟨hc, h⟩ | ⟨hc, h⟩
  ·refine dgt I I I I hc I (don 2 I ?_)
   rcases E_ h with ⟨hc, h⟩ | ⟨hc, h⟩
   ·refine dgt I I I I hc I (don 13 I (dz (by kernel_rfl) (R_ ?_)))
    cases h
    exact .ret I I
   refine dgf I I I I hc I (don 8 I ?_)
   obtain ⟨c1, hk, h⟩ := B h
   refine pd (esget hk I I I I) I I I I I ?_
   obtain ⟨x1, hk, h⟩ := B h
   refine pd (ecall (p_alex_digit_ok hk) I I I I I I I I I) I I I I I (don 3 I (dz (by kernel_rfl) (R_ ?_)))
   cases h
   exact .ret I I
  refine dgf I I I I hc I (don 15 I (dz (by kernel_rfl) (R_ ?_)))
  cases h
  exact .ret I I
 refine dgf I I I I hc I (don 20 I (dz (by kernel_rfl) (R_ ?_)))
 cases h
 exact .ret I I
theorem p_alex_lexer_one_l0_ok (b : Str) (at_ : Int) (err : Int) (at_1 : Int) (why : Int) (below : Bool) (x1 : Int) : ∀ (a : Str × Int × Bool × Int) (res : Int × Bool × Int), p_alex_lexer_one_l0 a = some res → (match a with | (rest, n, over, k) => awpL X 112 (codeAt [1, 1, 1, 1, 1, 1, 0, 0, 0] (bodyOf Tryz.f112)) (cleanAt (X.H 112 7) 16) (exitQ 0 (X.H 112 1000000) 16 (NrmQ (fun ((n1, over1, k1) : Int × Bool × Int) => (⟨[(0, .c (.ptr 0 0)), (3, .d (iZ at_)), (5, .d (.bool below)), (6, .d (.int .u64 n1)), (7, .d (.bool over1)), (8, .d (iZ k1))], [(0, [.d (.str b), .d (iZ x1), .hid, .d (iZ err), .d (iZ at_1), .d (iZ why)])], 16, [], none⟩ : St)) res)) ⟨[(0, .c (.ptr 0 0)), (3, .d (iZ at_)), (4, .d (.str rest)), (5, .d (.bool below)), (6, .d (.int .u64 n)), (7, .d (.bool over)), (8, .d (iZ k))], [(0, [.d (.str b), .d (iZ x1), .hid, .d (iZ err), .d (iZ at_1), .d (iZ why)])], 16, [], none⟩) := by
 refine p_alex_lexer_one_l0.partial_correctness _ ?_
 rintro p_alex_lexer_one_l0' ih ⟨rest, n, over, k⟩ res h
 refine lg I (S_ (S_ (rn 5 I ?_)))
 rcases E_ h with ⟨hc, h⟩ | ⟨hc, h⟩
 ·refine gt I I I I hc I (on 2 I ?_)
  obtain ⟨c, hk, h⟩ := B h
  refine po (esget hk I I I I) I I ?_
  obtain ⟨x, hk, h⟩ := B h
  refine po (ecall (p_alex_digit_ok hk) I I I I I I I I I) I I (on 1 I (rz ?_))
  rcases E_ h with ⟨hc, h⟩ | ⟨hc, h⟩
  ·refine ct I hc (K_ (cn I (N_ (W_ (S_ (rn 2 I ?_))))))
   obtain ⟨c1, hk, h⟩ := B h
   refine po (esget hk I I I I) I I (on 3 I (rz (S_ (rn 2 I ?_))))
   rcases E_ h with ⟨hc, h⟩ | ⟨hc, h⟩
   ·refine gt I I I I hc I (on 7 I (rz (rn 8 I (O_ (en I (loopQ.normal ?_))))))
    exact awpL_at I I (ih _ _ h)
   refine gf I I I I hc I (on 7 I (rz (rn 8 I (O_ (en I (loopQ.normal ?_))))))
   exact awpL_at I I (ih _ _ h)
  refine cf I hc (X_ (condQ.exit (seqQ.exit (loopQ.exit (eh I ?_)))))
  cases h
  exact .ok I
 refine gf I I I I hc I (on 5 I (rz (cf I I (X_ (condQ.exit (seqQ.exit (loopQ.exit (eh I ?_))))))))
 cases h
 exact .ok I
theorem p_alex_lexer_one_ok {b : Str} {at_ : Int} {err : Int} {at_1 : Int} {why : Int} {r : Int × Int × Int × Int × Int} (h : p_alex_lexer_one b at_ err at_1 why = some r) : aval X 112 [.ptr 0 0] [[.d (.str b), .d (iZ at_), .hid, .d (iZ err), .d (iZ at_1), .d (iZ why)]] (CRes.ret (.d (iZ r.1)) [[.d (.str b), .d (iZ r.2.1), .hid, .d (iZ r.2.2.1), .d (iZ r.2.2.2.1), .d (iZ r.2.2.2.2)]]) := by
 unfold p_alex_lexer_one at h
 refine aval_start (tm := [(0, .c (.ptr 0 0))]) (hp := [(0, [.d (.str b), .d (iZ at_), .hid, .d (iZ err), .d (iZ at_1), .d (iZ why)])]) (n := 1) I Tryz.func112 I I I I I I (ra I (ra I (S_ (drn (m := 16) 8 I I ?_))))
 obtain ⟨s, hk, h⟩ := B h
 refine pd (esfrom hk I I I I) I I I I I ?_
 obtain ⟨⟨rest, below⟩, hk, h⟩ := B h
 refine pd (ecall (p_strings_CutPrefix_ok hk) I I I I I I I I I) I I I I I (don 5 I (dz (by kernel_rfl) (S_ (ra I ?_))))
 obtain ⟨x1, hs, h⟩ := B h
 refine awp_nrm (fun (x1 : Int) => (⟨[(0, .c (.ptr 0 0)), (3, .d (iZ at_)), (4, .d (.str rest)), (5, .d (.bool below))], [(0, [.d (.str b), .d (iZ x1), .hid, .d (iZ err), .d (iZ at_1), .d (iZ why)])], 16, [], none⟩ : St)) (y := x1) ?_ ?_
 ·replace h := hs
  rcases E_ h with ⟨hc, h⟩ | ⟨hc, h⟩
  ·refine ct I hc (rn 8 I (O_ (cn I ?_)))
   cases h
   exact .ok I
  refine cf I hc (K_ (cn I ?_))
  cases h
  exact .ok I
 refine N_ (ra I (ra I (S_ ?_)))
 obtain ⟨⟨n1, over1, k1⟩, hs, h⟩ := B h
 refine awp_nrm (fun ((n1, over1, k1) : Int × Bool × Int) => (⟨[(0, .c (.ptr 0 0)), (3, .d (iZ at_)), (5, .d (.bool below)), (6, .d (.int .u64 n1)), (7, .d (.bool over1)), (8, .d (iZ k1))], [(0, [.d (.str b), .d (iZ x1), .hid, .d (iZ err), .d (iZ at_1), .d (iZ why)])], 16, [], none⟩ : St)) (y := (n1, over1, k1)) ?_ ?_
 ·replace h := hs
  refine W_ (awp_loop ?_)
  exact awpL_at I I (p_alex_lexer_one_l0_ok b at_ err at_1 why below x1 _ _ h)
 refine N_ (ra I (S_ ?_))
 obtain ⟨res, hs, h⟩ := B h
 refine awp_sub Tryz.f112 1 (fun (r : Int × Int × Int × Int × Int) => (CRes.ret (.d (iZ r.1)) [[.d (.str b), .d (iZ r.2.1), .hid, .d (iZ r.2.2.1), .d (iZ r.2.2.2.1), .d (iZ r.2.2.2.2)]])) (fun (_ : Unit) => (⟨[(6, .d (.int .u64 n1))], [(0, [.d (.str b), .d (iZ (w64 (x1 + k1))), .hid, .d (iZ err), .d (iZ at_1), .d (iZ why)])], 16, [], none⟩ : St)) (res := res) ?_ (fun y hy => ?_) (fun r x s' hr hx he => ?_)
 ·replace h := hs
  refine W_ (S_ (rn 2 I ?_))
  rcases E_ h with ⟨hc, h⟩ | ⟨hc, h⟩
  ·refine gt I I I I hc I (on 8 I (rz (ct I I (S_ (rn 2 I ?_)))))
   obtain ⟨⟨err1, at_2, why1⟩, hk, h⟩ := B h
   refine po (ecallb (nid' := 16) (p_alex_lexer_fail_ok hk) I I I I I I I I I I I I) I I (rz (ra I (R_ (C_ (exitQ.ret ?_)))))
   cases h
   exact .err I (.ret I I)
  refine gf I I I I hc I (on 3 I ?_)
  rcases E_ h with ⟨hc, h⟩ | ⟨hc, h⟩
  ·refine gt I I I I hc I (on 5 I (rz ?_))
   rcases E_ h with ⟨hc, h⟩ | ⟨hc, h⟩
   ·refine ct I hc (S_ (rn 2 I ?_))
    obtain ⟨⟨err2, at_3, why2⟩, hk, h⟩ := B h
    refine po (ecallb (nid' := 16) (p_alex_lexer_fail_ok hk) I I I I I I I I I I I I) I I (rz (ra I (R_ (C_ (exitQ.ret ?_)))))
    cases h
    exact .err I (.ret I I)
   refine cf I hc (ra I ?_)
   rcases E_ h with ⟨hc, h⟩ | ⟨hc, h⟩
   ·refine ct I hc (ra I (R_ (C_ (C_ (exitQ.ret ?_)))))
    cases h
    exact .err I (.ret I I)
   refine cf I hc (K_ (cn I (cn I (en I ?_))))
   cases h
   exact .ok I
  refine gf I I I I hc I (on 5 I (rz (cf I I (ra I ?_))))
  rcases E_ h with ⟨hc, h⟩ | ⟨hc, h⟩
  ·refine ct I hc (ra I (R_ (C_ (C_ (exitQ.ret ?_)))))
   cases h
   exact .err I (.ret I I)
  refine cf I hc (K_ (cn I (cn I (en I ?_))))
  cases h
  exact .ok I
 ·subst hy
  refine N_ (ra I (R_ ?_))
  cases h
  exact .ret I I
 subst hr
 refine seqQ.out hx ?_
 cases h
 exact he
theorem p_arr_Atom_ok {n : Int} {r : Arr} (h : p_arr_Atom n = some r) : aval X 86 [.d (iZ n)] [] (CRes.ret (.d (encArr r)) []) := by
 unfold p_arr_Atom at h
 refine aval_start (tm := [(0, .d (iZ n))]) (hp := []) (n := 0) I Tryz.func86 I I I I I I (ra (nid' := 1) I (ra I (R_ ?_)))
 cases h
 exact .ret I I
theorem p_arr_Nums_l0_ok : ∀ (a : ((List Int)) × Int × (List Cell)) (res : (List Cell)), p_arr_Nums_l0 a = some res → (match a with | (l, x, a1) => awpL X 87 (codeAt [1, 1, 0, 1, 0, 0] (bodyOf Tryz.f87)) (cleanAt (X.H 87 3) 2) (exitQ 0 (X.H 87 1000000) 2 (NrmQ (fun (a11 : (List Cell)) => (⟨[(2, .c (.ptr 0 0)), (3, .c (.ptr 1 0))], [(1, [.d (lI [(List.length l : Int)]), oC a11]), (0, [oI [], oC []])], 2, [], none⟩ : St)) res)) ⟨[(2, .c (.ptr 0 0)), (3, .c (.ptr 1 0)), (10, .d (lI l)), (11, .d (iZ (List.length l : Int))), (12, .d (iZ x))], [(1, [.d (lI [(List.length l : Int)]), oC a1]), (0, [oI [], oC []])], 2, [], none⟩) := by
 refine p_arr_Nums_l0.partial_correctness _ ?_
 rintro p_arr_Nums_l0' ih ⟨l, x, a1⟩ res h
 refine lg I (ra I (S_ ?_))
 rcases E_ h with ⟨hc, h⟩ | ⟨hc, h⟩
 ·refine ct I hc (K_ (cn I (N_ (S_ (W_ (S_ (rn 0 I ?_)))))))
  obtain ⟨n, hk, h⟩ := B h
  refine po (elget (D.int .i64) (fun _ => I) hk I I I I I) I I (on 2 I (rz (rn 5 I ?_)))
  obtain ⟨l1, hk, h⟩ := B h
  refine po (eappc hk I I I I I I I I I I I I I I ) I I (on 2 I (O_ (en I (N_ (rn 2 I (O_ (loopQ.normal ?_)))))))
  exact awpL_at I I (ih _ _ h)
 refine cf I hc (X_ (condQ.exit (seqQ.exit (loopQ.exit (eh I ?_)))))
 cases h
 exact .ok I
theorem p_arr_Nums_ok {l : (List Int)} {r : Arr} (h : p_arr_Nums l = some r) : aval X 87 [.d (lI l)] [] (CRes.ret (.d (encArr r)) []) := by
 unfold p_arr_Nums at h
 refine aval_start (tm := [(0, .d (lI l))]) (hp := []) (n := 0) I Tryz.func87 I I I I I I (ra (nid' := 1) I (S_ (rn 1 I (po (ellen I I I I I I I) I I (on (nid' := 2) 4 I (rz (S_ (S_ (rn 1 I (po (ellen I I I I I I I) I I (on 1 I (rz ?_))))))))))))
 obtain ⟨a11, hs, h⟩ := B h
 refine awp_nrm (fun (a11 : (List Cell)) => (⟨[(2, .c (.ptr 0 0)), (3, .c (.ptr 1 0))], [(1, [.d (lI [(List.length l : Int)]), oC a11]), (0, [oI [], oC []])], 2, [], none⟩ : St)) (y := a11) ?_ ?_
 ·replace h := hs
  refine W_ (awp_loop ?_)
  exact awpL_at I I (p_arr_Nums_l0_ok _ _ h)
 refine N_ (ra I (R_ ?_))
 cases h
 exact .ret I I
theorem p_alex_lexer_numbers_l1_ok (at_ : Int) (l : List Int) (x1 : Int) : ∀ (a : Str × Int × Int × Int × Int) (res : Int), p_alex_lexer_numbers_l1 a = some res → (match a with | (b, x3, x4, x5, x11) => awpL X 75 (codeAt [1, 1, 1, 0, 0, 0, 1, 0, 1, 0, 0, 0] (bodyOf Tryz.f75)) (cleanAt (X.H 75 5) 3) (exitQ 2 (X.H 75 1000002) 3 (NrmQ (fun (x12 : Int) => (⟨[(0, .c (.ptr 0 0)), (2, .c (.ptr 1 0)), (3, .c (.ptr 2 0)), (4, .c (.own 1 (List.map (D.int .i64) l))), (5, .d (iZ x1))], [(2, [.d (iZ 1), .d (.str []), oI [], oC [], .d (iZ at_)]), (1, [.d (iZ 0), .d (.str []), oI [], oC [], .d (iZ 0)]), (0, [.d (.str b), .d (iZ x12), .hid, .d (iZ x3), .d (iZ x4), .d (iZ x5)])], 3, [], none⟩ : St)) res)) ⟨[(0, .c (.ptr 0 0)), (2, .c (.ptr 1 0)), (3, .c (.ptr 2 0)), (4, .c (.own 1 (List.map (D.int .i64) l))), (5, .d (iZ x1))], [(2, [.d (iZ 1), .d (.str []), oI [], oC [], .d (iZ at_)]), (1, [.d (iZ 0), .d (.str []), oI [], oC [], .d (iZ 0)]), (0, [.d (.str b), .d (iZ x11), .hid, .d (iZ x3), .d (iZ x4), .d (iZ x5)])], 3, [], none⟩) := by
 refine p_alex_lexer_numbers_l1.partial_correctness _ ?_
 rintro p_alex_lexer_numbers_l1' ih ⟨b, x3, x4, x5, x11⟩ res h
 refine lg I (S_ (S_ (rn 1 I ?_)))
 obtain ⟨x2, hk, h⟩ := B h
 refine po (ecallb (nid' := 3) (p_alex_lexer_byte_ok hk) I I I I I I I I I I I I) I I (on 1 I (rz ?_))
 rcases E_ h with ⟨hc, h⟩ | ⟨hc, h⟩
 ·refine ct I hc (K_ (cn I (N_ (W_ (rn 8 I (O_ (en I (loopQ.normal ?_))))))))
  exact awpL_at I I (ih _ _ h)
 refine cf I hc (X_ (condQ.exit (seqQ.exit (loopQ.exit (eh I ?_)))))
 cases h
 exact .ok I
theorem p_alex_lexer_numbers_l0_ok (at_ : Int) : ∀ (a : Str × (List Int) × Int × Int × Int × Int) (res : (List Int) × Int × Int × Int × Int), p_alex_lexer_numbers_l0 a = some res → (match a with | (b, l, x1, x3, x4, x5) => awpL X 75 (codeAt [1, 1, 1, 0, 0, 0] (bodyOf Tryz.f75)) (cleanAt (X.H 75 3) 3) (exitQ 0 (X.H 75 1000000) 3 (NrmQ (fun ((l2, c1, c3, c4, c5) : (List Int) × Int × Int × Int × Int) => (⟨[(2, .c (.ptr 1 0)), (3, .c (.ptr 2 0)), (4, .c (.own 1 (List.map (D.int .i64) l2)))], [(2, [.d (iZ 1), .d (.str []), oI [], oC [], .d (iZ at_)]), (1, [.d (iZ 0), .d (.str []), oI [], oC [], .d (iZ 0)]), (0, [.d (.str b), .d (iZ c1), .hid, .d (iZ c3), .d (iZ c4), .d (iZ c5)])], 3, [], none⟩ : St)) res)) ⟨[(0, .c (.ptr 0 0)), (2, .c (.ptr 1 0)), (3, .c (.ptr 2 0)), (4, .c (.own 1 (List.map (D.int .i64) l)))], [(2, [.d (iZ 1), .d (.str []), oI [], oC [], .d (iZ at_)]), (1, [.d (iZ 0), .d (.str []), oI [], oC [], .d (iZ 0)]), (0, [.d (.str b), .d (iZ x1), .hid, .d (iZ x3), .d (iZ x4), .d (iZ x5)])], 3, [], none⟩) := by
 refine p_alex_lexer_numbers_l0.partial_correctness _ ?_
 rintro p_alex_lexer_numbers_l0' ih ⟨b, l, x1, x3, x4, x5⟩ res h
 refine lg I (S_ (ra I ?_))
 rcases E_ h with ⟨hc, h⟩ | ⟨hc, h⟩
 ·refine ct I hc (K_ (cn I (N_ (W_ (ra I (S_ ?_))))))
  obtain ⟨x12, hs, h⟩ := B h
  refine awp_nrm (fun (x12 : Int) => (⟨[(0, .c (.ptr 0 0)), (2, .c (.ptr 1 0)), (3, .c (.ptr 2 0)), (4, .c (.own 1 (List.map (D.int .i64) l))), (5, .d (iZ x1))], [(2, [.d (iZ 1), .d (.str []), oI [], oC [], .d (iZ at_)]), (1, [.d (iZ 0), .d (.str []), oI [], oC [], .d (iZ 0)]), (0, [.d (.str b), .d (iZ x12), .hid, .d (iZ x3), .d (iZ x4), .d (iZ x5)])], 3, [], none⟩ : St)) (y := x12) ?_ ?_
  ·replace h := hs
   refine W_ (awp_loop ?_)
   exact awpL_at I I (p_alex_lexer_numbers_l1_ok at_ l x1 _ _ h)
  refine N_ (S_ (S_ (rn 7 I ?_)))
  rcases E_ h with ⟨hc, h⟩ | ⟨hc, h⟩
  ·refine gt I I I I hc I (on 4 I (rz (ct I I (ra I (X_ (condQ.exit (seqQ.exit (exitQ.there I (loopQ.exit (eh I ?_))))))))))
   cases h
   exact .ok I
  refine gf I I I I hc I (on 1 I ?_)
  obtain ⟨x6, hk, h⟩ := B h
  refine po (ecallb (nid' := 3) (p_alex_lexer_number_ok hk) I I I I I I I I I I I I) I I (on 2 I (rz ?_))
  rcases E_ h with ⟨hc, h⟩ | ⟨hc, h⟩
  ·refine ct I hc (ra I (X_ (condQ.exit (seqQ.exit (exitQ.there I (loopQ.exit (eh I ?_)))))))
   cases h
   exact .ok I
  refine cf I hc (K_ (cn I (N_ (rn 2 I ?_))))
  obtain ⟨⟨x7, at_4, err2, at_5, why2⟩, hk, h⟩ := B h
  refine po (ecallb (nid' := 3) (p_alex_lexer_one_ok hk) I I I I I I I I I I I I) I I (on 1 I ?_)
  obtain ⟨l1, hk, h⟩ := B h
  refine po (eappv hk I I I I I I I I I I I I I ) I I (on 1 I (O_ (en I (loopQ.normal ?_))))
  exact awpL_at I I (ih _ _ h)
 refine cf I hc (X_ (condQ.exit (seqQ.exit (loopQ.exit (eh I ?_)))))
 cases h
 exact .ok I
theorem p_alex_lexer_numbers_ok {b : Str} {at_ : Int} {err : Int} {at_1 : Int} {why : Int} {r : Token × Int × Int × Int × Int} (h : p_alex_lexer_numbers b at_ err at_1 why = some r) : aval X 75 [.ptr 0 0] [[.d (.str b), .d (iZ at_), .hid, .d (iZ err), .d (iZ at_1), .d (iZ why)]] (CRes.ret (.d (encToken r.1)) [[.d (.str b), .d (iZ r.2.1), .hid, .d (iZ r.2.2.1), .d (iZ r.2.2.2.1), .d (iZ r.2.2.2.2)]]) := by
 unfold p_alex_lexer_numbers at h
 refine aval_start (tm := [(0, .c (.ptr 0 0))]) (hp := [(0, [.d (.str b), .d (iZ at_), .hid, .d (iZ err), .d (iZ at_1), .d (iZ why)])]) (n := 1) I Tryz.func75 I I I I I I (ra (nid' := 2) I (ra (nid' := 3) I (S_ (rn 1 I ?_))))
 obtain ⟨⟨x, at_2, err1, at_3, why1⟩, hk, h⟩ := B h
 refine po (ecallb (nid' := 3) (p_alex_lexer_one_ok hk) I I I I I I I I I I I I) I I (on 2 I (rz (S_ ?_)))
 obtain ⟨⟨l2, c1, c3, c4, c5⟩, hs, h⟩ := B h
 refine awp_nrm (fun ((l2, c1, c3, c4, c5) : (List Int) × Int × Int × Int × Int) => (⟨[(2, .c (.ptr 1 0)), (3, .c (.ptr 2 0)), (4, .c (.own 1 (List.map (D.int .i64) l2)))], [(2, [.d (iZ 1), .d (.str []), oI [], oC [], .d (iZ at_)]), (1, [.d (iZ 0), .d (.str []), oI [], oC [], .d (iZ 0)]), (0, [.d (.str b), .d (iZ c1), .hid, .d (iZ c3), .d (iZ c4), .d (iZ c5)])], 3, [], none⟩ : St)) (y := (l2, c1, c3, c4, c5)) ?_ ?_
 ·replace h := hs
  refine W_ (awp_loop ?_)
  exact awpL_at I I (p_alex_lexer_numbers_l0_ok at_ _ _ h)
 refine N_ (S_ (rn 1 I ?_))
 obtain ⟨x8, hk, h⟩ := B h
 refine po (ecall (p_arr_Nums_ok hk) I I I I I I I I I) I I (on 2 I (rz (S_ (S_ (rn 1 I (po (ellen I I I I I I I) I I (on 1 I (rz ?_))))))))
 obtain ⟨⟨t2, t3⟩, hs, h⟩ := B h
 refine awp_nrm (fun ((t2, t3) : (List Int) × (List Cell)) => (⟨[(2, .c (.ptr 1 0)), (3, .c (.ptr 2 0))], [(2, [.d (iZ 1), .d (.str []), .d (lI t2), .d (lC t3), .d (iZ at_)]), (1, [.d (iZ 0), .d (.str []), oI [], oC [], .d (iZ 0)]), (0, [.d (.str b), .d (iZ c1), .hid, .d (iZ c3), .d (iZ c4), .d (iZ c5)])], 3, [], none⟩ : St)) (y := (t2, t3)) ?_ ?_
 ·replace h := hs
  rcases E_ h with ⟨hc, h⟩ | ⟨hc, h⟩
  ·refine ct I hc (rn 1 I ?_)
   obtain ⟨y, hk, h⟩ := B h
   refine po (elget (D.int .i64) (fun _ => I) hk I I I I I) I I (on 1 I ?_)
   obtain ⟨x9, hk, h⟩ := B h
   refine po (ecall (p_arr_Atom_ok hk) I I I I I I I I I) I I (on 2 I (O_ (cn I ?_)))
   cases h
   exact .ok I
  refine cf I hc (K_ (cn I ?_))
  cases h
  exact .ok I
 refine N_ (ra I (R_ ?_))
 cases h
 exact .ret I I
theorem p_arr_Text_l0_ok (a0 : List Int) : ∀ (a : ((List Int)) × Int × (List Cell)) (res : (List Cell)), p_arr_Text_l0 a = some res → (match a with | (l, x, a1) => awpL X 88 (codeAt [1, 1, 1, 0, 1, 0, 0] (bodyOf Tryz.f88)) (cleanAt (X.H 88 5) 2) (exitQ 0 (X.H 88 1000000) 2 (NrmQ (fun (a11 : (List Cell)) => (⟨[(2, .c (.ptr 0 0)), (3, .c (.ptr 1 0))], [(1, [.d (lI a0), oC a11]), (0, [oI [], oC []])], 2, [], none⟩ : St)) res)) ⟨[(2, .c (.ptr 0 0)), (3, .c (.ptr 1 0)), (14, .d (lI l)), (15, .d (iZ (List.length l : Int))), (16, .d (iZ x))], [(1, [.d (lI a0), oC a1]), (0, [oI [], oC []])], 2, [], none⟩) := by
 refine p_arr_Text_l0.partial_correctness _ ?_
 rintro p_arr_Text_l0' ih ⟨l, x, a1⟩ res h
 refine lg I (ra I (S_ ?_))
 rcases E_ h with ⟨hc, h⟩ | ⟨hc, h⟩
 ·refine ct I hc (K_ (cn I (N_ (S_ (W_ (S_ (rn 0 I ?_)))))))
  obtain ⟨n, hk, h⟩ := B h
  refine po (elget (D.int .i64) (fun _ => I) hk I I I I I) I I (on 2 I (rz (rn 5 I ?_)))
  obtain ⟨l1, hk, h⟩ := B h
  refine po (eappc hk I I I I I I I I I I I I I I ) I I (on 2 I (O_ (en I (N_ (rn 2 I (O_ (loopQ.normal ?_)))))))
  exact awpL_at I I (ih _ _ h)
 refine cf I hc (X_ (condQ.exit (seqQ.exit (loopQ.exit (eh I ?_)))))
 cases h
 exact .ok I
theorem p_arr_Text_ok {l : (List Int)} {r : Arr} (h : p_arr_Text l = some r) : aval X 88 [.d (lI l)] [] (CRes.ret (.d (encArr r)) []) := by
 unfold p_arr_Text at h
 refine aval_start (tm := [(0, .d (lI l))]) (hp := []) (n := 0) I Tryz.func88 I I I I I I (ra (nid' := 1) I (S_ (rn 1 I (po (ellen I I I I I I I) I I (on (nid' := 2) 4 I (rz (S_ (S_ (rn 1 I (po (ellen I I I I I I I) I I (on 1 I (rz ?_))))))))))))
 obtain ⟨a0, hs, h⟩ := B h
 refine awp_nrm (fun (a0 : (List Int)) => (⟨[(0, .d (lI l)), (2, .c (.ptr 0 0)), (3, .c (.ptr 1 0))], [(1, [.d (lI a0), oC []]), (0, [oI [], oC []])], 2, [], none⟩ : St)) (y := a0) ?_ ?_
 ·replace h := hs
  rcases E_ h with ⟨hc, h⟩ | ⟨hc, h⟩
  ·refine ct I hc (rn 2 I (O_ (cn I ?_)))
   cases h
   exact .ok I
  refine cf I hc (K_ (cn I ?_))
  cases h
  exact .ok I
 refine N_ (S_ (S_ (rn 1 I (po (ellen I I I I I I I) I I (on 1 I (rz ?_))))))
 obtain ⟨a11, hs, h⟩ := B h
 refine awp_nrm (fun (a11 : (List Cell)) => (⟨[(2, .c (.ptr 0 0)), (3, .c (.ptr 1 0))], [(1, [.d (lI a0), oC a11]), (0, [oI [], oC []])], 2, [], none⟩ : St)) (y := a11) ?_ ?_
 ·replace h := hs
  refine W_ (awp_loop ?_)
  exact awpL_at I I (p_arr_Text_l0_ok a0 _ _ h)
 refine N_ (ra I (R_ ?_))
 cases h
 exact .ret I I
theorem p_runes_Good_ok {n : Int} {r : Bool} (h : p_runes_Good n = some r) : aval X 81 [.d (iZ n)] [] (CRes.ret (.d (.bool r)) []) := by
 unfold p_runes_Good at h
 refine aval_start (tm := [(0, .d (iZ n))]) (hp := []) (n := 0) I Tryz.func81 I I I I I I (ra I (S_ (rn 3 I ?_)))
 rcases E_ h with ⟨hc, h⟩ | ⟨hc, h⟩
 ·refine gt I I I I hc I (on 4 I ?_)
  rcases E_ h with ⟨hc, h⟩ | ⟨hc, h⟩
  ·refine gt I I I I hc I (on 3 I ?_)
   rcases E_ h with ⟨hc, h⟩ | ⟨hc, h⟩
   ·refine gt I I I I hc I (on 5 I (rz (R_ ?_)))
    cases h
    exact .ret I I
   refine gf I I I I hc I (on 5 I (rz (R_ ?_)))
   cases h
   exact .ret I I
  refine gf I I I I hc I (on 8 I (rz (R_ ?_)))
  cases h
  exact .ret I I
 refine gf I I I I hc I (on 12 I (rz (R_ ?_)))
 cases h
 exact .ret I I
theorem p_runes_first_ok {c : Int} {r : Int × Int} (h : p_runes_first c = some r) : aval X 80 [.d (.int .u8 c)] [] (CRes.ret (.tuple [.d (iZ r.1), .d (iZ r.2)]) []) := by
 unfold p_runes_first at h
 refine aval_start (tm := [(0, .d (.int .u8 c))]) (hp := []) (n := 0) I Tryz.func80 I I I I I I (ra I (S_ (W_ (S_ (W_ (S_ (W_ (S_ (W_ (W_ (S_ (W_ (S_ (S_ (ra I ?_)))))))))))))))
 rcases E_ h with ⟨hc, h⟩ | ⟨hc, h⟩
 ·refine ct I hc (X_ (condQ.exit (seqQ.exit (seqQ.exit (eh I (N_ (S_ (ra I (R_ (Q_ (exitQ.ret (exitQ.ret (Q_ (exitQ.ret (Q_ (exitQ.ret (Q_ (exitQ.ret (Q_ ?_)))))))))))))))))))
  cases h
  exact .ret I I
 refine cf I hc (K_ (cn I (N_ (S_ (ra I ?_)))))
 rcases E_ h with ⟨hc, h⟩ | ⟨hc, h⟩
 ·refine ct I hc (X_ (condQ.exit (seqQ.exit (seqQ.exit (exitQ.there I (seqQ.exit (eh I (en I (N_ (S_ (ra I (R_ (Q_ (exitQ.ret (Q_ (exitQ.ret (Q_ (exitQ.ret (Q_ ?_)))))))))))))))))))
  cases h
  exact .ret I I
 refine cf I hc (K_ (cn I (N_ (S_ (ra I ?_)))))
 rcases E_ h with ⟨hc, h⟩ | ⟨hc, h⟩
 ·refine ct I hc (X_ (condQ.exit (seqQ.exit (seqQ.exit (exitQ.there I (seqQ.exit (exitQ.there I (eh I (N_ (S_ (ra I (R_ (Q_ (exitQ.ret (Q_ (exitQ.ret (Q_ (exitQ.ret (Q_ ?_)))))))))))))))))))
  cases h
  exact .ret I I
 refine cf I hc (K_ (cn I (N_ (S_ (ra I ?_)))))
 rcases E_ h with ⟨hc, h⟩ | ⟨hc, h⟩
 ·refine ct I hc (X_ (condQ.exit (seqQ.exit (seqQ.exit (exitQ.there I (seqQ.exit (exitQ.there I (exitQ.there I (seqQ.exit (eh I (N_ (S_ (ra I (R_ (Q_ (exitQ.ret (Q_ (exitQ.ret (Q_ ?_)))))))))))))))))))
  cases h
  exact .ret I I
 refine cf I hc (K_ (cn I (N_ (ra I ?_))))
 rcases E_ h with ⟨hc, h⟩ | ⟨hc, h⟩
 ·refine ct I hc (X_ (condQ.exit (seqQ.exit (exitQ.there I (seqQ.exit (exitQ.there I (exitQ.there I (seqQ.exit (exitQ.there I (seqQ.exit (eh I (N_ (S_ (ra I (R_ (Q_ (exitQ.ret (Q_ ?_))))))))))))))))))
  cases h
  exact .ret I I
 refine cf I hc (K_ (cn I (N_ (X_ (exitQ.there I (seqQ.exit (exitQ.there I (exitQ.there I (seqQ.exit (exitQ.there I (seqQ.exit (exitQ.there I (seqQ.exit (eh I (N_ (ra I (R_ ?_)))))))))))))))))
 cases h
 exact .ret I I
theorem p_runes_put_nil_ok {n : Int} {r : (List Int)} (h : p_runes_put_nil n = some r) : aval X 82 [.nilsl 1, .d (iZ n)] [] (CRes.ret (.d (.list 1 (List.map (D.int .u8) r))) []) := by
 unfold p_runes_put_nil at h
 refine aval_start (tm := [(0, .c (.nilsl 1)), (1, .d (iZ n))]) (hp := []) (n := 0) I Tryz.func82 I I I I I I (ra I (S_ (W_ (ra I ?_))))
 rcases E_ h with ⟨hc, h⟩ | ⟨hc, h⟩
 ·refine ct I hc (S_ (rn 4 I ?_))
  obtain ⟨l, hk, h⟩ := B h
  refine po (eappn hk I I I I I I I I I I I I ) I I (on 1 I (rz (R_ (C_ (exitQ.ret (Q_ ?_))))))
  cases h
  exact .ret I I
 refine cf I hc (ra I ?_)
 rcases E_ h with ⟨hc, h⟩ | ⟨hc, h⟩
 ·refine ct I hc (S_ (rn 10 I ?_))
  obtain ⟨l1, hk, h⟩ := B h
  refine po (eappn hk I I I I I I I I I I I I ) I I (on 1 I (rz (R_ (C_ (C_ (exitQ.ret (Q_ ?_)))))))
  cases h
  exact .ret I I
 refine cf I hc (ra I ?_)
 rcases E_ h with ⟨hc, h⟩ | ⟨hc, h⟩
 ·refine ct I hc (S_ (rn 15 I ?_))
  obtain ⟨l2, hk, h⟩ := B h
  refine po (eappn hk I I I I I I I I I I I I ) I I (on 1 I (rz (R_ (C_ (C_ (C_ (exitQ.ret (Q_ ?_))))))))
  cases h
  exact .ret I I
 refine cf I hc (K_ (cn I (cn I (cn I (en I (N_ (S_ (rn 20 I ?_))))))))
 obtain ⟨l3, hk, h⟩ := B h
 refine po (eappn hk I I I I I I I I I I I I ) I I (on 1 I (rz (R_ ?_)))
 cases h
 exact .ret I I
theorem p_runes_One_l0_ok (k : Int) : ∀ (a : (List Int) × Int × Int) (res : Except (Int × Int) (Int)), p_runes_One_l0 a = some res → (match a with | (l, n1, x) => awpL X 45 (codeAt [1, 1, 1, 1, 0, 1, 0, 0] (bodyOf Tryz.f45)) (cleanAt (X.H 45 7) 0) (exitQ 0 (X.H 45 1000000) 0 (SubQ X Tryz.f45 0 (fun (r : Int × Int) => (CRes.ret (.tuple [.d (iZ r.1), .d (iZ r.2)]) [])) (fun (n2 : Int) => (⟨[(4, .d (iZ k)), (5, .d (iZ n2))], [], 0, [], none⟩ : St)) res)) ⟨[(4, .d (iZ k)), (5, .d (iZ n1)), (28, .d (.list 1 (List.map (D.int .u8) l))), (29, .d (iZ (List.length l : Int))), (30, .d (iZ x))], [], 0, [], none⟩) := by
 refine p_runes_One_l0.partial_correctness _ ?_
 rintro p_runes_One_l0' ih ⟨l, n1, x⟩ res h
 refine lg I (ra I (S_ ?_))
 rcases E_ h with ⟨hc, h⟩ | ⟨hc, h⟩
 ·refine ct I hc (K_ (cn I (N_ (S_ (W_ (S_ (rn 0 I ?_)))))))
  obtain ⟨c, hk, h⟩ := B h
  refine po (elget (D.int .u8) (fun _ => I) hk I I I I I) I I (on 2 I (rz (S_ (ra I ?_))))
  rcases E_ h with ⟨hc, h⟩ | ⟨hc, h⟩
  ·refine ct I hc (ra I (R_ (C_ (Q_ (exitQ.ret (Q_ (loopQ.ret (exitQ.ret ?_))))))))
   cases h
   exact .err I (.ret I I)
  refine cf I hc (K_ (cn I (N_ (rn 7 I (O_ (en I (N_ (rn 2 I (O_ (loopQ.normal ?_))))))))))
  exact awpL_at I I (ih _ _ h)
 refine cf I hc (X_ (condQ.exit (seqQ.exit (loopQ.exit (eh I ?_)))))
 cases h
 exact .ok I
theorem p_runes_One_ok {b : (List Int)} {r : Int × Int} (h : p_runes_One b = some r) : aval X 45 [.d (.list 1 (List.map (D.int .u8) b))] [] (CRes.ret (.tuple [.d (iZ r.1), .d (iZ r.2)]) []) := by
 unfold p_runes_One at h
 refine aval_start (tm := [(0, .d (.list 1 (List.map (D.int .u8) b)))]) (hp := []) (n := 0) I Tryz.func45 I I I I I I (ra I (S_ (S_ (rn 1 I (po (ellen I I I I I I I) I I (on 1 I (rz ?_)))))))
 rcases E_ h with ⟨hc, h⟩ | ⟨hc, h⟩
 ·refine ct I hc (ra I (R_ (C_ (Q_ ?_))))
  cases h
  exact .ret I I
 refine cf I hc (K_ (cn I (N_ (S_ (rn 1 I ?_)))))
 obtain ⟨y, hk, h⟩ := B h
 refine po (elget (D.int .u8) (fun _ => I) hk I I I I I) I I (on 1 I ?_)
 obtain ⟨⟨k, n⟩, hk, h⟩ := B h
 refine po (ecall (p_runes_first_ok hk) I I I I I I I I I) I I (on 5 I (rz (S_ (S_ (rn 3 I ?_)))))
 rcases E_ h with ⟨hc, h⟩ | ⟨hc, h⟩
 ·refine gt I I I I hc I (on 5 I (rz (ct I I (ra I (R_ (C_ (Q_ ?_)))))))
  cases h
  exact .ret I I
 refine gf I I I I hc I (on 2 I (po (ellen I I I I I I I) I I (on 2 I (rz ?_))))
 rcases E_ h with ⟨hc, h⟩ | ⟨hc, h⟩
 ·refine ct I hc (ra I (R_ (C_ (Q_ ?_))))
  cases h
  exact .ret I I
 refine cf I hc (K_ (cn I (N_ (S_ (S_ (rn 2 I ?_))))))
 obtain ⟨l, hk, h⟩ := B h
 refine po (elmid hk I I I I I I I) I I (po (ellen I I I I I I I) I I (on 1 I (rz ?_)))
 obtain ⟨res, hs, h⟩ := B h
 refine awp_sub Tryz.f45 0 (fun (r : Int × Int) => (CRes.ret (.tuple [.d (iZ r.1), .d (iZ r.2)]) [])) (fun (n2 : Int) => (⟨[(4, .d (iZ k)), (5, .d (iZ n2))], [], 0, [], none⟩ : St)) (res := res) ?_ (fun y hy => ?_) (fun r x s' hr hx he => ?_)
 ·replace h := hs
  refine W_ (awp_loop ?_)
  exact awpL_at I I (p_runes_One_l0_ok k _ _ h)
 ·subst hy
  obtain n2 := y
  refine N_ (S_ (S_ (rn 1 I ?_)))
  obtain ⟨x1, hk, h⟩ := B h
  refine po (ecall (p_runes_Good_ok hk) I I I I I I I I I) I I (on 2 I ?_)
  rcases E_ h with ⟨hc, h⟩ | ⟨hc, h⟩
  ·refine gt I I I I hc I (on 6 I (rz (ct I I (ra I (R_ (C_ (Q_ ?_)))))))
   cases h
   exact .ret I I
  refine gf I I I I hc I (on 1 I ?_)
  obtain ⟨x2, hk, h⟩ := B h
  refine po (ecallk (p_runes_put_nil_ok hk) I I I I I I I) I I (po (ellen I I I I I I I) I I (on 3 I (rz ?_)))
  rcases E_ h with ⟨hc, h⟩ | ⟨hc, h⟩
  ·refine ct I hc (ra I (R_ (C_ (Q_ ?_))))
   cases h
   exact .ret I I
  refine cf I hc (K_ (cn I (N_ (ra I (R_ ?_)))))
  cases h
  exact .ret I I
 subst hr
 refine seqQ.out hx ?_
 cases h
 exact he
theorem p_alex_lexer_text_l0_ok : ∀ (a : Str × Int × Int × Int × Int × (List Int) × Int) (res : Except (Token × Int × Int × Int × Int) (Unit)), p_alex_lexer_text_l0 a = some res → (match a with | (b, at_, err, at_1, why, l, x1) => awpL X 76 (codeAt [1, 1, 1, 1, 0, 0] (bodyOf Tryz.f76)) (cleanAt (X.H 76 4) 3) (exitQ 0 (X.H 76 1000000) 3 (SubQ X Tryz.f76 1 (fun (r : Token × Int × Int × Int × Int) => (CRes.ret (.d (encToken r.1)) [[.d (.str b), .d (iZ r.2.1), .hid, .d (iZ r.2.2.1), .d (iZ r.2.2.2.1), .d (iZ r.2.2.2.2)]])) (fun (_ : Unit) => (⟨[], [], 0, [], none⟩ : St)) res)) ⟨[(0, .c (.ptr 0 0)), (2, .c (.ptr 1 0)), (3, .c (.ptr 2 0)), (4, .c (.own 1 (List.map (D.int .i64) l)))], [(2, [.d (iZ 2), .d (.str []), oI [], oC [], .d (iZ at_)]), (1, [.d (iZ 0), .d (.str []), oI [], oC [], .d (iZ 0)]), (0, [.d (.str b), .d (iZ x1), .hid, .d (iZ err), .d (iZ at_1), .d (iZ why)])], 3, [], none⟩) := by
 refine p_alex_lexer_text_l0.partial_correctness _ ?_
 rintro p_alex_lexer_text_l0' ih ⟨b, at_, err, at_1, why, l, x1⟩ res h
 refine lg I (W_ (S_ (S_ (drn (m := 13) 10 I I (dz (by kernel_rfl) ?_)))))
 rcases E_ h with ⟨hc, h⟩ | ⟨hc, h⟩
 ·refine ct I hc (S_ (rn 3 I ?_))
  obtain ⟨⟨err1, at_2, why1⟩, hk, h⟩ := B h
  refine po (ecallb (nid' := 13) (p_alex_lexer_fail_ok hk) I I I I I I I I I I I I) I I (rz (ra I (R_ (C_ (Q_ (exitQ.ret (loopQ.ret (exitQ.ret ?_))))))))
  cases h
  exact .err I (.ret I I)
 refine cf I hc (K_ (cn I (N_ (S_ (drn (m := 29) 8 I I ?_)))))
 obtain ⟨s, hk, h⟩ := B h
 refine pd (esfrom hk I I I I) I I I I I ?_
 obtain ⟨b1, hk, h⟩ := B h
 refine pd (esbytes hk I I I I I I) I I I I I ?_
 obtain ⟨⟨n, k⟩, hk, h⟩ := B h
 refine pd (ecall (p_runes_One_ok hk) I I I I I I I I I) I I I I I (don 5 I (dz (by kernel_rfl) (S_ ?_)))
 obtain ⟨res, hs, h⟩ := B h
 refine awp_sub Tryz.f76 1 (fun (r : Token × Int × Int × Int × Int) => (CRes.ret (.d (encToken r.1)) [[.d (.str b), .d (iZ r.2.1), .hid, .d (iZ r.2.2.1), .d (iZ r.2.2.2.1), .d (iZ r.2.2.2.2)]])) (fun (k1 : Int) => (⟨[(0, .c (.ptr 0 0)), (2, .c (.ptr 1 0)), (3, .c (.ptr 2 0)), (4, .c (.own 1 (List.map (D.int .i64) l))), (5, .d (iZ n)), (6, .d (iZ k1))], [(2, [.d (iZ 2), .d (.str []), oI [], oC [], .d (iZ at_)]), (1, [.d (iZ 0), .d (.str []), oI [], oC [], .d (iZ 0)]), (0, [.d (.str b), .d (iZ x1), .hid, .d (iZ err), .d (iZ at_1), .d (iZ why)])], 29, [], none⟩ : St)) (res := res) ?_ (fun y hy => ?_) (fun r x s' hr hx he => ?_)
 ·replace h := hs
  refine W_ (ra I ?_)
  rcases E_ h with ⟨hc, h⟩ | ⟨hc, h⟩
  ·refine ct I hc (S_ (rn 5 I ?_))
   obtain ⟨⟨err2, at_3, why2⟩, hk, h⟩ := B h
   refine po (ecallb (nid' := 29) (p_alex_lexer_fail_ok hk) I I I I I I I I I I I I) I I (rz (ra I (R_ (C_ (exitQ.ret ?_)))))
   cases h
   exact .err I (.ret I I)
  refine cf I hc (S_ (rn 3 I ?_))
  rcases E_ h with ⟨hc, h⟩ | ⟨hc, h⟩
  ·refine gt I I I I hc I (on 1 I ?_)
   obtain ⟨x, hk, h⟩ := B h
   refine po (ecallb (nid' := 29) (p_alex_lexer_byte_ok hk) I I I I I I I I I I I I) I I (on 3 I (rz ?_))
   rcases E_ h with ⟨hc, h⟩ | ⟨hc, h⟩
   ·refine ct I hc (ra I (S_ (rn 1 I ?_)))
    obtain ⟨x2, hk, h⟩ := B h
    refine po (ecall (p_arr_Text_ok hk) I I I I I I I I I) I I (on 2 I (rz (ra I (R_ (C_ (C_ (exitQ.ret ?_)))))))
    cases h
    exact .err I (.ret I I)
   refine cf I hc (ra I ?_)
   rcases E_ h with ⟨hc, h⟩ | ⟨hc, h⟩
   ·refine ct I hc (rn 1 I (O_ (cn I (cn I (cn I (en I ?_))))))
    cases h
    exact .ok I
   refine cf I hc (S_ (rn 3 I ?_))
   rcases E_ h with ⟨hc, h⟩ | ⟨hc, h⟩
   ·refine gt I I I I hc I (on 4 I (rz (ct I I (S_ (rn 5 I ?_)))))
    obtain ⟨⟨err3, at_4, why3⟩, hk, h⟩ := B h
    refine po (ecallb (nid' := 29) (p_alex_lexer_fail_ok hk) I I I I I I I I I I I I) I I (rz (ra I (R_ (C_ (C_ (C_ (C_ (exitQ.ret ?_))))))))
    cases h
    exact .err I (.ret I I)
   refine gf I I I I hc I (on 4 I (rz ?_))
   rcases E_ h with ⟨hc, h⟩ | ⟨hc, h⟩
   ·refine ct I hc (S_ (rn 5 I ?_))
    obtain ⟨⟨err4, at_5, why4⟩, hk, h⟩ := B h
    refine po (ecallb (nid' := 29) (p_alex_lexer_fail_ok hk) I I I I I I I I I I I I) I I (rz (ra I (R_ (C_ (C_ (C_ (C_ (exitQ.ret ?_))))))))
    cases h
    exact .err I (.ret I I)
   refine cf I hc (K_ (cn I (cn I (cn I (cn I (en I ?_))))))
   cases h
   exact .ok I
  refine gf I I I I hc I (on 5 I (rz (cf I I (ra I ?_))))
  rcases E_ h with ⟨hc, h⟩ | ⟨hc, h⟩
  ·refine ct I hc (rn 1 I (O_ (cn I (cn I (cn I (en I ?_))))))
   cases h
   exact .ok I
  refine cf I hc (S_ (rn 3 I ?_))
  rcases E_ h with ⟨hc, h⟩ | ⟨hc, h⟩
  ·refine gt I I I I hc I (on 4 I (rz (ct I I (S_ (rn 5 I ?_)))))
   obtain ⟨⟨err5, at_6, why5⟩, hk, h⟩ := B h
   refine po (ecallb (nid' := 29) (p_alex_lexer_fail_ok hk) I I I I I I I I I I I I) I I (rz (ra I (R_ (C_ (C_ (C_ (C_ (exitQ.ret ?_))))))))
   cases h
   exact .err I (.ret I I)
  refine gf I I I I hc I (on 4 I (rz ?_))
  rcases E_ h with ⟨hc, h⟩ | ⟨hc, h⟩
  ·refine ct I hc (S_ (rn 5 I ?_))
   obtain ⟨⟨err6, at_7, why6⟩, hk, h⟩ := B h
   refine po (ecallb (nid' := 29) (p_alex_lexer_fail_ok hk) I I I I I I I I I I I I) I I (rz (ra I (R_ (C_ (C_ (C_ (C_ (exitQ.ret ?_))))))))
   cases h
   exact .err I (.ret I I)
  refine cf I hc (K_ (cn I (cn I (cn I (cn I (en I ?_))))))
  cases h
  exact .ok I
 ·subst hy
  obtain k1 := y
  refine N_ (drn (m := 44) 4 I I ?_)
  obtain ⟨l1, hk, h⟩ := B h
  refine pd (eappv hk I I I I I I I I I I I I I ) I I I I I (don 10 I (dz' (by kernel_rfl) (en I (loopQ.normal ?_))))
  exact awpL_at I I (ih _ _ h)
 subst hr
 refine seqQ.out hx (exitQ.out hx (loopQ.out hx (exitQ.out hx ?_)))
 cases h
 exact .err hx he
theorem p_alex_lexer_text_ok {b : Str} {at_ : Int} {err : Int} {at_1 : Int} {why : Int} {r : Token × Int × Int × Int × Int} (h : p_alex_lexer_text b at_ err at_1 why = some r) : aval X 76 [.ptr 0 0] [[.d (.str b), .d (iZ at_), .hid, .d (iZ err), .d (iZ at_1), .d (iZ why)]] (CRes.ret (.d (encToken r.1)) [[.d (.str b), .d (iZ r.2.1), .hid, .d (iZ r.2.2.1), .d (iZ r.2.2.2.1), .d (iZ r.2.2.2.2)]]) := by
 unfold p_alex_lexer_text at h
 refine aval_start (tm := [(0, .c (.ptr 0 0))]) (hp := [(0, [.d (.str b), .d (iZ at_), .hid, .d (iZ err), .d (iZ at_1), .d (iZ why)])]) (n := 1) I Tryz.func76 I I I I I I (ra (nid' := 2) I (ra (nid' := 3) I (ra I (ra I ?_))))
 obtain ⟨res, hs, h⟩ := B h
 refine awp_sub Tryz.f76 1 (fun (r : Token × Int × Int × Int × Int) => (CRes.ret (.d (encToken r.1)) [[.d (.str b), .d (iZ r.2.1), .hid, .d (iZ r.2.2.1), .d (iZ r.2.2.2.1), .d (iZ r.2.2.2.2)]])) (fun (_ : Unit) => (⟨[], [], 0, [], none⟩ : St)) (res := res) ?_ (fun y hy => ?_) (fun r x s' hr hx he => ?_)
 ·replace h := hs
  refine W_ (awp_loop ?_)
  exact awpL_at I I (p_alex_lexer_text_l0_ok _ _ h)
 ·subst hy; cases h
 subst hr
 cases h
 exact he
theorem p_alex_lexer_word_ok {b : Str} {at_ : Int} {err : Int} {at_1 : Int} {why : Int} {r : Token × Int × Int × Int × Int} (h : p_alex_lexer_word b at_ err at_1 why = some r) : aval X 40 [.ptr 0 0] [[.d (.str b), .d (iZ at_), .hid, .d (iZ err), .d (iZ at_1), .d (iZ why)]] (CRes.ret (.d (encToken r.1)) [[.d (.str b), .d (iZ r.2.1), .hid, .d (iZ r.2.2.1), .d (iZ r.2.2.2.1), .d (iZ r.2.2.2.2)]]) := by
 unfold p_alex_lexer_word at h
 refine aval_start (tm := [(0, .c (.ptr 0 0))]) (hp := [(0, [.d (.str b), .d (iZ at_), .hid, .d (iZ err), .d (iZ at_1), .d (iZ why)])]) (n := 1) I Tryz.func40 I I I I I I (ra (nid' := 2) I (S_ (S_ (drn (m := 18) 8 I I ?_))))
 obtain ⟨s, hk, h⟩ := B h
 refine pd (esfrom hk I I I I) I I I I I ?_
 obtain ⟨b1, hk, h⟩ := B h
 refine pd (esbytes hk I I I I I I) I I I I I ?_
 obtain ⟨⟨x, k⟩, hk, h⟩ := B h
 refine pd (ecall (p_runes_One_ok hk) I I I I I I I I I) I I I I I (don 5 I (dz (by kernel_rfl) (ra I ?_)))
 rcases E_ h with ⟨hc, h⟩ | ⟨hc, h⟩
 ·refine ct I hc (S_ (rn 5 I ?_))
  obtain ⟨⟨err1, at_2, why1⟩, hk, h⟩ := B h
  refine po (ecallb (nid' := 18) (p_alex_lexer_fail_ok hk) I I I I I I I I I I I I) I I (rz (ra I (R_ (C_ (Q_ ?_)))))
  cases h
  exact .ret I I
 refine cf I hc (K_ (cn I (N_ (S_ (S_ (rn 1 I ?_))))))
 obtain ⟨c, hk, h⟩ := B h
 refine po (ecallb (nid' := 18) (p_alex_lexer_byte_ok hk) I I I I I I I I I I I I) I I (on 1 I (rz (W_ (S_ (rn 1 I ?_)))))
 obtain ⟨x1, hk, h⟩ := B h
 refine po (ecallb (nid' := 18) (p_alex_lexer_number_ok hk) I I I I I I I I I I I I) I I (on 1 I (rz ?_))
 rcases E_ h with ⟨hc, h⟩ | ⟨hc, h⟩
 ·refine ct I hc (S_ (rn 1 I ?_))
  obtain ⟨⟨x2, at_3, err2, at_4, why2⟩, hk, h⟩ := B h
  refine po (ecallb (nid' := 18) (p_alex_lexer_numbers_ok hk) I I I I I I I I I I I I) I I (on 1 I (rz (R_ (C_ (exitQ.ret (Q_ ?_))))))
  cases h
  exact .ret I I
 refine cf I hc (ra I ?_)
 rcases E_ h with ⟨hc, h⟩ | ⟨hc, h⟩
 ·refine ct I hc (S_ (rn 1 I ?_))
  obtain ⟨⟨x3, at_5, err3, at_6, why3⟩, hk, h⟩ := B h
  refine po (ecallb (nid' := 18) (p_alex_lexer_text_ok hk) I I I I I I I I I I I I) I I (on 1 I (rz (R_ (C_ (C_ (exitQ.ret (Q_ ?_)))))))
  cases h
  exact .ret I I
 refine cf I hc (S_ (rn 1 I ?_))
 obtain ⟨x4, hk, h⟩ := B h
 refine po (ecall (p_alex_letter_ok hk) I I I I I I I I I) I I (on 1 I (rz ?_))
 rcases E_ h with ⟨hc, h⟩ | ⟨hc, h⟩
 ·refine ct I hc (S_ (rn 1 I ?_))
  obtain ⟨⟨x5, at_7, err4, at_8, why4⟩, hk, h⟩ := B h
  refine po (ecallb (nid' := 18) (p_alex_lexer_name_ok hk) I I I I I I I I I I I I) I I (on 1 I (rz (R_ (C_ (C_ (C_ (exitQ.ret (Q_ ?_))))))))
  cases h
  exact .ret I I
 refine cf I hc (K_ (cn I (cn I (cn I (en I (N_ (S_ (rn 1 I ?_))))))))
 obtain ⟨⟨x6, ok⟩, hk, h⟩ := B h
 refine po (ecallb (nid' := 18) (go_fixed_ok hk) I I I I I I I I I I I I) I I (on (nid' := 19) 6 I (rz (S_ (ra I ?_))))
 obtain ⟨⟨x31, x41, x51⟩, hs, h⟩ := B h
 refine awp_nrm (fun ((x31, x41, x51) : Int × Int × Int) => (⟨[(0, .c (.ptr 0 0)), (2, .c (.ptr 1 0)), (6, .c (.ptr 18 0))], [(18, [.d (iZ x6.kind), .d (.str x6.text), .d (lI x6.lit.shape), .d (lC x6.lit.cells), .d (iZ x6.at_)]), (1, [.d (iZ 0), .d (.str []), oI [], oC [], .d (iZ 0)]), (0, [.d (.str b), .d (iZ at_), .hid, .d (iZ x31), .d (iZ x41), .d (iZ x51)])], 19, [], none⟩ : St)) (y := (x31, x41, x51)) ?_ ?_
 ·replace h := hs
  rcases E_ h with ⟨hc, h⟩ | ⟨hc, h⟩
  ·refine ct I hc (rn 5 I ?_)
   obtain ⟨⟨err5, at_9, why5⟩, hk, h⟩ := B h
   refine po (ecallb (nid' := 19) (p_alex_lexer_fail_ok hk) I I I I I I I I I I I I) I I (O_ (cn I ?_))
   cases h
   exact .ok I
  refine cf I hc (K_ (cn I ?_))
  cases h
  exact .ok I
 refine N_ (S_ (drn (m := 30) 11 I I (dz (by kernel_rfl) (ra I (R_ ?_)))))
 cases h
 exact .ret I I
theorem p_strings_HasPrefix_ok {s : Str} {prefix_ : Str} {r : Bool} (h : p_strings_HasPrefix s prefix_ = some r) : aval X 39 [.d (.str s), .d (.str prefix_)] [] (CRes.ret (.d (.bool r)) []) := by
 unfold p_strings_HasPrefix at h
 refine aval_start (tm := [(0, .d (.str s)), (1, .d (.str prefix_))]) (hp := []) (n := 0) I Tryz.func39 I I I I I I (ra I (S_ (rn 2 I ?_)))
 obtain ⟨x, hk, h⟩ := B h
 refine po (ecall (p_stringslite_HasPrefix_ok hk) I I I I I I I I I) I I (on 1 I (rz (R_ ?_)))
 cases h
 exact .ret I I
theorem p_alex_Lex_l0_ok : ∀ (a : Str × Int × (List Token) × Int × Int × Int) (res : Except ((List Token) × Fault) (Int × (List Token) × Int × Int × Int)), p_alex_Lex_l0 a = some res → (match a with | (s, x1, x2, x3, x4, x5) => awpL X 26 (codeAt [1, 1, 1, 0, 0, 0] (bodyOf Tryz.f26)) (cleanAt (X.H 26 4) 2) (exitQ 0 (X.H 26 1000000) 2 (SubQ X Tryz.f26 0 (fun (r : (List Token) × Fault) => (CRes.ret (.tuple [.d (lT r.1), .d (encFault r.2)]) [])) (fun ((x11, x21, x31, x41, x51) : Int × (List Token) × Int × Int × Int) => (⟨[(3, .c (.ptr 0 0)), (4, .c (.ptr 1 0))], [(1, [.d (.str s), .d (iZ x11), oT x21, .d (iZ x31), .d (iZ x41), .d (iZ x51)]), (0, [.d (iZ 0), .d (iZ 0), .d (iZ 0)])], 2, [], none⟩ : St)) res)) ⟨[(0, .d (.str s)), (3, .c (.ptr 0 0)), (4, .c (.ptr 1 0))], [(1, [.d (.str s), .d (iZ x1), oT x2, .d (iZ x3), .d (iZ x4), .d (iZ x5)]), (0, [.d (iZ 0), .d (iZ 0), .d (iZ 0)])], 2, [], none⟩) := by
 refine p_alex_Lex_l0.partial_correctness _ ?_
 rintro p_alex_Lex_l0' ih ⟨s, x1, x2, x3, x4, x5⟩ res h
 refine lg I (S_ (S_ (rn 8 I ?_)))
 rcases E_ h with ⟨hc, h⟩ | ⟨hc, h⟩
 ·refine gt I I I I hc I (on 7 I (rz ?_))
  rcases E_ h with ⟨hc, h⟩ | ⟨hc, h⟩
  ·refine ct I hc (K_ (cn I (N_ (W_ (S_ (W_ (S_ (rn 5 I ?_))))))))
   obtain ⟨c, hk, h⟩ := B h
   refine po (esget hk I I I I) I I (on 2 I (rz ?_))
   rcases E_ h with ⟨hc, h⟩ | ⟨hc, h⟩
   ·refine ct I hc (ra I (X_ (condQ.exit (exitQ.there I (seqQ.exit (eh I (loopQ.normal ?_)))))))
    exact awpL_at I I (ih _ _ h)
   refine cf I hc (S_ (rn 5 I ?_))
   obtain ⟨s1, hk, h⟩ := B h
   refine po (esfrom hk I I I I) I I ?_
   obtain ⟨x, hk, h⟩ := B h
   refine po (ecall (p_strings_HasPrefix_ok hk) I I I I I I I I I) I I (on 1 I (rz ?_))
   rcases E_ h with ⟨hc, h⟩ | ⟨hc, h⟩
   ·refine ct I hc (ra I (R_ (C_ (C_ (exitQ.ret (Q_ (exitQ.ret (loopQ.ret (exitQ.ret ?_)))))))))
    cases h
    exact .err I (.ret I I)
   refine cf I hc (S_ (rn 4 I (po (ellen I I I I I I I) I I (on 2 I (rz ?_)))))
   rcases E_ h with ⟨hc, h⟩ | ⟨hc, h⟩
   ·refine ct I hc (S_ (drn (m := 9) 7 I I (dz (by kernel_rfl) (R_ (C_ (C_ (C_ (exitQ.ret (Q_ (exitQ.ret (loopQ.ret (exitQ.ret ?_))))))))))))
    cases h
    exact .err I (.ret I I)
   refine cf I hc (K_ (cn I (cn I (cn I (en I (N_ ?_))))))
   obtain ⟨⟨x6, at_, err, at_1, why⟩, hk, h⟩ := B h
   refine rself (sD := ⟨[(72, .c (.ptr 1 0)), (70, .c (.ptr 1 2)), (69, .c (.ptr 1 0)), (68, .c (.ptr 1 0)), (67, .c (.ptr 1 0)), (0, .d (.str s)), (3, .c (.ptr 0 0)), (4, .c (.ptr 1 0))], [(1, [.d (.str s), .d (iZ x1), oT x2, .d (iZ x3), .d (iZ x4), .d (iZ x5)]), (0, [.d (iZ 0), .d (iZ 0), .d (iZ 0)])], 2, [], none⟩) (s1 := ⟨[(72, .c (.ptr 1 0)), (70, .c (.ptr 1 2)), (69, .c (.ptr 1 0)), (68, .c (.ptr 1 0)), (67, .c (.ptr 1 0)), (0, .d (.str s)), (3, .c (.ptr 0 0)), (4, .c (.ptr 1 0))], [(1, [.d (.str s), .d (iZ at_), oT x2, .d (iZ err), .d (iZ at_1), .d (iZ why)]), (0, [.d (iZ 0), .d (iZ 0), .d (iZ 0)])], 2, [], none⟩) (tm' := [(71, .view (.cell 1 2) 5 (List.map encToken x2)), (73, .d (encToken x6)), (72, .c (.ptr 1 0)), (70, .c (.ptr 1 2)), (69, .c (.ptr 1 0)), (68, .c (.ptr 1 0)), (67, .c (.ptr 1 0)), (0, .d (.str s)), (3, .c (.ptr 0 0)), (4, .c (.ptr 1 0))]) (hp' := [(1, [.d (.str s), .d (iZ at_), oT x2, .d (iZ err), .d (iZ at_1), .d (iZ why)]), (0, [.d (iZ 0), .d (iZ 0), .d (iZ 0)])]) I (by kernel_rfl) I (ecallh (nid' := 2) (p_alex_lexer_word_ok hk) I I I I I I I I I I I I I I I I I I I I) I I (on 1 I ?_)
   obtain ⟨l, hk, h⟩ := B h
   refine po (eappc hk I I I I I I I I I I I I I I ) I I (on 3 I ?_)
   refine O_ (.mk ?_)
   refine en I (loopQ.normal ?_)
   exact awpL_at I I (ih _ _ h)
  refine cf I hc (X_ (condQ.exit (seqQ.exit (loopQ.exit (eh I ?_)))))
  cases h
  exact .ok I
 refine gf I I I I hc I (on 7 I (rz (cf I I (X_ (condQ.exit (seqQ.exit (loopQ.exit (eh I ?_))))))))
 cases h
 exact .ok I
theorem p_alex_Lex_ok {s : Str} {r : (List Token) × Fault} (h : p_alex_Lex s = some r) : aval X 26 [.d (.str s)] [] (CRes.ret (.tuple [.d (lT r.1), .d (encFault r.2)]) []) := by
 unfold p_alex_Lex at h
 refine aval_start (tm := [(0, .d (.str s))]) (hp := []) (n := 0) I Tryz.func26 I I I I I I (ra (nid' := 1) I (S_ (ra I ?_)))
 rcases E_ h with ⟨hc, h⟩ | ⟨hc, h⟩
 ·refine ct I hc (ra I (R_ (C_ (Q_ ?_))))
  cases h
  exact .ret I I
 refine cf I hc (K_ (cn I (N_ (ra (nid' := 2) I (S_ ?_)))))
 obtain ⟨res, hs, h⟩ := B h
 refine awp_sub Tryz.f26 0 (fun (r : (List Token) × Fault) => (CRes.ret (.tuple [.d (lT r.1), .d (encFault r.2)]) [])) (fun ((x11, x21, x31, x41, x51) : Int × (List Token) × Int × Int × Int) => (⟨[(3, .c (.ptr 0 0)), (4, .c (.ptr 1 0))], [(1, [.d (.str s), .d (iZ x11), oT x21, .d (iZ x31), .d (iZ x41), .d (iZ x51)]), (0, [.d (iZ 0), .d (iZ 0), .d (iZ 0)])], 2, [], none⟩ : St)) (res := res) ?_ (fun y hy => ?_) (fun r x s' hr hx he => ?_)
 ·replace h := hs
  refine W_ (awp_loop ?_)
  exact awpL_at I I (p_alex_Lex_l0_ok _ _ h)
 ·subst hy
  obtain ⟨x11, x21, x31, x41, x51⟩ := y
  refine N_ (S_ (ra I ?_))
  rcases E_ h with ⟨hc, h⟩ | ⟨hc, h⟩
  ·refine ct I hc (S_ (drn (m := 8) 6 I I (dz (by kernel_rfl) (R_ (C_ (Q_ ?_))))))
   cases h
   exact .ret I I
  refine cf I hc (K_ (cn I (N_ (ra I (R_ ?_)))))
  cases h
  exact .ret I I
 subst hr
 refine seqQ.out hx ?_
 cases h
 exact he
theorem p_apl_Grammar_ok  {r : Grammar} (h : p_apl_Grammar = some r) : aval X 17 [] [] (CRes.ret (.d (encGrammar r)) []) := by
 unfold p_apl_Grammar at h
 refine aval_start (tm := []) (hp := []) (n := 0) I Tryz.func17 I I I I I I (ra (nid' := 1) I (ra I (R_ ?_)))
 cases h
 exact .ret I I
theorem p_apl_origin_1_ok {t : Token} {r : Bool} (h : p_apl_origin_1 t = some r) : aval X 41 [.d (encToken t)] [] (CRes.ret (.d (.bool r)) []) := by
 unfold p_apl_origin_1 at h
 refine aval_start (tm := [(0, .d (encToken t))]) (hp := []) (n := 0) I Tryz.func41 I I I I I I (ra (nid' := 1) I (ra I (R_ ?_)))
 cases h
 exact .ret I I
theorem p_apl_origin_2_ok {t : Token} {r : Bool} (h : p_apl_origin_2 t = some r) : aval X 42 [.d (encToken t)] [] (CRes.ret (.d (.bool r)) []) := by
 unfold p_apl_origin_2 at h
 refine aval_start (tm := [(0, .d (encToken t))]) (hp := []) (n := 0) I Tryz.func42 I I I I I I (ra (nid' := 1) I (ra I (R_ ?_)))
 cases h
 exact .ret I I
theorem p_apl_origin_3_ok {t : Token} {r : Bool} (h : p_apl_origin_3 t = some r) : aval X 43 [.d (encToken t)] [] (CRes.ret (.d (.bool r)) []) := by
 unfold p_apl_origin_3 at h
 refine aval_start (tm := [(0, .d (encToken t))]) (hp := []) (n := 0) I Tryz.func43 I I I I I I (ra (nid' := 1) I (S_ (rn 4 I ?_)))
 rcases E_ h with ⟨hc, h⟩ | ⟨hc, h⟩
 ·refine gt I I I I hc I (on 3 I (po (ellen I I I I I I I) I I (on 3 I ?_)))
  rcases E_ h with ⟨hc, h⟩ | ⟨hc, h⟩
  ·refine gt I I I I hc I (on 3 I ?_)
   obtain ⟨y, hk, h⟩ := B h
   refine po (elget encCell (fun _ => I) hk I I I I I) I I (on 4 I ?_)
   rcases E_ h with ⟨hc, h⟩ | ⟨hc, h⟩
   ·refine gt I I I I hc I (on 10 I (rz (R_ ?_)))
    cases h
    exact .ret I I
   refine gf I I I I hc I (on 3 I ?_)
   obtain ⟨y1, hk, h⟩ := B h
   refine po (elget encCell (fun _ => I) hk I I I I I) I I (on 6 I (rz (R_ ?_)))
   cases h
   exact .ret I I
  refine gf I I I I hc I (on 18 I (rz (R_ ?_)))
  cases h
  exact .ret I I
 refine gf I I I I hc I (on 25 I (rz (R_ ?_)))
 cases h
 exact .ret I I
theorem p_apl_origin_4_ok {t : Token} {r : Bool} (h : p_apl_origin_4 t = some r) : aval X 44 [.d (encToken t)] [] (CRes.ret (.d (.bool r)) []) := by
 unfold p_apl_origin_4 at h
 refine aval_start (tm := [(0, .d (encToken t))]) (hp := []) (n := 0) I Tryz.func44 I I I I I I (ra (nid' := 1) I (ra I (R_ ?_)))
 cases h
 exact .ret I I
theorem p_apl_origin_ok {l : (List Token)} {end_ : Int} {r : Int × Int × Fault} (h : p_apl_origin l end_ = some r) : aval X 27 [.d (lT l), .d (iZ end_)] [] (CRes.ret (.tuple [.d (iZ r.1), .d (iZ r.2.1), .d (encFault r.2.2)]) []) := by
 unfold p_apl_origin at h
 refine aval_start (tm := [(0, .d (lT l)), (1, .d (iZ end_))]) (hp := []) (n := 0) I Tryz.func27 I I I I I I (ra (nid' := 1) I (S_ (S_ (rn 1 I (po (ellen I I I I I I I) I I (on 2 I ?_))))))
 rcases E_ h with ⟨hc, h⟩ | ⟨hc, h⟩
 ·refine gt I I I I hc I (on 6 I (rz (ct I I (ra I (R_ (C_ (Q_ ?_)))))))
  cases h
  exact .ret I I
 refine gf I I I I hc I (on 1 I ?_)
 obtain ⟨y, hk, h⟩ := B h
 refine po (elget encToken (fun _ => I) hk I I I I I) I I (on 4 I (rz ?_))
 rcases E_ h with ⟨hc, h⟩ | ⟨hc, h⟩
 ·refine ct I hc (ra I (R_ (C_ (Q_ ?_))))
  cases h
  exact .ret I I
 refine cf I hc (K_ (cn I (N_ (S_ (ra (nid' := 2) I (W_ (awp_loop (lg I (ra I (S_ (ct I I (K_ (cn I (N_ (S_ (W_ (ra I (S_ (S_ (rn 2 I (po (ellen I I I I I I I) I I (on 1 I (rz ?_)))))))))))))))))))))))
 rcases E_ h with ⟨hc, h⟩ | ⟨hc, h⟩
 ·refine ct I hc (ra I (R_ (C_ (Q_ (exitQ.ret (Q_ (loopQ.ret (exitQ.ret (Q_ ?_)))))))))
  cases h
  exact .ret I I
 refine cf I hc (K_ (cn I (N_ (S_ (rn 3 I ?_)))))
 obtain ⟨y1, hk, h⟩ := B h
 refine po (elget encToken (fun _ => I) hk I I I I I) I I (on 1 I ?_)
 obtain ⟨x, hk, h⟩ := B h
 refine po (ecall (p_apl_origin_1_ok hk) I I I I I I I I I) I I (on 1 I (rz ?_))
 rcases E_ h with ⟨hc, h⟩ | ⟨hc, h⟩
 ·refine ct I hc (S_ (drn (m := 11) 2 I I ?_))
  obtain ⟨y2, hk, h⟩ := B h
  refine pd (elget encToken (fun _ => I) hk I I I I I) I I I I I (don 6 I (dz (by kernel_rfl) (R_ (C_ (exitQ.ret (Q_ (loopQ.ret (exitQ.ret (Q_ ?_)))))))))
  cases h
  exact .ret I I
 refine cf I hc (K_ (cn I (en I (N_ (rn 2 I (O_ (loopQ.normal (lg I (ra I (S_ (ct I I (K_ (cn I (N_ (S_ (W_ (ra I (S_ (S_ (rn 2 I (po (ellen I I I I I I I) I I (on 1 I (rz ?_)))))))))))))))))))))))
 rcases E_ h with ⟨hc, h⟩ | ⟨hc, h⟩
 ·refine ct I hc (ra I (R_ (C_ (Q_ (exitQ.ret (Q_ (loopQ.ret (exitQ.ret (Q_ ?_)))))))))
  cases h
  exact .ret I I
 refine cf I hc (K_ (cn I (N_ (S_ (rn 3 I ?_)))))
 obtain ⟨y3, hk, h⟩ := B h
 refine po (elget encToken (fun _ => I) hk I I I I I) I I (on 1 I ?_)
 obtain ⟨x1, hk, h⟩ := B h
 refine po (ecall (p_apl_origin_2_ok hk) I I I I I I I I I) I I (on 1 I (rz ?_))
 rcases E_ h with ⟨hc, h⟩ | ⟨hc, h⟩
 ·refine ct I hc (S_ (drn (m := 11) 2 I I ?_))
  obtain ⟨y4, hk, h⟩ := B h
  refine pd (elget encToken (fun _ => I) hk I I I I I) I I I I I (don 6 I (dz (by kernel_rfl) (R_ (C_ (exitQ.ret (Q_ (loopQ.ret (exitQ.ret (Q_ ?_)))))))))
  cases h
  exact .ret I I
 refine cf I hc (K_ (cn I (en I (N_ (rn 2 I (O_ (loopQ.normal (lg I (ra I (S_ (ct I I (K_ (cn I (N_ (S_ (W_ (ra I (S_ (S_ (rn 2 I (po (ellen I I I I I I I) I I (on 1 I (rz ?_)))))))))))))))))))))))
 rcases E_ h with ⟨hc, h⟩ | ⟨hc, h⟩
 ·refine ct I hc (ra I (R_ (C_ (Q_ (exitQ.ret (Q_ (loopQ.ret (exitQ.ret (Q_ ?_)))))))))
  cases h
  exact .ret I I
 refine cf I hc (K_ (cn I (N_ (S_ (rn 3 I ?_)))))
 obtain ⟨y5, hk, h⟩ := B h
 refine po (elget encToken (fun _ => I) hk I I I I I) I I (on 1 I ?_)
 obtain ⟨x2, hk, h⟩ := B h
 refine po (ecall (p_apl_origin_3_ok hk) I I I I I I I I I) I I (on 1 I (rz ?_))
 rcases E_ h with ⟨hc, h⟩ | ⟨hc, h⟩
 ·refine ct I hc (S_ (drn (m := 11) 2 I I ?_))
  obtain ⟨y6, hk, h⟩ := B h
  refine pd (elget encToken (fun _ => I) hk I I I I I) I I I I I (don 6 I (dz (by kernel_rfl) (R_ (C_ (exitQ.ret (Q_ (loopQ.ret (exitQ.ret (Q_ ?_)))))))))
  cases h
  exact .ret I I
 refine cf I hc (K_ (cn I (en I (N_ (rn 2 I (O_ (loopQ.normal (lg I (ra I (S_ (ct I I (K_ (cn I (N_ (S_ (W_ (ra I (S_ (S_ (rn 2 I (po (ellen I I I I I I I) I I (on 1 I (rz ?_)))))))))))))))))))))))
 rcases E_ h with ⟨hc, h⟩ | ⟨hc, h⟩
 ·refine ct I hc (ra I (R_ (C_ (Q_ (exitQ.ret (Q_ (loopQ.ret (exitQ.ret (Q_ ?_)))))))))
  cases h
  exact .ret I I
 refine cf I hc (K_ (cn I (N_ (S_ (rn 3 I ?_)))))
 obtain ⟨y7, hk, h⟩ := B h
 refine po (elget encToken (fun _ => I) hk I I I I I) I I (on 1 I ?_)
 obtain ⟨x3, hk, h⟩ := B h
 refine po (ecall (p_apl_origin_4_ok hk) I I I I I I I I I) I I (on 1 I (rz ?_))
 rcases E_ h with ⟨hc, h⟩ | ⟨hc, h⟩
 ·refine ct I hc (S_ (drn (m := 11) 2 I I ?_))
  obtain ⟨y8, hk, h⟩ := B h
  refine pd (elget encToken (fun _ => I) hk I I I I I) I I I I I (don 6 I (dz (by kernel_rfl) (R_ (C_ (exitQ.ret (Q_ (loopQ.ret (exitQ.ret (Q_ ?_)))))))))
  cases h
  exact .ret I I
 refine cf I hc (K_ (cn I (en I (N_ (rn 2 I (O_ (loopQ.normal (lg I (ra I (S_ (cf I I (X_ (condQ.exit (seqQ.exit (loopQ.exit (eh I (N_ (S_ (rn 1 I ?_)))))))))))))))))))
 obtain ⟨y9, hk, h⟩ := B h
 refine po (elget encToken (fun _ => I) hk I I I I I) I I (on 3 I ?_)
 obtain ⟨y10, hk, h⟩ := B h
 refine po (elget encCell (fun _ => I) hk I I I I I) I I (on 6 I (rz (R_ ?_)))
 cases h
 exact .ret I I
theorem p_core_Name_l0_ok : ∀ (a : Str × Int) (res : Except (Bool) (Unit)), p_core_Name_l0 a = some res → (match a with | (s, x) => awpL X 20 (codeAt [1, 0, 1, 0, 0] (bodyOf Tryz.f20)) (cleanAt (X.H 20 2) 0) (exitQ 0 (X.H 20 1000000) 0 (SubQ X Tryz.f20 0 (fun (r : Bool) => (CRes.ret (.d (.bool r)) [])) (fun (_ : Unit) => (⟨[(0, .d (.str s))], [], 0, [], none⟩ : St)) res)) ⟨[(0, .d (.str s)), (6, .d (iZ (List.length s : Int))), (7, .d (iZ x))], [], 0, [], none⟩) := by
 refine p_core_Name_l0.partial_correctness _ ?_
 rintro p_core_Name_l0' ih ⟨s, x⟩ res h
 refine lg I (ra I (S_ ?_))
 rcases E_ h with ⟨hc, h⟩ | ⟨hc, h⟩
 ·refine ct I hc (K_ (cn I (N_ (S_ ?_))))
  obtain ⟨res, hs, h⟩ := B h
  refine awp_sub Tryz.f20 0 (fun (r : Bool) => (CRes.ret (.d (.bool r)) [])) (fun (_ : Unit) => (⟨[(0, .d (.str s)), (6, .d (iZ (List.length s : Int))), (7, .d (iZ x))], [], 0, [], none⟩ : St)) (res := res) ?_ (fun y hy => ?_) (fun r x s' hr hx he => ?_)
  ·replace h := hs
   refine W_ (ra I (S_ (rn 2 I ?_)))
   obtain ⟨c, hk, h⟩ := B h
   refine po (esget hk I I I I) I I (on 2 I ?_)
   rcases E_ h with ⟨hc, h⟩ | ⟨hc, h⟩
   ·refine gt I I I I hc I (on 2 I ?_)
    obtain ⟨c1, hk, h⟩ := B h
    refine po (esget hk I I I I) I I (on 3 I (rz (S_ (rn 3 I ?_))))
    rcases E_ h with ⟨hc, h⟩ | ⟨hc, h⟩
    ·refine gt I I I I hc I (on 3 I ?_)
     rcases E_ h with ⟨hc, h⟩ | ⟨hc, h⟩
     ·refine gt I I I I hc I (on 12 I (rz (ct I I (ra I (R_ (C_ (exitQ.ret ?_)))))))
      cases h
      exact .err I (.ret I I)
     refine gf I I I I hc I (on 2 I ?_)
     obtain ⟨c2, hk, h⟩ := B h
     refine po (esget hk I I I I) I I (on 3 I ?_)
     rcases E_ h with ⟨hc, h⟩ | ⟨hc, h⟩
     ·refine gt I I I I hc I (on 6 I (rz (ct I I (ra I (R_ (C_ (exitQ.ret ?_)))))))
      cases h
      exact .err I (.ret I I)
     refine gf I I I I hc I (on 2 I ?_)
     obtain ⟨c3, hk, h⟩ := B h
     refine po (esget hk I I I I) I I (on 3 I (rz ?_))
     rcases E_ h with ⟨hc, h⟩ | ⟨hc, h⟩
     ·refine ct I hc (ra I (R_ (C_ (exitQ.ret ?_))))
      cases h
      exact .err I (.ret I I)
     refine cf I hc (K_ (cn I (en I ?_)))
     cases h
     exact .ok I
    refine gf I I I I hc I (on 15 I (rz (cf I I (K_ (cn I (en I ?_))))))
    cases h
    exact .ok I
   refine gf I I I I hc I (on 6 I (rz (S_ (rn 6 I ?_))))
   rcases E_ h with ⟨hc, h⟩ | ⟨hc, h⟩
   ·refine gt I I I I hc I (on 12 I (rz (ct I I (ra I (R_ (C_ (exitQ.ret ?_)))))))
    cases h
    exact .err I (.ret I I)
   refine gf I I I I hc I (on 2 I ?_)
   obtain ⟨c4, hk, h⟩ := B h
   refine po (esget hk I I I I) I I (on 3 I ?_)
   rcases E_ h with ⟨hc, h⟩ | ⟨hc, h⟩
   ·refine gt I I I I hc I (on 6 I (rz (ct I I (ra I (R_ (C_ (exitQ.ret ?_)))))))
    cases h
    exact .err I (.ret I I)
   refine gf I I I I hc I (on 2 I ?_)
   obtain ⟨c5, hk, h⟩ := B h
   refine po (esget hk I I I I) I I (on 3 I (rz ?_))
   rcases E_ h with ⟨hc, h⟩ | ⟨hc, h⟩
   ·refine ct I hc (ra I (R_ (C_ (exitQ.ret ?_))))
    cases h
    exact .err I (.ret I I)
   refine cf I hc (K_ (cn I (en I ?_)))
   cases h
   exact .ok I
  ·subst hy
   refine N_ (rn 2 I (O_ (loopQ.normal ?_)))
   exact awpL_at I I (ih _ _ h)
  subst hr
  refine seqQ.out hx (loopQ.out hx (exitQ.out hx ?_))
  cases h
  exact .err hx he
 refine cf I hc (X_ (condQ.exit (seqQ.exit (loopQ.exit (eh I ?_)))))
 cases h
 exact .ok I
theorem p_core_Name_ok {s : Str} {r : Bool} (h : p_core_Name s = some r) : aval X 20 [.d (.str s)] [] (CRes.ret (.d (.bool r)) []) := by
 unfold p_core_Name at h
 refine aval_start (tm := [(0, .d (.str s))]) (hp := []) (n := 0) I Tryz.func20 I I I I I I (ra I (S_ (ra I ?_)))
 obtain ⟨res, hs, h⟩ := B h
 refine awp_sub Tryz.f20 0 (fun (r : Bool) => (CRes.ret (.d (.bool r)) [])) (fun (_ : Unit) => (⟨[(0, .d (.str s))], [], 0, [], none⟩ : St)) (res := res) ?_ (fun y hy => ?_) (fun r x s' hr hx he => ?_)
 ·replace h := hs
  refine W_ (awp_loop ?_)
  exact awpL_at I I (p_core_Name_l0_ok _ _ h)
 ·subst hy
  refine N_ (S_ (rn 4 I ?_))
  rcases E_ h with ⟨hc, h⟩ | ⟨hc, h⟩
  ·refine gt I I I I hc I (on 5 I (rz (R_ ?_)))
   cases h
   exact .ret I I
  refine gf I I I I hc I (on 5 I (rz (R_ ?_)))
  cases h
  exact .ret I I
 subst hr
 refine seqQ.out hx ?_
 cases h
 exact he
theorem p_grammar_Parse_1_p_ok {e : Fault} {a_ : Node} {a_1 : Fault} {r : Int × Int × Str × (List Int) × (List Cell) × (List Node) × Int × Int × Int × Int} (h : p_grammar_Parse_1_p e a_ a_1 = some r) : avalD X (some (.iface 34 (encFault e))) 32 [.ptr 0 0, .ptr 1 0] [[.d (iZ a_.kind), .d (iZ a_.op_), .d (.str a_.name), .d (lI a_.lit.shape), .d (lC a_.lit.cells), .d (lN a_.kids), .d (iZ a_.at_)], [.d (iZ a_1.err), .d (iZ a_1.at_), .d (iZ a_1.why)]] (CRes.ret (.tuple []) [[.d (iZ r.1), .d (iZ r.2.1), .d (.str r.2.2.1), oI r.2.2.2.1, oC r.2.2.2.2.1, oN r.2.2.2.2.2.1, .d (iZ r.2.2.2.2.2.2.1)], [.d (iZ r.2.2.2.2.2.2.2.1), .d (iZ r.2.2.2.2.2.2.2.2.1), .d (iZ r.2.2.2.2.2.2.2.2.2)]]) := by
 unfold p_grammar_Parse_1_p at h
 refine avalD_rstart (tm := [(2, .d (.iface 34 (encFault e))), (5, .d (.iface 34 (encFault e))), (0, .c (.ptr 0 0)), (1, .c (.ptr 1 0))]) (hp := [(0, [.d (iZ a_.kind), .d (iZ a_.op_), .d (.str a_.name), .d (lI a_.lit.shape), .d (lC a_.lit.cells), .d (lN a_.kids), .d (iZ a_.at_)]), (1, [.d (iZ a_1.err), .d (iZ a_1.at_), .d (iZ a_1.why)])]) (n := 2) Tryz.func32 I I I I I I I I (ra I (ct I I (ra (nid' := 3) I (S_ (ra I (cf I I (K_ (cn I (N_ (drn (m := 7) 4 I I (dz' (by kernel_rfl) (cn I ?_))))))))))))
 cases h
 exact ⟨⟨.inl I, I, I⟩⟩
theorem p_grammar_Parse_1_p_2_ok {e : Fault} {a_ : Node} {a_1 : Fault} {r : Int × Int × Str × (List Int) × (List Cell) × (List Node) × Int × Int × Int × Int} (h : p_grammar_Parse_1_p_2 e a_ a_1 = some r) : avalD X (some (.iface 34 (encFault e))) 32 [.ptr 0 0, .ptr 1 0] [[.d (iZ a_.kind), .d (iZ a_.op_), .d (.str a_.name), oI a_.lit.shape, oC a_.lit.cells, oN a_.kids, .d (iZ a_.at_)], [.d (iZ a_1.err), .d (iZ a_1.at_), .d (iZ a_1.why)]] (CRes.ret (.tuple []) [[.d (iZ r.1), .d (iZ r.2.1), .d (.str r.2.2.1), oI r.2.2.2.1, oC r.2.2.2.2.1, oN r.2.2.2.2.2.1, .d (iZ r.2.2.2.2.2.2.1)], [.d (iZ r.2.2.2.2.2.2.2.1), .d (iZ r.2.2.2.2.2.2.2.2.1), .d (iZ r.2.2.2.2.2.2.2.2.2)]]) := by
 unfold p_grammar_Parse_1_p_2 at h
 refine avalD_rstart (tm := [(2, .d (.iface 34 (encFault e))), (5, .d (.iface 34 (encFault e))), (0, .c (.ptr 0 0)), (1, .c (.ptr 1 0))]) (hp := [(0, [.d (iZ a_.kind), .d (iZ a_.op_), .d (.str a_.name), oI a_.lit.shape, oC a_.lit.cells, oN a_.kids, .d (iZ a_.at_)]), (1, [.d (iZ a_1.err), .d (iZ a_1.at_), .d (iZ a_1.why)])]) (n := 2) Tryz.func32 I I I I I I I I (ra I (ct I I (ra (nid' := 3) I (S_ (ra I (cf I I (K_ (cn I (N_ (drn (m := 7) 4 I I (dz' (by kernel_rfl) (cn I ?_))))))))))))
 cases h
 exact ⟨⟨.inl I, I, I⟩⟩
theorem p_grammar_Parse_1_q_ok {a_ : Node} {a_1 : Fault} {r : Unit} (h : p_grammar_Parse_1_q a_ a_1 = some r) : avalD X none 32 [.ptr 0 0, .ptr 1 0] [[.d (iZ a_.kind), .d (iZ a_.op_), .d (.str a_.name), .d (lI a_.lit.shape), .d (lC a_.lit.cells), .d (lN a_.kids), .d (iZ a_.at_)], [.d (iZ a_1.err), .d (iZ a_1.at_), .d (iZ a_1.why)]] (CRes.ret (.tuple []) [[.d (iZ a_.kind), .d (iZ a_.op_), .d (.str a_.name), .d (lI a_.lit.shape), .d (lC a_.lit.cells), .d (lN a_.kids), .d (iZ a_.at_)], [.d (iZ a_1.err), .d (iZ a_1.at_), .d (iZ a_1.why)]]) := by
 unfold p_grammar_Parse_1_q at h
 refine avalD_rstart (tm := [(2, .d .nilIface), (5, .d .nilIface), (0, .c (.ptr 0 0)), (1, .c (.ptr 1 0))]) (hp := [(0, [.d (iZ a_.kind), .d (iZ a_.op_), .d (.str a_.name), .d (lI a_.lit.shape), .d (lC a_.lit.cells), .d (lN a_.kids), .d (iZ a_.at_)]), (1, [.d (iZ a_1.err), .d (iZ a_1.at_), .d (iZ a_1.why)])]) (n := 2) Tryz.func32 I I I I I I I I (ra I (cf I I (K_ (cn I ?_))))
 cases h
 exact ⟨⟨.inl I, I, I⟩⟩
theorem p_grammar_parser_fail_ok {e : Int} {i : Int} {p : Grammar_parser} {r : Except (Fault) (Unit)} (h : p_grammar_parser_fail e i p = some r) : aval X 34 [.ptr 0 0, .d (iZ e), .d (iZ i)] [(pC p.g p.l p.i p.end_ p.deep p.in_)] (match (generalizing := false) r with | .ok r => (CRes.ret (.tuple []) [(pC p.g p.l p.i p.end_ p.deep p.in_)]) | .error r => (CRes.pan (.iface 34 (encFault r)) [(pC p.g p.l p.i p.end_ p.deep p.in_)])) := by
 unfold p_grammar_parser_fail at h
 refine aval_start (tm := [(0, .c (.ptr 0 0)), (1, .d (iZ e)), (2, .d (iZ i))]) (hp := [(0, (pC p.g p.l p.i p.end_ p.deep p.in_))]) (n := 1) I Tryz.func34 I I I I I I (ra I (S_ (S_ (rn 5 I (po (ellen I I I I I I I) I I (on 1 I (rz ?_)))))))
 obtain ⟨at_, hs, h⟩ := B h
 refine awp_nrm (fun (at_ : Int) => (⟨[(1, .d (iZ e)), (6, .d (iZ at_))], [(0, (pC p.g p.l p.i p.end_ p.deep p.in_))], 1, [], none⟩ : St)) (y := at_) ?_ ?_
 ·replace h := hs
  rcases E_ h with ⟨hc, h⟩ | ⟨hc, h⟩
  ·refine ct I hc (rn 5 I ?_)
   obtain ⟨y, hk, h⟩ := B h
   refine po (elget encToken (fun _ => I) hk I I I I I) I I (on 3 I (O_ (cn I ?_)))
   cases h
   exact .ok I
  refine cf I hc (K_ (cn I ?_))
  cases h
  exact .ok I
 refine N_ (rn 4 I (pp (epanic fun _ => I) I I ?_))
 cases h
 exact .pan I I
theorem p_grammar_parser_down_ok {p : Grammar_parser} {r : Except (Fault × Int) (Int)} (h : p_grammar_parser_down p = some r) : aval X 54 [.ptr 0 0] [(pC p.g p.l p.i p.end_ p.deep p.in_)] (match (generalizing := false) r with | .ok r => (CRes.ret (.tuple []) [(pC p.g p.l p.i p.end_ r p.in_)]) | .error r => (CRes.pan (.iface 34 (encFault r.1)) [(pC p.g p.l p.i p.end_ r.2 p.in_)])) := by
 unfold p_grammar_parser_down at h
 refine aval_start (tm := [(0, .c (.ptr 0 0))]) (hp := [(0, (pC p.g p.l p.i p.end_ p.deep p.in_))]) (n := 1) I Tryz.func54 I I I I I I (ra I (ra I ?_))
 rcases E_ h with ⟨hc, h⟩ | ⟨hc, h⟩
 ·refine ct I hc (rn 5 I ?_)
  obtain ⟨res, hk, h⟩ := B h
  rcases res with e | y
  ·refine pp (ecallp (p_grammar_parser_fail_ok hk) I I I I I I I I I I) I I (P_ ?_)
   cases h
   exact .pan I I
  refine po (ecallb (nid' := 1) (p_grammar_parser_fail_ok hk) I I I I I I I I I I I I) I I (O_ (cn I ?_))
  cases h
  exact .normal I I
 refine cf I hc (K_ (cn I ?_))
 cases h
 exact .normal I I
theorem p_grammar_parser_expr_1_ok {pan : Option D} {b : Grammar_parser} {r : Int} (h : p_grammar_parser_expr_1 b = some r) : avalD X pan 55 [.ptr 0 0] [[.ptr 1 0], (pC b.g b.l b.i b.end_ b.deep b.in_)] (CRes.ret (.tuple []) [[.ptr 1 0], (pC b.g b.l b.i b.end_ r b.in_)]) := by
 unfold p_grammar_parser_expr_1 at h
 refine avalD_start (tm := [(0, .c (.ptr 0 0))]) (hp := [(0, [.ptr 1 0]), (1, (pC b.g b.l b.i b.end_ b.deep b.in_))]) (n := 2) Tryz.func55 I I I I I I (rn 8 I (O_ ?_))
 cases h
 exact ⟨⟨.inl I, I, I⟩⟩
theorem p_grammar_parser_function_1_ok {pan : Option D} {b : Grammar_parser} {r : Int} (h : p_grammar_parser_function_1 b = some r) : avalD X pan 95 [.ptr 0 0] [[.ptr 1 0], (pC b.g b.l b.i b.end_ b.deep b.in_)] (CRes.ret (.tuple []) [[.ptr 1 0], (pC b.g b.l b.i b.end_ r b.in_)]) := by
 unfold p_grammar_parser_function_1 at h
 refine avalD_start (tm := [(0, .c (.ptr 0 0))]) (hp := [(0, [.ptr 1 0]), (1, (pC b.g b.l b.i b.end_ b.deep b.in_))]) (n := 2) Tryz.func95 I I I I I I (rn 8 I (O_ ?_))
 cases h
 exact ⟨⟨.inl I, I, I⟩⟩
theorem p_grammar_parser_here_ok {p : Grammar_parser} {r : Int} (h : p_grammar_parser_here p = some r) : aval X 56 [.ptr 0 0] [(pC p.g p.l p.i p.end_ p.deep p.in_)] (CRes.ret (.d (iZ r)) [(pC p.g p.l p.i p.end_ p.deep p.in_)]) := by
 unfold p_grammar_parser_here at h
 refine aval_start (tm := [(0, .c (.ptr 0 0))]) (hp := [(0, (pC p.g p.l p.i p.end_ p.deep p.in_))]) (n := 1) I Tryz.func56 I I I I I I (ra I (S_ (S_ (drn (m := 11) 8 I I (pd (ellen I I I I I I I) I I I I I (don 1 I (dz (by kernel_rfl) ?_)))))))
 rcases E_ h with ⟨hc, h⟩ | ⟨hc, h⟩
 ·refine ct I hc (S_ (drn (m := 23) 8 I I ?_))
  obtain ⟨y, hk, h⟩ := B h
  refine pd (elget encToken (fun _ => I) hk I I I I I) I I I I I (don 3 I (dz (by kernel_rfl) (R_ (C_ (Q_ ?_)))))
  cases h
  exact .ret I I
 refine cf I hc (K_ (cn I (N_ (ra I (R_ ?_)))))
 cases h
 exact .ret I I
theorem p_grammar_parser_is_ok {i : Int} {kind : Int} {text : Str} {p : Grammar_parser} {r : Bool} (h : p_grammar_parser_is i kind text p = some r) : aval X 90 [.ptr 0 0, .d (iZ i), .d (iZ kind), .d (.str text)] [(pC p.g p.l p.i p.end_ p.deep p.in_)] (CRes.ret (.d (.bool r)) [(pC p.g p.l p.i p.end_ p.deep p.in_)]) := by
 unfold p_grammar_parser_is at h
 refine aval_start (tm := [(0, .c (.ptr 0 0)), (1, .d (iZ i)), (2, .d (iZ kind)), (3, .d (.str text))]) (hp := [(0, (pC p.g p.l p.i p.end_ p.deep p.in_))]) (n := 1) I Tryz.func90 I I I I I I (ra I (S_ (rn 5 I (po (ellen I I I I I I I) I I (on 2 I ?_)))))
 rcases E_ h with ⟨hc, h⟩ | ⟨hc, h⟩
 ·refine gt I I I I hc I (on 5 I ?_)
  obtain ⟨y, hk, h⟩ := B h
  refine po (elget encToken (fun _ => I) hk I I I I I) I I (on 6 I ?_)
  rcases E_ h with ⟨hc, h⟩ | ⟨hc, h⟩
  ·refine gt I I I I hc I (on 5 I ?_)
   obtain ⟨y1, hk, h⟩ := B h
   refine po (elget encToken (fun _ => I) hk I I I I I) I I (on 6 I ?_)
   rcases E_ h with ⟨hc, h⟩ | ⟨hc, h⟩
   ·refine gt I I I I hc I (on 4 I (rz (R_ ?_)))
    cases h
    exact .ret I I
   refine gf I I I I hc I (on 4 I (rz (R_ ?_)))
   cases h
   exact .ret I I
  refine gf I I I I hc I (on 16 I (rz (R_ ?_)))
  cases h
  exact .ret I I
 refine gf I I I I hc I (on 28 I (rz (R_ ?_)))
 cases h
 exact .ret I I
theorem p_grammar_times_ok {a_ : Arr} {r : Int × Bool} (h : p_grammar_times a_ = some r) : aval X 60 [.d (encArr a_)] [] (CRes.ret (.tuple [.d (iZ r.1), .d (.bool r.2)]) []) := by
 unfold p_grammar_times at h
 refine aval_start (tm := [(0, .d (encArr a_))]) (hp := []) (n := 0) I Tryz.func60 I I I I I I (ra (nid' := 1) I (S_ (S_ (rn 2 I (po (ellen I I I I I I I) I I (on 2 I ?_))))))
 rcases E_ h with ⟨hc, h⟩ | ⟨hc, h⟩
 ·refine gt I I I I hc I (on 29 I (rz (ct I I (ra I (R_ (C_ (Q_ ?_)))))))
  cases h
  exact .ret I I
 refine gf I I I I hc I (on 2 I (po (ellen I I I I I I I) I I (on 3 I ?_)))
 rcases E_ h with ⟨hc, h⟩ | ⟨hc, h⟩
 ·refine gt I I I I hc I (on 23 I (rz (ct I I (ra I (R_ (C_ (Q_ ?_)))))))
  cases h
  exact .ret I I
 refine gf I I I I hc I (on 2 I ?_)
 obtain ⟨y, hk, h⟩ := B h
 refine po (elget encCell (fun _ => I) hk I I I I I) I I (on 5 I ?_)
 rcases E_ h with ⟨hc, h⟩ | ⟨hc, h⟩
 ·refine gt I I I I hc I (on 15 I (rz (ct I I (ra I (R_ (C_ (Q_ ?_)))))))
  cases h
  exact .ret I I
 refine gf I I I I hc I (on 2 I ?_)
 obtain ⟨y1, hk, h⟩ := B h
 refine po (elget encCell (fun _ => I) hk I I I I I) I I (on 5 I ?_)
 rcases E_ h with ⟨hc, h⟩ | ⟨hc, h⟩
 ·refine gt I I I I hc I (on 7 I (rz (ct I I (ra I (R_ (C_ (Q_ ?_)))))))
  cases h
  exact .ret I I
 refine gf I I I I hc I (on 2 I ?_)
 obtain ⟨y2, hk, h⟩ := B h
 refine po (elget encCell (fun _ => I) hk I I I I I) I I (on 4 I (rz ?_))
 rcases E_ h with ⟨hc, h⟩ | ⟨hc, h⟩
 ·refine ct I hc (ra I (R_ (C_ (Q_ ?_))))
  cases h
  exact .ret I I
 refine cf I hc (K_ (cn I (N_ (S_ (rn 2 I ?_)))))
 obtain ⟨y3, hk, h⟩ := B h
 refine po (elget encCell (fun _ => I) hk I I I I I) I I (on 4 I (rz (R_ ?_)))
 cases h
 exact .ret I I
end Go.AM.Seat
