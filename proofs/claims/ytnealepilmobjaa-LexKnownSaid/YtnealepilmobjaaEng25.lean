/-
  The engine, part 25: the rules of part 24, as one fact.
-/
import Derived.Test.YtnealepilmobjaaEng24
set_option linter.defProp false
namespace Go.Eng
def M0 :=
  And.intro @callM_mk <|
  And.intro @hasR_nil <|
  And.intro @hasR_cons <|
  And.intro @outR_nil <|
  And.intro @outR_cons <|
  And.intro @outB_t <|
  And.intro @outB_f <|
  And.intro @avstrike_any <|
  And.intro @avstrike_c <|
  And.intro @avstrike_agg <|
  And.intro @avstrike_tup0 <|
  And.intro @avstrike_tup <|
  And.intro @rowstrike_tr <|
  And.intro @rowstrike_bx <|
  And.intro @strike_any <|
  And.intro @strike_t <|
  And.intro @strike_elt <|
  And.intro @strike_fn <|
  And.intro @strike_row <|
  And.intro @strike_ptr <|
  And.intro @anyB_t <|
  And.intro @anyB_f <|
  And.intro @avown_any <|
  And.intro @avown_c <|
  And.intro @avown_agg <|
  And.intro @avown_tup <|
  And.intro @avown1_c <|
  And.intro @avown1_any <|
  And.intro @rowown_tr <|
  And.intro @rowown_bx <|
  And.intro @own_any <|
  And.intro @own_t <|
  And.intro @own_elt <|
  And.intro @own_fn <|
  And.intro @own_row <|
  And.intro @own_ptr <|
  And.intro @ren_mk <|
  And.intro @renL_nil <|
  And.intro @renL_cons <|
  And.intro @renB_t <|
  And.intro @renB_ft <|
  And.intro @renB_ff <|
  And.intro @avren_any <|
  And.intro @avren_c <|
  And.intro @avren_agg <|
  And.intro @avren_tup0 <|
  And.intro @avren_tup <|
  And.intro @rowren_tr <|
  And.intro @rowren_bx <|
  And.intro @ren_any <|
  And.intro @ren_t <|
  And.intro @ren_elt <|
  And.intro @ren_fn <|
  And.intro @ren_row <|
  And.intro @ren_ptr <|
  And.intro @renCB_t <|
  And.intro @renCB_ft <|
  And.intro @renCB_ff <|
  And.intro @Bool.or_true <|
  And.intro @Bool.or_false <|
  And.intro @Bool.true_or <|
  @Bool.false_or
end Go.Eng
