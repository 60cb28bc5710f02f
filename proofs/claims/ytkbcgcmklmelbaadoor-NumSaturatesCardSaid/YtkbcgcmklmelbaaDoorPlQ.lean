/- The pure logic, part Q: what the walk's simp may open. -/
import Derived.Test.YtkbcgcmklmelbaaDoorPlP
namespace Go.PL
open Go Go.RowKit

attribute [go_sem] kindOf rdx rd bnd rdCall St.arg St.args St.ev St.get ofConst constC constL pickV stripB binV nilOp isConstO intOp strOp sameKind unV nilV extV optArg bnds
  St.put St.after St.look St.setCs St.cutAt St.freeze St.new St.kill Ent.kill St.start St.parts
  loadV toV fieldAddrV fieldV indexAddrV indexV sliceV lenV minV maxV intsOf convV bytesOK bytesT buildV fillC V.cells storeE appendE makeE buildSliceE PL.ef srcOf
  guardOf snapC snapV topC topV topVs killC killV C.men menL V.men menV C.flat V.flat flatVs C.pure pureL V.pure pureVs outV resV resVs frzC frzV frzVs St.okFrz
attribute [go_sem] List.getD_cons_zero List.getD_cons_succ List.set_cons_zero List.set_cons_succ List.map_cons List.map_nil List.filter_cons List.filter_nil List.find?_cons List.find?_nil
  List.cons_append List.nil_append List.length_cons List.length_nil List.replicate_succ List.replicate_zero List.take_succ_cons List.take_zero List.drop_succ_cons List.drop_zero List.flatMap_cons List.flatMap_nil List.append_nil
  List.all_cons List.all_nil Bool.and_true Bool.true_and Bool.and_false Bool.false_and Bool.or_false Bool.or_true Bool.false_or Bool.true_or
  beq_self_eq_true if_true if_false true_and and_true Option.map_some Option.map_none List.getElem?_cons_zero List.getElem?_cons_succ
theorem ite_tt {α : Type} (a b : α) : (if true = true then a else b) = a := rfl
theorem ite_ff {α : Type} (a b : α) : (if false = true then a else b) = b := rfl
theorem tt_tt : (true = true) = True := by simp
theorem ff_tt : (false = true) = False := by simp
theorem imp_tt (p : Prop) : (true = true → p) = p := by simp
theorem ite_ff' (b : Bool) : (if b then true else false) = b := by cases b <;> rfl
theorem beq_true' (b : Bool) : (b == true) = b := by cases b <;> rfl
theorem beq_false' (b : Bool) : (b == false) = !b := by cases b <;> rfl
theorem ite_and (b c : Bool) : (if b then c else false) = (b && c) := by cases b <;> rfl
theorem ite_or (b c : Bool) : (if b then true else c) = (b || c) := by cases b <;> rfl
attribute [go_sem] ite_tt ite_ff tt_tt ff_tt imp_tt ite_ff' beq_true' beq_false' ite_and ite_or Bool.not_true Bool.not_false Bool.not_not
end Go.PL
