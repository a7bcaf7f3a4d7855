import Derived.WalkKit
import Derived.KernelRfl
import Derived.Lib.LaidTab
import Derived.Lib.ItoaNum
import Derived.Test.YthdbapalogijdaaGreatDoorProg
namespace Go.Proofs.YthdbapalogijdaaGreatDoor
open Go
def gN:Nat:=8
def GF(w:World):Prop:=(∃ m,w.cell? ⟨0,0,none⟩=some (.int .i64 m))∧Lib.TabIs Tryz.prog w "internal/strconv.uint64pow10" .u64 Lib.pow10Tab∧(∃ t u,w.cell? ⟨6,0,none⟩=some (.iface t u))∧∃ t u,w.cell? ⟨7,0,none⟩=some (.iface t u)
theorem Jm3{w:World}(h:GF w):Lib.TabIs Tryz.prog w "internal/strconv.uint64pow10" .u64 Lib.pow10Tab:=h.2.1
theorem yV{w w':World}(h:GF w)(_:w.heap.size≤w'.heap.size)(hb:∀ b,b<gN->w'.heap[b]?=w.heap[b]?):GF w':=by
 obtain⟨⟨m,hm⟩,ht,⟨t1,u1,h1⟩,t2,u2,h2⟩:=h;have b1:=hb 0 (by decide);have b2:=hb 1 (by decide);have b3:=hb 6 (by decide);have b4:=hb 7 (by decide);refine⟨⟨m,by rw[←hm];simp only[World.cell?,b1]⟩,?_,⟨t1,u1,by rw[←h1];simp only[World.cell?,b3]⟩,t2,u2,by rw[←h2];simp only[World.cell?,b4]⟩;have hg:Tryz.prog.globalNamed "internal/strconv.uint64pow10"=some 1:=by kernel_rfl
 unfold Lib.TabIs World.var? at ht ⊢;rw[←ht,hg];simp only[Option.bind_some,b2]
theorem om{p:Prop}(h:p:=by omega):p:=h
theorem ox{p:Prop}(h:p:=by kernel_rfl):p:=h
theorem oz{p:Prop}(h:p:=by as_aux_lemma=>kernel_rfl):p:=h
theorem oc{p:Prop}(h:p:=by decide):p:=h
theorem oe{p:Prop}(h:p:=by rfl):p:=h
theorem oh{p:Prop}(h:p:=by simp):p:=h
theorem oi{p:Prop}(h:p:=by assumption):p:=h
theorem oj{p:Prop}(h:p:=by simp;omega):p:=h
theorem ol{p:Prop}(h:p:=by grind):p:=h
theorem oo{p:Prop}(h:p:=by simp_all):p:=h
abbrev oq:=@if_neg
abbrev ot:=@if_pos
abbrev ou:=@decide_eq_true
abbrev ov:=@decide_eq_false
abbrev ow:=@Bool.not_true
abbrev xm:=@List.getElem?_eq_getElem
abbrev xn:=@Bool.not_false
abbrev xr:=@Nat.lt_of_lt_of_le
abbrev xd:=@List.length_cons
abbrev xx:=@Nat.zero_add
abbrev xy:=@Nat.eq_of_beq_eq_true
abbrev xz:=@Nat.le_trans
abbrev xa:=@List.drop_eq_getElem_cons
abbrev xb:=@Nat.mod_eq_of_lt
abbrev xc:=@List.take_of_length_le
abbrev xe:=@Nat.le_refl
abbrev xf:=@List.length_map
abbrev xg:=@Nat.add_zero
abbrev xh:=@Nat.lt_of_le_of_lt
abbrev xi:=@List.nil_append
abbrev xj:=@List.takeWhile_cons
abbrev xk:=@List.mem_cons
abbrev xl:=@List.drop_of_length_le
abbrev xo:=@List.length_append
abbrev xp:=@Bool.and_eq_true
abbrev xq:=@Array.getElem?_toList
abbrev xt:=@List.map_cons
abbrev xu:=@Nat.zero_le
abbrev xv:=@List.mem_map
abbrev xw:=@List.getElem?_append_right
abbrev ym:=@Nat.le_of_ble_eq_true
abbrev yn:=@List.length_nil
abbrev yr:=@List.cons_append
abbrev yd:=@Option.map_some
abbrev yx:=@Nat.lt_or_ge
abbrev yy:=@Nat.div_div_eq_div_mul
abbrev yz:=@List.mem_append
abbrev ya:=@UInt8.toNat_inj
abbrev yb:=@Option.bind_some
abbrev ye:=@List.append_assoc
abbrev yf:=@decide_true
abbrev yg:=@Nat.min_eq_left
abbrev yh:=@List.length_drop
abbrev yi:=@List.length_take
abbrev yj:=@congrArg
abbrev yo:=@Nat.mod_lt
abbrev yp:=@List.take_length
abbrev yq:=@decide_eq_true_eq
abbrev yt:=@if_true
abbrev yu:=@Array.getElem?_eq_getElem
abbrev yv:=@List.take_succ_cons
abbrev yw:=@Nat.mul_le_mul_left
abbrev um:=@List.take_append_drop
abbrev ur:=@Int.toNat_natCast
abbrev ud:=@Nat.add_sub_cancel_left
abbrev uy:=@Nat.div_add_mod
abbrev uz:=@List.getElem_mem
abbrev ua:=@List.replicate_succ
abbrev uc:=@Nat.mul_assoc
abbrev ue:=@List.drop_drop
abbrev uf:=@List.getElem?_eq_none
abbrev ug:=@List.length_singleton
abbrev uh:=@Array.getD_eq_getD_getElem?
abbrev ui:=@Nat.pow_le_pow_right
abbrev uj:=@Nat.mul_zero
abbrev uo:=@Nat.mul_le_mul
abbrev uq:=@List.getElem?_map
abbrev ut:=@Option.getD_some
abbrev uv:=@List.all_eq_true
abbrev uw:=@List.mem_singleton
abbrev vm:=@Nat.pow_add
abbrev vn:=@List.mem_cons_of_mem
abbrev vr:=@Array.ext'
abbrev vd:=@Nat.mul_le_mul_right
abbrev vz:=@Bool.or_eq_false_iff
abbrev va:=@List.map_map
abbrev vb:=@decide_false
abbrev vc:=@Nat.div_eq_of_lt
abbrev ve:=@List.mem_cons_self
abbrev vf:=@List.getElem?_take
abbrev vg:=@List.singleton_append
abbrev vh:=@Nat.div_le_self
abbrev vi:=@List.map_append
abbrev vj:=@List.append_nil
abbrev vk:=@Bool.not_eq_true'
abbrev vo:=@List.drop_succ_cons
abbrev vp:=@List.dropWhile_cons
abbrev vq:=@List.map_congr_left
abbrev vt:=@decide_eq_decide
abbrev vu:=@Array.getElem?_eq_none
abbrev vv:=@Int.natAbs_natCast
abbrev vw:=@List.foldl_cons
abbrev wm:=@List.eq_nil_or_concat
abbrev wn:=@List.getD_eq_getElem?_getD
abbrev wd:=@of_decide_eq_true
abbrev wz:=@List.getElem?_append_left
abbrev wc:=@Nat.div_lt_of_lt_mul
abbrev we:=@Nat.add_mul_div_left
abbrev wf:=@List.getElem?_of_mem
abbrev wg:=@Rat.mkRat_self
abbrev wh:=@List.any_eq_true
abbrev wi:=@List.take_succ_eq_append_getElem
abbrev wj:=@Nat.mul_comm
abbrev wk:=@Nat.pow_lt_pow_iff_right
abbrev wo:=@Rat.mkRat_add_mkRat
abbrev wq:=@List.any_cons
abbrev wt:=@Nat.eq_zero_or_pos
abbrev Be:=List UInt8
abbrev Bf:=List Nat
end Go.Proofs.YthdbapalogijdaaGreatDoor
