import PyProof.Rows.All
import Wide.All
import OpenK.AllK
import Wide.FinOn
import Lean
import PySem.Challenge.RW_nt0078_01
open PySem PySem.W PyProof.Rows
set_option Elab.async false
set_option maxRecDepth 100000
set_option autoImplicit false
set_option linter.all false
set_option bootstrap.genMatcherCode false
set_option genSizeOf false
set_option genSizeOfSpec false
set_option genInjectivity false
set_option tactic.hygienic false
noncomputable section
namespace Mine
noncomputable def b9:=@List.casesOn
noncomputable def cP:=@Bool.casesOn
noncomputable def e9:=@Option.casesOn
noncomputable def gD:=@Nat.casesAuxOn
abbrev b5:=List<|Option String
abbrev bj:=List<|Option Int
abbrev aG:=List Nat
abbrev bk:=List Int
abbrev cz:=List Value
abbrev aY:=List String
abbrev bK:=Option Int
abbrev bL:=List Expr
abbrev dg:=Array Value
abbrev cJ:=Value->Shared->Prop
def qT:=@Array.getElem?_toList
def qU:=@Array.length_toList
def wd:=@PySem.AutoSeq1.wpAny_loadPart'
def cy:=@Bool.and_eq_true
def k8:=@Bool.and_eq_true_iff
def gE:=@Bool.false_ne_true
def tD:=@Bool.not_eq_false'
def k9:=@Bool.not_eq_true'
def qV:=@Bool.or_eq_true_iff
def qW:=@Bool.true_and
def jq:=@PySem.Heap.get?_push_of_some
def ik:=@PySem.Heap.get?_push_size
def fJ:=@PySem.Heap.lt_size
def kq:=@Int.le_antisymm
def iX:=@Int.le_of_eq
def k_:=@Int.le_refl
def iY:=@Int.natCast_nonneg
def bN:=@Int.ofNat_le
def oi:=@Int.ofNat_lt
def qX:=@Int.self_le_toNat
def we:=@List.Pairwise.filter
def oj:=@List.all_cons
def gj:=@List.all_eq_true
def qY:=@List.any_cons
def pM:=@List.append_nil
def qZ:=@List.cons.inj
def tE:=@List.cons_ne_nil
def tF:=@List.countP_cons
def tG:=@List.drop_eq_getElem_cons
def lg:=@List.filterMap_cons
def q3:=@List.filter_cons
def pN:=@List.foldl_cons
def fV:=@List.getD_eq_getElem?_getD
def iZ:=@List.getElem?_append_left
def ku:=@List.getElem?_append_right
def eE:=@List.getElem?_eq_getElem
def gO:=@List.getElem?_eq_none
def tH:=@List.getElem?_inj
def cQ:=@List.getElem?_map
def kA:=@List.getElem?_of_mem
def lU:=@List.getElem?_range
def jr:=@List.getElem?_set_ne
def jL:=@List.getElem?_set_self
def tJ:=@List.getElem?_take_of_lt
def tK:=@List.getElem_mem
def wg:=@List.getLast?_eq_some_getLast
def wh:=@List.getLast?_eq_some_iff
def lh:=@List.isEmpty_iff
def gF:=@List.length_append
def i4:=@List.length_cons
def pO:=@List.length_drop
def bI:=@List.length_map
def tL:=@List.length_range
def i5:=@List.length_set
def gU:=@List.length_take
def m8:=@List.lookup_cons
def kB:=@List.map_append
def m9:=@List.map_congr_left
def fK:=@List.map_cons
def i6:=@List.map_map
def tM:=@List.map_reverse
def dR:=@List.mem_append
def q4:=@List.mem_append_left
def eO:=@List.mem_cons
def dh:=@List.mem_cons_of_mem
def cR:=@List.mem_cons_self
def bV:=@List.mem_map
def q5:=@List.mem_map_of_mem
def dY:=@List.mem_of_getElem?
def q6:=@List.mem_of_mem_getLast?
def jM:=@List.mem_range
def dO:=@List.mem_singleton
def kC:=@List.nodup_cons
def wj:=@List.nodup_iff_pairwise_ne
def kD:=@List.pairwise_append
def pP:=@List.pairwise_cons
def pQ:=@List.pairwise_map
def pR:=@List.reverse_cons
def om:=@List.size_toArray
def pS:=@List.take_add_one
def q7:=@List.take_append_drop
def m_:=@List.take_length
def tO:=@List.take_of_length_le
def nc:=@List.toList_toArray
def tP:=@Nat.add_sub_cancel_left
def b_:=@Nat.eq_of_beq_eq_true
def jt:=@Nat.le_add_right
def eI:=@Nat.le_antisymm
def cj:=@Nat.le_of_eq
def bY:=@Nat.le_refl
def eR:=@Nat.le_trans
def q8:=@Nat.lt_irrefl
def oq:=@Nat.lt_of_lt_of_le
def dm:=@Nat.lt_or_ge
def q9:=@Nat.lt_trichotomy
def oz:=@Nat.min_eq_left
def jN:=@Nat.min_le_left
def lV:=@Nat.min_le_right
def gP:=@Nat.ne_of_lt
def tQ:=@Nat.not_lt_of_le
def q_:=@Nat.not_lt_zero
def nf:=@Nat.sub_le
def pT:=@Nat.sub_self
def ng:=@Nat.succ.inj
def ju:=@Nat.succ_le_of_lt
def tR:=@Nat.succ_le_succ
def iF:=@Nat.zero_le
def tU:=@Option.isNone_iff_eq_none
def nh:=@Option.isSome_iff_exists
def gV:=@Option.map_eq_some_iff
def aK:=@Option.some.inj
def jv:=@Prod.mk.inj
def wm:=@PySem.F.slot_dict_get
def tV:=@beq_eq_false_iff_ne
def gQ:=@beq_iff_eq
def rf:=@decide_eq_decide
def dG:=@decide_eq_false
def di:=@decide_eq_true
def ff:=@decide_eq_true_iff
def bO:=@if_neg
def bw:=@if_pos
def iG:=@PySem.mem_of_lookup
def lW:=@of_decide_eq_false
def cG:=@of_decide_eq_true
def a_:=@PySem.wpAny_bind
def tW:=@PySem.wpAny_callSpecial?_slot
def jw:=@PySem.wpAny_field
def bz:=@PySem.wpAny_mono
def wo:=@PySem.wpAny_nextOf_list_item
def cF:=@PySem.wpAny_pure
def pU:=@PySem.wpAny_seqItems
def lj:=@PySem.wpAny_setField_rec
def pV:=@PySem.wpAny_truthy_bool
section
variable {A B C D E F G:Sort _}{z1 z2 z3 z4 z5 z6 z7 z8:Prop}{y1 y2 y3 y4 y5 y6 y7 y8:A->Prop}{x1 x2 x3 x4 x5 x6 x7:A->B->Prop}{w1 w2 w3 w4 w5 w6:A->B->C->Prop}{v1 v2 v3 v4 v5 v6 v7:A->B->C->D->Prop}{u1 u2 u3 u4 u5 u6 u7 u8:A->B->C->D->E->Prop}{t1:A->B->C->D->E->F->Prop}{s1 s2:A->B->C->D->E->F->G->Prop}{K:Prop}
theorem U1(h:z1/\z2)(k:z1->z2->K):K:=k h.1 h.2
theorem Pe(h:z1/\∃a b,x1 a b/\x2 a b)(k:z1->∀a b,x1 a b->x2 a b->K):K:=h.2.elim λa m=>m.elim λb n=>k h.1 a b n.1 n.2
theorem Pf(h:z1/\∃a b c,w1 a b c/\w2 a b c)(k:z1->∀a b c,w1 a b c->w2 a b c->K):K:=h.2.elim λa m=>m.elim λb n=>n.elim λc o=>k h.1 a b c o.1 o.2
theorem U2(h:z1/\z2/\z3)(k:z1->z2->z3->K):K:=k h.1 h.2.1 h.2.2
theorem U3(h:z1/\z2/\z3/\z4)(k:z1->z2->z3->z4->K):K:=k h.1 h.2.1 h.2.2.1 h.2.2.2
theorem U6(h:z1/\z2/\z3/\z4/\z5/\z6/\z7)(k:z1->z2->z3->z4->z5->z6->z7->K):K:=k h.1 h.2.1 h.2.2.1 h.2.2.2.1 h.2.2.2.2.1 h.2.2.2.2.2.1 h.2.2.2.2.2.2
theorem U7(h:z1/\z2/\z3/\z4/\z5/\z6/\z7/\z8)(k:z1->z2->z3->z4->z5->z6->z7->z8->K):K:=k h.1 h.2.1 h.2.2.1 h.2.2.2.1 h.2.2.2.2.1 h.2.2.2.2.2.1 h.2.2.2.2.2.2.1 h.2.2.2.2.2.2.2
theorem V1(k:z1->z2->K)(h:z1/\z2):K:=k h.1 h.2
theorem Pg(k:z1->∀a,y1 a->y2 a->y3 a->y4 a->K)(h:z1/\∃a,y1 a/\y2 a/\y3 a/\y4 a):K:=h.2.elim λa m=>k h.1 a m.1 m.2.1 m.2.2.1 m.2.2.2
theorem X1(h:∃a,y1 a)(k:∀a,y1 a->K):K:=h.elim λa m=>k a m
theorem aC(h:∃a,y1 a/\y2 a)(k:∀a,y1 a->y2 a->K):K:=h.elim λa m=>k a m.1 m.2
theorem Ph(h:∃a,y1 a/\∃b,x1 a b)(k:∀a,y1 a->∀b,x1 a b->K):K:=h.elim λa m=>m.2.elim λb n=>k a m.1 b n
theorem ni(h:∃a,y1 a/\∃b,x1 a b/\x2 a b)(k:∀a,y1 a->∀b,x1 a b->x2 a b->K):K:=h.elim λa m=>m.2.elim λb n=>k a m.1 b n.1 n.2
theorem Pj(h:∃a,y1 a/\∃b c,w1 a b c/\w2 a b c)(k:∀a,y1 a->∀b c,w1 a b c->w2 a b c->K):K:=h.elim λa m=>m.2.elim λb n=>n.elim λc o=>k a m.1 b c o.1 o.2
theorem c_(h:∃a,y1 a/\y2 a/\y3 a)(k:∀a,y1 a->y2 a->y3 a->K):K:=h.elim λa m=>k a m.1 m.2.1 m.2.2
theorem E6(h:∃a,y1 a/\y2 a/\∃b,x1 a b)(k:∀a,y1 a->y2 a->∀b,x1 a b->K):K:=h.elim λa m=>m.2.2.elim λb n=>k a m.1 m.2.1 b n
theorem Pk(h:∃a,y1 a/\y2 a/\∃b,x1 a b/\x2 a b)(k:∀a,y1 a->y2 a->∀b,x1 a b->x2 a b->K):K:=h.elim λa m=>m.2.2.elim λb n=>k a m.1 m.2.1 b n.1 n.2
theorem zP(h:∃a,y1 a/\y2 a/\y3 a/\y4 a)(k:∀a,y1 a->y2 a->y3 a->y4 a->K):K:=h.elim λa m=>k a m.1 m.2.1 m.2.2.1 m.2.2.2
theorem E7(h:∃a,y1 a/\y2 a/\y3 a/\y4 a/\y5 a)(k:∀a,y1 a->y2 a->y3 a->y4 a->y5 a->K):K:=h.elim λa m=>k a m.1 m.2.1 m.2.2.1 m.2.2.2.1 m.2.2.2.2
theorem Pn(h:∃a,y1 a/\y2 a/\y3 a/\y4 a/\y5 a/\y6 a/\y7 a/\y8 a)(k:∀a,y1 a->y2 a->y3 a->y4 a->y5 a->y6 a->y7 a->y8 a->K):K:=h.elim λa m=>k a m.1 m.2.1 m.2.2.1 m.2.2.2.1 m.2.2.2.2.1 m.2.2.2.2.2.1 m.2.2.2.2.2.2.1 m.2.2.2.2.2.2.2
theorem X2(h:∃a b,x1 a b)(k:∀a b,x1 a b->K):K:=h.elim λa m=>m.elim λb n=>k a b n
theorem gG(h:∃a b,x1 a b/\x2 a b)(k:∀a b,x1 a b->x2 a b->K):K:=h.elim λa m=>m.elim λb n=>k a b n.1 n.2
theorem d_(h:∃a b,x1 a b/\x2 a b/\x3 a b)(k:∀a b,x1 a b->x2 a b->x3 a b->K):K:=h.elim λa m=>m.elim λb n=>k a b n.1 n.2.1 n.2.2
theorem Po(h:∃a b,x1 a b/\x2 a b/\∃c,w1 a b c)(k:∀a b,x1 a b->x2 a b->∀c,w1 a b c->K):K:=h.elim λa m=>m.elim λb n=>n.2.2.elim λc o=>k a b n.1 n.2.1 c o
theorem eJ(h:∃a b,x1 a b/\x2 a b/\x3 a b/\x4 a b)(k:∀a b,x1 a b->x2 a b->x3 a b->x4 a b->K):K:=h.elim λa m=>m.elim λb n=>k a b n.1 n.2.1 n.2.2.1 n.2.2.2
theorem pW(h:∃a b,x1 a b/\x2 a b/\x3 a b/\x4 a b/\x5 a b)(k:∀a b,x1 a b->x2 a b->x3 a b->x4 a b->x5 a b->K):K:=h.elim λa m=>m.elim λb n=>k a b n.1 n.2.1 n.2.2.1 n.2.2.2.1 n.2.2.2.2
theorem E8(h:∃a b,x1 a b/\x2 a b/\x3 a b/\x4 a b/\x5 a b/\x6 a b)(k:∀a b,x1 a b->x2 a b->x3 a b->x4 a b->x5 a b->x6 a b->K):K:=h.elim λa m=>m.elim λb n=>k a b n.1 n.2.1 n.2.2.1 n.2.2.2.1 n.2.2.2.2.1 n.2.2.2.2.2
theorem tX(h:∃a b,x1 a b/\x2 a b/\x3 a b/\x4 a b/\x5 a b/\x6 a b/\x7 a b)(k:∀a b,x1 a b->x2 a b->x3 a b->x4 a b->x5 a b->x6 a b->x7 a b->K):K:=h.elim λa m=>m.elim λb n=>k a b n.1 n.2.1 n.2.2.1 n.2.2.2.1 n.2.2.2.2.1 n.2.2.2.2.2.1 n.2.2.2.2.2.2
theorem X3(h:∃a b c,w1 a b c)(k:∀a b c,w1 a b c->K):K:=h.elim λa m=>m.elim λb n=>n.elim λc o=>k a b c o
theorem tY(h:∃a b c,w1 a b c/\w2 a b c)(k:∀a b c,w1 a b c->w2 a b c->K):K:=h.elim λa m=>m.elim λb n=>n.elim λc o=>k a b c o.1 o.2
theorem tZ(h:∃a b c,w1 a b c/\w2 a b c/\w3 a b c)(k:∀a b c,w1 a b c->w2 a b c->w3 a b c->K):K:=h.elim λa m=>m.elim λb n=>n.elim λc o=>k a b c o.1 o.2.1 o.2.2
theorem kE(h:∃a b c,w1 a b c/\w2 a b c/\w3 a b c/\w4 a b c)(k:∀a b c,w1 a b c->w2 a b c->w3 a b c->w4 a b c->K):K:=h.elim λa m=>m.elim λb n=>n.elim λc o=>k a b c o.1 o.2.1 o.2.2.1 o.2.2.2
theorem t6(h:∃a b c,w1 a b c/\w2 a b c/\w3 a b c/\w4 a b c/\w5 a b c/\w6 a b c)(k:∀a b c,w1 a b c->w2 a b c->w3 a b c->w4 a b c->w5 a b c->w6 a b c->K):K:=h.elim λa m=>m.elim λb n=>n.elim λc o=>k a b c o.1 o.2.1 o.2.2.1 o.2.2.2.1 o.2.2.2.2.1 o.2.2.2.2.2
theorem X4(h:∃a b,∃c d,v1 a b c d)(k:∀a b,∀c d,v1 a b c d->K):K:=h.elim λa m=>m.elim λb n=>n.elim λc o=>o.elim λd p=>k a b c d p
theorem E9(h:∃a b,∃c d,v1 a b c d/\v2 a b c d)(k:∀a b,∀c d,v1 a b c d->v2 a b c d->K):K:=h.elim λa m=>m.elim λb n=>n.elim λc o=>o.elim λd p=>k a b c d p.1 p.2
theorem wq(h:∃a b,∃c d,v1 a b c d/\v2 a b c d/\v3 a b c d/\v4 a b c d)(k:∀a b,∀c d,v1 a b c d->v2 a b c d->v3 a b c d->v4 a b c d->K):K:=h.elim λa m=>m.elim λb n=>n.elim λc o=>o.elim λd p=>k a b c d p.1 p.2.1 p.2.2.1 p.2.2.2
theorem E_(h:∃a b,∃c d,v1 a b c d/\v2 a b c d/\v3 a b c d/\v4 a b c d/\v5 a b c d)(k:∀a b,∀c d,v1 a b c d->v2 a b c d->v3 a b c d->v4 a b c d->v5 a b c d->K):K:=h.elim λa m=>m.elim λb n=>n.elim λc o=>o.elim λd p=>k a b c d p.1 p.2.1 p.2.2.1 p.2.2.2.1 p.2.2.2.2
theorem Fb(h:∃a b,∃c d,v1 a b c d/\v2 a b c d/\v3 a b c d/\v4 a b c d/\v5 a b c d/\v6 a b c d/\v7 a b c d)(k:∀a b,∀c d,v1 a b c d->v2 a b c d->v3 a b c d->v4 a b c d->v5 a b c d->v6 a b c d->v7 a b c d->K):K:=h.elim λa m=>m.elim λb n=>n.elim λc o=>o.elim λd p=>k a b c d p.1 p.2.1 p.2.2.1 p.2.2.2.1 p.2.2.2.2.1 p.2.2.2.2.2.1 p.2.2.2.2.2.2
theorem wu(h:∃a b,∃c d e,u1 a b c d e/\u2 a b c d e)(k:∀a b,∀c d e,u1 a b c d e->u2 a b c d e->K):K:=h.elim λa m=>m.elim λb n=>n.elim λc o=>o.elim λd p=>p.elim λe q=>k a b c d e q.1 q.2
theorem Fc(h:∃a b,∃c d e,u1 a b c d e/\u2 a b c d e/\u3 a b c d e/\u4 a b c d e/\u5 a b c d e/\u6 a b c d e)(k:∀a b,∀c d e,u1 a b c d e->u2 a b c d e->u3 a b c d e->u4 a b c d e->u5 a b c d e->u6 a b c d e->K):K:=h.elim λa m=>m.elim λb n=>n.elim λc o=>o.elim λd p=>p.elim λe q=>k a b c d e q.1 q.2.1 q.2.2.1 q.2.2.2.1 q.2.2.2.2.1 q.2.2.2.2.2
theorem Pp(h:∃a b,∃c d e,u1 a b c d e/\u2 a b c d e/\u3 a b c d e/\u4 a b c d e/\u5 a b c d e/\u6 a b c d e/\u7 a b c d e/\u8 a b c d e)(k:∀a b,∀c d e,u1 a b c d e->u2 a b c d e->u3 a b c d e->u4 a b c d e->u5 a b c d e->u6 a b c d e->u7 a b c d e->u8 a b c d e->K):K:=h.elim λa m=>m.elim λb n=>n.elim λc o=>o.elim λd p=>p.elim λe q=>k a b c d e q.1 q.2.1 q.2.2.1 q.2.2.2.1 q.2.2.2.2.1 q.2.2.2.2.2.1 q.2.2.2.2.2.2.1 q.2.2.2.2.2.2.2
theorem X6(h:∃a b,∃c d,∃e f,t1 a b c d e f)(k:∀a b,∀c d,∀e f,t1 a b c d e f->K):K:=h.elim λa m=>m.elim λb n=>n.elim λc o=>o.elim λd p=>p.elim λe q=>q.elim λf r=>k a b c d e f r
theorem Fd(h:∃a b,∃c d,∃e f g,s1 a b c d e f g/\s2 a b c d e f g)(k:∀a b,∀c d,∀e f g,s1 a b c d e f g->s2 a b c d e f g->K):K:=h.elim λa m=>m.elim λb n=>n.elim λc o=>o.elim λd p=>p.elim λe q=>q.elim λf r=>r.elim λg s=>k a b c d e f g s.1 s.2
theorem Y1(k:∀a,y1 a->K)(h:∃a,y1 a):K:=h.elim λa m=>k a m
theorem rg(k:∀a,y1 a->y2 a->K)(h:∃a,y1 a/\y2 a):K:=h.elim λa m=>k a m.1 m.2
theorem Pu(k:∀a,y1 a->y2 a->y3 a->K)(h:∃a,y1 a/\y2 a/\y3 a):K:=h.elim λa m=>k a m.1 m.2.1 m.2.2
theorem Fe(k:∀a b,x1 a b->x2 a b->K)(h:∃a b,x1 a b/\x2 a b):K:=h.elim λa m=>m.elim λb n=>k a b n.1 n.2
theorem Ff(k:∀a b,x1 a b->x2 a b->x3 a b->K)(h:∃a b,x1 a b/\x2 a b/\x3 a b):K:=h.elim λa m=>m.elim λb n=>k a b n.1 n.2.1 n.2.2
theorem Fg(k:∀a b,x1 a b->x2 a b->x3 a b->x4 a b->K)(h:∃a b,x1 a b/\x2 a b/\x3 a b/\x4 a b):K:=h.elim λa m=>m.elim λb n=>k a b n.1 n.2.1 n.2.2.1 n.2.2.2
theorem Pw(k:∀a b c,w1 a b c->w2 a b c->w3 a b c->K)(h:∃a b c,w1 a b c/\w2 a b c/\w3 a b c):K:=h.elim λa m=>m.elim λb n=>n.elim λc o=>k a b c o.1 o.2.1 o.2.2
theorem Px(k:∀a b,∀c d,v1 a b c d->v2 a b c d->v3 a b c d->v4 a b c d->K)(h:∃a b,∃c d,v1 a b c d/\v2 a b c d/\v3 a b c d/\v4 a b c d):K:=h.elim λa m=>m.elim λb n=>n.elim λc o=>o.elim λd p=>k a b c d p.1 p.2.1 p.2.2.1 p.2.2.2
theorem aA(a:A)(h1:y1 a)(h2:y2 a):∃a,y1 a/\y2 a:=⟨a,h1,h2⟩
theorem zQ(a:A)(h1:y1 a)(b:B)(h2:x1 a b):∃a,y1 a/\∃b,x1 a b:=⟨a,h1,b,h2⟩
theorem Py(a:A)(h1:y1 a)(b:B)(h2:x1 a b)(h3:x2 a b):∃a,y1 a/\∃b,x1 a b/\x2 a b:=⟨a,h1,b,h2,h3⟩
theorem lX(a:A)(h1:y1 a)(b:B)(h2:x1 a b)(h3:x2 a b)(h4:x3 a b):∃a,y1 a/\∃b,x1 a b/\x2 a b/\x3 a b:=⟨a,h1,b,h2,h3,h4⟩
theorem Pz(a:A)(h1:y1 a)(b:B)(h2:x1 a b)(h3:x2 a b)(h4:x3 a b)(h5:x4 a b)(h6:x5 a b):∃a,y1 a/\∃b,x1 a b/\x2 a b/\x3 a b/\x4 a b/\x5 a b:=⟨a,h1,b,h2,h3,h4,h5,h6⟩
theorem Fi(a:A)(h1:y1 a)(b:B)(c:C)(h2:w1 a b c)(h3:w2 a b c)(h4:w3 a b c):∃a,y1 a/\∃b c,w1 a b c/\w2 a b c/\w3 a b c:=⟨a,h1,b,c,h2,h3,h4⟩
theorem Fj(a:A)(h1:y1 a)(b:B)(c:C)(h2:w1 a b c)(h3:w2 a b c)(h4:w3 a b c)(h5:w4 a b c):∃a,y1 a/\∃b c,w1 a b c/\w2 a b c/\w3 a b c/\w4 a b c:=⟨a,h1,b,c,h2,h3,h4,h5⟩
theorem cM(a:A)(h1:y1 a)(h2:y2 a)(h3:y3 a):∃a,y1 a/\y2 a/\y3 a:=⟨a,h1,h2,h3⟩
theorem t7(a:A)(h1:y1 a)(h2:y2 a)(b:B)(h3:x1 a b):∃a,y1 a/\y2 a/\∃b,x1 a b:=⟨a,h1,h2,b,h3⟩
theorem PA(a:A)(h1:y1 a)(h2:y2 a)(b:B)(h3:x1 a b)(h4:x2 a b):∃a,y1 a/\y2 a/\∃b,x1 a b/\x2 a b:=⟨a,h1,h2,b,h3,h4⟩
theorem iq(a:A)(h1:y1 a)(h2:y2 a)(h3:y3 a)(h4:y4 a):∃a,y1 a/\y2 a/\y3 a/\y4 a:=⟨a,h1,h2,h3,h4⟩
theorem wz(a:A)(h1:y1 a)(h2:y2 a)(h3:y3 a)(h4:y4 a)(h5:y5 a):∃a,y1 a/\y2 a/\y3 a/\y4 a/\y5 a:=⟨a,h1,h2,h3,h4,h5⟩
theorem PB(a:A)(h1:y1 a)(h2:y2 a)(h3:y3 a)(h4:y4 a)(h5:y5 a)(h6:y6 a)(h7:y7 a)(h8:y8 a):∃a,y1 a/\y2 a/\y3 a/\y4 a/\y5 a/\y6 a/\y7 a/\y8 a:=⟨a,h1,h2,h3,h4,h5,h6,h7,h8⟩
theorem I2(a:A)(b:B)(h1:x1 a b):∃a b,x1 a b:=⟨a,b,h1⟩
theorem gR(a:A)(b:B)(h1:x1 a b)(h2:x2 a b):∃a b,x1 a b/\x2 a b:=⟨a,b,h1,h2⟩
theorem fg(a:A)(b:B)(h1:x1 a b)(h2:x2 a b)(h3:x3 a b):∃a b,x1 a b/\x2 a b/\x3 a b:=⟨a,b,h1,h2,h3⟩
theorem fy(a:A)(b:B)(h1:x1 a b)(h2:x2 a b)(h3:x3 a b)(h4:x4 a b):∃a b,x1 a b/\x2 a b/\x3 a b/\x4 a b:=⟨a,b,h1,h2,h3,h4⟩
theorem t8(a:A)(b:B)(h1:x1 a b)(h2:x2 a b)(h3:x3 a b)(h4:x4 a b)(h5:x5 a b):∃a b,x1 a b/\x2 a b/\x3 a b/\x4 a b/\x5 a b:=⟨a,b,h1,h2,h3,h4,h5⟩
theorem Fl(a:A)(b:B)(h1:x1 a b)(h2:x2 a b)(h3:x3 a b)(h4:x4 a b)(h5:x5 a b)(h6:x6 a b):∃a b,x1 a b/\x2 a b/\x3 a b/\x4 a b/\x5 a b/\x6 a b:=⟨a,b,h1,h2,h3,h4,h5,h6⟩
theorem PC(a:A)(b:B)(h1:x1 a b)(h2:x2 a b)(h3:x3 a b)(h4:x4 a b)(h5:x5 a b)(h6:x6 a b)(h7:x7 a b):∃a b,x1 a b/\x2 a b/\x3 a b/\x4 a b/\x5 a b/\x6 a b/\x7 a b:=⟨a,b,h1,h2,h3,h4,h5,h6,h7⟩
theorem I3(a:A)(b:B)(c:C)(h1:w1 a b c):∃a b c,w1 a b c:=⟨a,b,c,h1⟩
theorem wA(a:A)(b:B)(c:C)(h1:w1 a b c)(h2:w2 a b c):∃a b c,w1 a b c/\w2 a b c:=⟨a,b,c,h1,h2⟩
theorem zR(a:A)(b:B)(c:C)(h1:w1 a b c)(h2:w2 a b c)(h3:w3 a b c):∃a b c,w1 a b c/\w2 a b c/\w3 a b c:=⟨a,b,c,h1,h2,h3⟩
theorem PD(a:A)(b:B)(c:C)(h1:w1 a b c)(h2:w2 a b c)(d:D)(h3:v1 a b c d)(h4:v2 a b c d):∃a b c,w1 a b c/\w2 a b c/\∃d,v1 a b c d/\v2 a b c d:=⟨a,b,c,h1,h2,d,h3,h4⟩
theorem lY(a:A)(b:B)(c:C)(h1:w1 a b c)(h2:w2 a b c)(h3:w3 a b c)(h4:w4 a b c):∃a b c,w1 a b c/\w2 a b c/\w3 a b c/\w4 a b c:=⟨a,b,c,h1,h2,h3,h4⟩
theorem PE(a:A)(b:B)(c:C)(h1:w1 a b c)(h2:w2 a b c)(h3:w3 a b c)(h4:w4 a b c)(h5:w5 a b c)(h6:w6 a b c):∃a b c,w1 a b c/\w2 a b c/\w3 a b c/\w4 a b c/\w5 a b c/\w6 a b c:=⟨a,b,c,h1,h2,h3,h4,h5,h6⟩
theorem Fo(a:A)(b:B)(c:C)(d:D)(h1:v1 a b c d)(h2:v2 a b c d):∃a b,∃c d,v1 a b c d/\v2 a b c d:=⟨a,b,c,d,h1,h2⟩
theorem pX(a:A)(b:B)(c:C)(d:D)(h1:v1 a b c d)(h2:v2 a b c d)(h3:v3 a b c d)(h4:v4 a b c d):∃a b,∃c d,v1 a b c d/\v2 a b c d/\v3 a b c d/\v4 a b c d:=⟨a,b,c,d,h1,h2,h3,h4⟩
theorem pY(a:A)(b:B)(c:C)(d:D)(h1:v1 a b c d)(h2:v2 a b c d)(h3:v3 a b c d)(h4:v4 a b c d)(h5:v5 a b c d):∃a b,∃c d,v1 a b c d/\v2 a b c d/\v3 a b c d/\v4 a b c d/\v5 a b c d:=⟨a,b,c,d,h1,h2,h3,h4,h5⟩
theorem wB(a:A)(b:B)(c:C)(d:D)(h1:v1 a b c d)(h2:v2 a b c d)(h3:v3 a b c d)(h4:v4 a b c d)(h5:v5 a b c d)(h6:v6 a b c d)(h7:v7 a b c d):∃a b,∃c d,v1 a b c d/\v2 a b c d/\v3 a b c d/\v4 a b c d/\v5 a b c d/\v6 a b c d/\v7 a b c d:=⟨a,b,c,d,h1,h2,h3,h4,h5,h6,h7⟩
theorem wF(a:A)(b:B)(c:C)(d:D)(e:E)(h1:u1 a b c d e)(h2:u2 a b c d e):∃a b,∃c d e,u1 a b c d e/\u2 a b c d e:=⟨a,b,c,d,e,h1,h2⟩
theorem Fp(a:A)(b:B)(c:C)(d:D)(e:E)(h1:u1 a b c d e)(h2:u2 a b c d e)(h3:u3 a b c d e)(h4:u4 a b c d e)(h5:u5 a b c d e)(h6:u6 a b c d e):∃a b,∃c d e,u1 a b c d e/\u2 a b c d e/\u3 a b c d e/\u4 a b c d e/\u5 a b c d e/\u6 a b c d e:=⟨a,b,c,d,e,h1,h2,h3,h4,h5,h6⟩
theorem PF(a:A)(b:B)(c:C)(d:D)(e:E)(h1:u1 a b c d e)(h2:u2 a b c d e)(h3:u3 a b c d e)(h4:u4 a b c d e)(h5:u5 a b c d e)(h6:u6 a b c d e)(h7:u7 a b c d e)(h8:u8 a b c d e):∃a b,∃c d e,u1 a b c d e/\u2 a b c d e/\u3 a b c d e/\u4 a b c d e/\u5 a b c d e/\u6 a b c d e/\u7 a b c d e/\u8 a b c d e:=⟨a,b,c,d,e,h1,h2,h3,h4,h5,h6,h7,h8⟩
theorem I6(a:A)(b:B)(c:C)(d:D)(e:E)(f:F)(h1:t1 a b c d e f):∃a b,∃c d,∃e f,t1 a b c d e f:=⟨a,b,c,d,e,f,h1⟩
theorem Fq(a:A)(b:B)(c:C)(d:D)(e:E)(f:F)(g:G)(h1:s1 a b c d e f g)(h2:s2 a b c d e f g):∃a b,∃c d,∃e f g,s1 a b c d e f g/\s2 a b c d e f g:=⟨a,b,c,d,e,f,g,h1,h2⟩
theorem Ft(h1:z1)(a:A)(h2:y1 a)(h3:y2 a):z1/\∃a,y1 a/\y2 a:=⟨h1,a,h2,h3⟩
theorem Fv(h1:z1)(a:A)(h2:y1 a)(h3:y2 a)(h4:y3 a):z1/\∃a,y1 a/\y2 a/\y3 a:=⟨h1,a,h2,h3,h4⟩
theorem Fw(h1:z1)(a:A)(b:B)(h2:x1 a b)(h3:x2 a b):z1/\∃a b,x1 a b/\x2 a b:=⟨h1,a,b,h2,h3⟩
theorem Fx(h1:z1)(a:A)(b:B)(h2:x1 a b)(h3:x2 a b)(h4:x3 a b)(h5:x4 a b):z1/\∃a b,x1 a b/\x2 a b/\x3 a b/\x4 a b:=⟨h1,a,b,h2,h3,h4,h5⟩
theorem Fy(h1:z1)(a:A)(b:B)(c:C)(h2:w1 a b c)(h3:w2 a b c):z1/\∃a b c,w1 a b c/\w2 a b c:=⟨h1,a,b,c,h2,h3⟩
theorem Fz(h1:z1)(a:A)(b:B)(c:C)(h2:w1 a b c)(h3:w2 a b c)(h4:w3 a b c)(h5:w4 a b c)(h6:w5 a b c)(h7:w6 a b c):z1/\∃a b c,w1 a b c/\w2 a b c/\w3 a b c/\w4 a b c/\w5 a b c/\w6 a b c:=⟨h1,a,b,c,h2,h3,h4,h5,h6,h7⟩
end
theorem nN{α:Type _}{x:α}{K:Prop}(h:none=some x):K:=by injection h
theorem sN{α:Type _}{x:α}{K:Prop}(h:some x=none):K:=by injection h
theorem nB{K:Prop}(h:false=true):K:=Bool.noConfusion h
theorem tB{K:Prop}(h:true=false):K:=Bool.noConfusion h
inductive Ln|n (k:Nat)|v (k:Nat)|a (x y:Ln)|m (k:Nat) (x:Ln)|s (x y:Ln)|g (x:Ln)
noncomputable def nj{α:Type}(z:α):List α->Nat->α
 |[],_=>z
 |x::_,0=>x
 |_::l,i+1=>nj z l i
def dN(c:aG):Ln->Nat
 |.n k=>k
 |.v i=>nj 0 c i
 |.a x y=>dN c x+dN c y
 |.m k x=>k*dN c x
 |_=>0
def dI(c:bk):Ln->Int
 |.n k=>(k:Int)
 |.v i=>nj 0 c i
 |.a x y=>dI c x+dI c y
 |.m k x=>(k:Int)*dI c x
 |.s x y=>dI c x-dI c y
 |.g x=>-dI c x
noncomputable def i7{α:Type}[Add α]:List α->List α->List α
 |[],q=>q
 |a::p,[]=>a::p
 |a::p,b::q=>(a+b)::i7 p q
noncomputable def nk{α:Type}(z u:α):Nat->List α
 |0=>[u]
 |i+1=>z::nk z u i
def oN:Ln->aG
 |.n k=>[k]
 |.v i=>0::nk 0 1 i
 |.a x y=>i7 (oN x)<|oN y
 |.m k x=>(oN x).map (k*·)
 |_=>[]
def oI:Ln->bk
 |.n k=>[(k:Int)]
 |.v i=>0::nk 0 1 i
 |.a x y=>i7 (oI x)<|oI y
 |.m k x=>(oI x).map ((k:Int)*·)
 |.s x y=>i7 (oI x) ((oI y).map (-1*·))
 |.g x=>(oI x).map (-1*·)
noncomputable def tN:aG->aG->Nat
 |a::p,x::c=>a*x+tN p c
 |_,_=>0
noncomputable def tI:bk->bk->Int
 |a::p,x::c=>a*x+tI p c
 |_,_=>0
theorem wG:∀(p q c:aG),tN (i7 p q) c=tN p c+tN q c
 |[],q,c=>(Nat.zero_add _).symm
 |a::p,[],c=>rfl
 |a::p,b::q,[]=>rfl
 |a::p,b::q,x::c=>by show(a+b)*x+tN (i7 p q) c=(a*x+tN p c)+(b*x+tN q c);rw[wG p q c,Nat.add_mul];omega
theorem t9:∀(p q c:bk),tI (i7 p q) c=tI p c+tI q c
 |[],q,c=>(Int.zero_add _).symm
 |a::p,[],c=>(Int.add_zero _).symm
 |a::p,b::q,[]=>rfl
 |a::p,b::q,x::c=>by show(a+b)*x+tI (i7 p q) c=(a*x+tI p c)+(b*x+tI q c);rw[t9 p q c,Int.add_mul];omega
theorem wH(k:Nat):∀(p c:aG),tN (p.map (k*·)) c=k*tN p c
 |[],c=>rfl
 |a::p,[]=>rfl
 |a::p,x::c=>by show k*a*x+tN (p.map (k*·)) c=k*(a*x+tN p c);rw[wH k p c,Nat.mul_add,Nat.mul_assoc]
theorem rh(k:Int):∀(p c:bk),tI (p.map (k*·)) c=k*tI p c
 |[],c=>(Int.mul_zero _).symm
 |a::p,[]=>(Int.mul_zero _).symm
 |a::p,x::c=>by show k*a*x+tI (p.map (k*·)) c=k*(a*x+tI p c);rw[rh k p c,Int.mul_add,Int.mul_assoc]
theorem FA:∀(i:Nat)(c:aG),tN (nk 0 1 i) c=nj 0 c i
 |0,[]=>rfl
 |i+1,[]=>rfl
 |0,x::c=>by show 1*x+0=x;omega
 |i+1,x::c=>by show 0*x+tN (nk 0 1 i) c=nj 0 c i;rw[FA i c];omega
theorem FD:∀(i:Nat)(c:bk),tI (nk 0 1 i) c=nj 0 c i
 |0,[]=>rfl
 |i+1,[]=>rfl
 |0,x::c=>by show 1*x+0=x;omega
 |i+1,x::c=>by show 0*x+tI (nk 0 1 i) c=nj 0 c i;rw[FD i c];omega
theorem pZ(c:aG):∀x,tN (oN x) (1::c)=dN c x
 |.n k=>by show k*1+0=k;omega
 |.v i=>by show 0*1+tN (nk 0 1 i) c=nj 0 c i;rw[FA];omega
 |.a x y=>by show tN (i7 _ _) _=dN c x+dN c y;rw[wG,pZ c x,pZ c y]
 |.m k x=>by show tN (List.map _ _) _=k*dN c x;rw[wH,pZ c x]
 |.s x y=>rfl
 |.g x=>rfl
theorem lZ(c:bk):∀x,tI (oI x) (1::c)=dI c x
 |.n k=>by show(k:Int)*1+0=k;omega
 |.v i=>by show 0*1+tI (nk 0 1 i) c=nj 0 c i;rw[FD];omega
 |.a x y=>by show tI (i7 _ _) _=dI c x+dI c y;rw[t9,lZ c x,lZ c y]
 |.m k x=>by show tI (List.map _ _) _=(k:Int)*dI c x;rw[rh,lZ c x]
 |.s x y=>by show tI (i7 _ _) _=dI c x-dI c y;rw[t9,rh,lZ c x,lZ c y];omega
 |.g x=>by show tI (List.map _ _) _=-dI c x;rw[rh,lZ c x];omega
noncomputable def wI:aG->aG->Bool
 |[],_=>true
 |a::p,[]=>Nat.beq a 0&&wI p []
 |a::p,b::q=>Nat.ble a b&&wI p q
noncomputable def zI:bk->Bool
 |[]=>true
 |b::q=>decide (b=0)&&zI q
def wJ:bk->bk->Bool
 |[],q=>zI q
 |a::p,[]=>decide (a=0)&&wJ p []
 |a::p,b::q=>decide (a=b)&&wJ p q
theorem zS:∀(p q c:aG),wI p q=true->tN p c<=tN q c
 |[],q,c,h=>iF _
 |a::p,[],[],h=>bY _
 |a::p,[],x::c,h=>by obtain⟨h1,h2⟩:=(cy _ _).mp h;have e:a=0:=b_ h1;have:=zS p [] c h2;show a*x+tN p c<=0;rw[e];have z:tN ([]:aG) c=0:=rfl;omega
 |a::p,b::q,[],h=>bY _
 |a::p,b::q,x::c,h=>by obtain⟨h1,h2⟩:=(cy _ _).mp h;exact Nat.add_le_add (Nat.mul_le_mul_right x<|Nat.le_of_ble_eq_true h1)<|zS p q c h2
theorem FE:∀(q c:bk),zI q=true->tI q c=0
 |[],c,h=>rfl
 |b::q,[],h=>rfl
 |b::q,x::c,h=>by obtain⟨h1,h2⟩:=(cy _ _).mp h;show b*x+tI q c=0;rw[cG h1,FE q c h2,Int.zero_mul];rfl
theorem zT:∀(p q c:bk),wJ p q=true->tI p c=tI q c
 |[],q,c,h=>(FE q c h).symm
 |a::p,[],[],h=>rfl
 |a::p,[],x::c,h=>by obtain⟨h1,h2⟩:=(cy _ _).mp h;have e:=zT p [] c h2;show a*x+tI p c=0;rw[cG h1,e,Int.zero_mul];rfl
 |a::p,b::q,[],h=>rfl
 |a::p,b::q,x::c,h=>by obtain⟨h1,h2⟩:=(cy _ _).mp h;show a*x+tI p c=b*x+tI q c;rw[cG h1,zT p q c h2]
noncomputable def hd0:bk->Int
 |[]=>0
 |a::_=>a
def FF(p q:bk):Bool:=decide (hd0 p<=hd0 q)&&wJ p.tail q.tail
theorem PG{p q c:bk}(h:FF p q=true):tI p (1::c)<=tI q (1::c):=by
 obtain⟨h1,h2⟩:=(cy _ _).mp h;have e:=zT _ _ c h2;have h1:=cG h1;have f:∀p:bk,tI p (1::c)=hd0 p+tI p.tail c:=λp=>by
  induction p using b9 with
  |nil=>rfl
  |cons a p=>show a*1+tI p c=a+tI p c;omega
 rw[f p,f q,e];omega
def zU(c:aG)(G:Prop):List (Nat×Ln×Ln)->Prop
 |[]=>G
 |r::cs=>dN c r.2.1<=dN c r.2.2->zU c G cs
def zV(c:bk)(G:Prop):List (Nat×Ln×Ln)->Prop
 |[]=>G
 |r::cs=>dI c r.2.1<=dI c r.2.2->zV c G cs
def zW(p q:aG):List (Nat×Ln×Ln)->Bool
 |[]=>wI p q
 |r::cs=>zW (i7 p ((oN r.2.2).map (r.1*·))) (i7 q ((oN r.2.1).map (r.1*·))) cs
def zX(p q:bk):List (Nat×Ln×Ln)->Bool
 |[]=>FF p q
 |r::cs=>zX (i7 p ((oI r.2.2).map ((r.1:Int)*·))) (i7 q ((oI r.2.1).map ((r.1:Int)*·))) cs
theorem FG(c:aG){l u:Nat}:∀(cs:List<|Nat×Ln×Ln)(p q:aG)(X Y:Nat),X<=Y->tN p (1::c)=l+Y->tN q (1::c)=u+X->zW p q cs=true->zU c (l<=u) cs
 |[],p,q,X,Y,h,e1,e2,k=>by have:=zS p q (1::c) k;show l<=u;omega
 |r::cs,p,q,X,Y,h,e1,e2,k=>λg=>by
  refine FG c cs _ _ (X+r.1*dN c r.2.1) (Y+r.1*dN c r.2.2) (Nat.add_le_add h<|Nat.mul_le_mul_left _ g) ?_ ?_ k
  ·rw[wG,wH,pZ,e1,Nat.add_assoc]
  ·rw[wG,wH,pZ,e2,Nat.add_assoc]
theorem FH(c:bk){l u:Int}:∀(cs:List<|Nat×Ln×Ln)(p q:bk)(X Y:Int),X<=Y->tI p (1::c)=l+Y->tI q (1::c)=u+X->zX p q cs=true->zV c (l<=u) cs
 |[],p,q,X,Y,h,e1,e2,k=>by have:=PG (c:=c) k;show l<=u;omega
 |r::cs,p,q,X,Y,h,e1,e2,k=>λg=>by
  refine FH c cs _ _ (X+(r.1:Int)*dI c r.2.1) (Y+(r.1:Int)*dI c r.2.2) (Int.add_le_add h<|Int.mul_le_mul_of_nonneg_left g<|iY _) ?_ ?_ k
  ·rw[t9,rh,lZ,e1,Int.add_assoc]
  ·rw[t9,rh,lZ,e2,Int.add_assoc]
theorem lN(c:aG)(L R:Ln)(cs:List<|Nat×Ln×Ln)(h:zW (oN L) (oN R) cs=true):zU c (dN c L<=dN c R) cs:=
 FG c cs _ _ 0 0 (bY _) (pZ c L) (pZ c R) h
theorem lI(c:bk)(L R:Ln)(cs:List<|Nat×Ln×Ln)(h:zX (oI L) (oI R) cs=true):zV c (dI c L<=dI c R) cs:=
 FH c cs _ _ 0 0 (k_ _) ((lZ c L).trans (Int.add_zero _).symm) ((lZ c R).trans (Int.add_zero _).symm) h
theorem fB(a b:Nat):a<=a-b+b:=by omega
theorem t_{a b:Nat}(h:b<=a):a-b+b<=a:=by omega
theorem FI{x:Int}(h:0<=x):(x.toNat:Int)<=x:=by omega
theorem jO{a b c:Nat}(h:a<=c+b):a-b<=c:=by omega
theorem wK{a b c:Nat}(h:a<c+b)(k:0<c):a-b<c:=by omega
theorem zY{a b c:Nat}(h:c<a-b):c+b<a:=by omega
theorem p5{x:Int}{z:Nat}(h:x<=(z:Int)):x.toNat<=z:=by omega
noncomputable abbrev ah:Ln:=.v 0
noncomputable abbrev aj:Ln:=.v 1
noncomputable abbrev ay:Ln:=.v 2
noncomputable abbrev aX:Ln:=.v 3
noncomputable abbrev eg:Ln:=.v 4
noncomputable abbrev kF:Ln:=.v 5
noncomputable abbrev wL:Ln:=.v 6
noncomputable abbrev dS:Ln:=.n 900
noncomputable abbrev oA:Ln:=.n 200
noncomputable abbrev bD:Ln:=.n 0
noncomputable abbrev kG:Ln:=.n 64
noncomputable abbrev eS:Ln:=.n 2
noncomputable abbrev dZ:Ln:=.n 1048576
noncomputable abbrev rj:Ln:=.n 40
noncomputable abbrev iH:Ln:=.n 1099511627776
noncomputable abbrev i8:Ln:=.g<|.n 1099511627776
noncomputable abbrev bS:Ln:=.n 1
noncomputable abbrev cC:Ln:=.n 1000
noncomputable abbrev gW:Ln:=.n 100
noncomputable abbrev p6:Ln:=.n 9
noncomputable abbrev oB:Ln:=.n 5
noncomputable abbrev iI:Ln:=.g<|.n 1000
noncomputable abbrev cW:Ln:=.n 20
noncomputable abbrev nq:Ln:=.n 90
noncomputable abbrev p7:Ln:=.n 80
noncomputable abbrev aB(x:Ln):Ln:=.a x<|.n 1
noncomputable abbrev cY(x y:Ln):Ln:=.a (.a x y)<|.n 1
noncomputable abbrev cS(x y z:Ln):Ln:=.a (.a x y) z
noncomputable abbrev aaI(w x y z:Ln):Ln:=.a (.a (.a w x) y) z
noncomputable abbrev aq(x y:Ln):Nat×Ln×Ln:=(1,x,y)
noncomputable abbrev aV(x y:Ln):Nat×Ln×Ln:=(1,.a x<|.n 1,y)
section
variable {a b c d e f g h i j:Nat}
theorem A1(h1:a<=b)(h2:c+b<900):c+a<900:=lN [a,b,c] (cY ay ah) dS [aq ah aj,aV (.a ay aj) dS] rfl h1 h2
theorem A2(h1:a<=b)(h2:c+10*b+200<d):c+10*a+200<d:=lN [a,b,c,d] (cY (.a ay<|.m 10 ah) oA) aX [(10,ah,aj),aV (cS ay (.m 10 aj) oA) aX] rfl h1 h2
theorem A5(h1:a+(b+1)<900):a+1+b<900:=lN [a,b] (cY (aB ah) aj) dS [aV (.a ah<|aB aj) dS] rfl h1
theorem A6(h1:a+10*(b+1)+200<c):a+3+10*b+200<c:=lN [a,b,c] (cY (cS ah (.n 3)<|.m 10 aj) oA) ay [aV (cS ah (.m 10<|aB aj) oA) ay] rfl h1
theorem A8(h1:a=b):b<=a:=lN [a,b] aj ah [aq aj ah] rfl<|cj h1.symm
theorem A9(h1:a=b)(h2:c=b):c-a=0:=eI (jO<|lN [a,b,c,c-a] ay (.a bD ah) [aq aj ah,aq ay aj] rfl (cj h1.symm)<|cj h2)<|lN [a,b,c,c-a] bD aX [] rfl
theorem ua(h1:a<b):a+1<=b:=lN [a,b] (aB ah) aj [aV ah aj] rfl h1
theorem PJ(h1:a<55296\/57343<a/\a<1114112):a<1114112:=by lia
theorem PK(h1:a+64<b)(h2:c<=2):a+1+min d c<b:=lN [a,b,c,min d c,d] (cY (aB ah) aX) aj [aV (.a ah kG) aj,aq ay eS,aq aX ay] rfl h1 h2<|lV d c
theorem PL(h1:a+10*b+200<c):a+64<c:=lN [a,b,c] (cY ah kG) ay [aV (cS ah (.m 10 aj) oA) ay] rfl h1
theorem PM(h1:a+10*b+200<c):a+1+64<c:=lN [a,b,c] (cY (aB ah) kG) ay [aV (cS ah (.m 10 aj) oA) ay] rfl h1
theorem PN(h1:a<=2^20):a<=16777216:=lN [a] ah (.n 16777216) [aq ah dZ] rfl h1
theorem PO:(0:Nat)<=(300:Nat):=lN [] bD (.n 300) [] rfl
theorem PR(h1:a<40):a/30+1<=300:=by lia
theorem PS(h1:a<=300):¬a>300:=tQ<|lN [a] ah (.n 300) [aq ah<|.n 300] rfl h1
theorem PT:¬(0:Nat)>(64:Nat):=tQ<|lN [] bD kG [] rfl
theorem PU(h1:a<40):¬a+1>64:=tQ<|lN [a] (aB ah) kG [aV ah rj] rfl h1
theorem FJ(h1:a<=2^20)(h2:a=b):b<=2^20:=lN [a,b] aj dZ [aq ah dZ,aq aj ah] rfl h1<|cj h2.symm
theorem zZ:(1:Nat)<(30:Nat):=lN [] (aB bS) (.n 30) [] rfl
theorem PW(h1:a<2^20):a+1<=2^20:=lN [a] (aB ah) dZ [aV ah dZ] rfl h1
theorem PX:(0:Nat)<(30:Nat):=lN [] (aB bD) (.n 30) [] rfl
theorem PY(h1:a=b+1):b<a:=lN [a,b] (aB aj) ah [aV aj ah] rfl<|cj h1.symm
theorem PZ(h1:a=b+1):a<=b+1:=lN [a,b] ah (aB aj) [aq ah<|aB aj] rfl<|cj h1
theorem P0(h1:a<=2^20)(h2:a=b+1):min b c<=2^20:=lN [a,b,min b c,c] ay dZ [aq ah dZ,aV aj ah,aq ay aj] rfl h1 (cj h2.symm)<|jN b c
theorem P1:(2:Nat)<(30:Nat):=lN [] (aB eS) (.n 30) [] rfl
theorem P4(h1:a<=2^20)(h2:a=b):min c b-d<=2^20:=lN [a,b,(min c b)-d,min c b,d,c] ay dZ [aq ah dZ,aq aj ah,aq ay aX,aq aX aj] rfl h1 (cj h2.symm) (nf (min c b) d)<|lV c b
theorem P5(h1:a<=2^20):(a:Int)<2^63:=lI [(a:Int)] (aB ah) (.n 9223372036854775808) [aq ah dZ] rfl<|bN.mpr h1
theorem P6(h1:a<64)(h2:b=c)(h3:c=a):b<=2^20:=lN [a,b,c] aj dZ [aV ah kG,aq aj ay,aq ay ah] rfl h1 (cj h2)<|cj h3
theorem FN(h1:a<b+1):a<=b:=lN [a,b] ah aj [aV ah<|aB aj] rfl h1
theorem l8(h1:a<=b):a<=b+1:=lN [a,b] ah (aB aj) [aq ah aj] rfl h1
theorem P7(h1:a=b+1):0<a:=lN [a,b] (aB bD) ah [aV aj ah] rfl<|cj h1.symm
theorem FO(h1:a<b):a<=b-1:=lN [a,b,b-1] ah ay [aV ah aj,aq aj<|aB ay] rfl h1<|fB b 1
theorem P8(h1:a=b+1)(h2:c<=a-1):c<a:=by omega
theorem z0(h1:¬a<b):b<=a:=lN [b,a] ah aj [aq ah aj] rfl<|Nat.le_of_not_lt h1
theorem P9(h1:a<=b+1):a+1<=b+1+1:=lN [a,b] (aB ah) (cY aj bS) [aq ah<|aB aj] rfl h1
theorem P_(h1:a<=1000)(h2:b<=a+1):b<=16777216+1:=lN [a,b] aj (aB<|.n 16777216) [aq ah cC,aq aj<|aB ah] rfl h1 h2
theorem Qa(h1:a<100)(h2:b=a):b<=1000:=lN [a,b] aj cC [aV ah gW,aq aj ah] rfl h1<|cj h2
theorem Qc(h1:a<2^20)(h2:b<=a):b<=2^20:=lN [a,b] aj dZ [aV ah dZ,aq aj ah] rfl h1 h2
theorem FP(h1:a<=b):a+1<=b+1:=lN [a,b] (aB ah) (aB aj) [aq ah aj] rfl h1
theorem Qd(h1:a<1000):min a b<=2^20:=lN [a,min a b,b] aj dZ [aV ah cC,aq aj ah] rfl h1<|jN a b
theorem z9(h1:a<b):b+1-(a+1)<b+1-a:=wK (lN [a,b,(b+1)-(a+1),(b+1)-a] (cY aj bS) (.a aX<|aB ah) [aV aj<|.a aX ah] rfl<|fB (b+1) a)<|lN [a,b,(b+1)-(a+1),(b+1)-a] (aB bD) aX [aV ah aj,aV aj<|.a aX ah] rfl h1<|fB (b+1) a
theorem FQ(h1:a<=b)(h2:¬a<b):a=b:=eI (lN [a,b] ah aj [aq ah aj] rfl h1)<|lN [a,b] aj ah [aq aj ah] rfl<|Nat.le_of_not_lt h2
theorem Qe(h1:a<=2^20)(h2:b<=c)(h3:c<a):b<=2^20:=lN [a,b,c] aj dZ [aq ah dZ,aq aj ay,aV ay ah] rfl h1 h2 h3
theorem Qf(h1:a<=b)(h2:b<=2^20):a<=2^20:=lN [a,b] ah dZ [aq ah aj,aq aj dZ] rfl h1 h2
theorem Qg(h1:a<=b)(h2:b<=a+c)(h3:c<=b):a=b-c+(c-(b-a)):=by lia
theorem Qh(h1:a<=b)(h2:a=b-c+(c-(b-a))):a+(c-(c-(b-a)))=b:=eI (lN [a,b,b-c,c-(b-a),c-(c-(b-a)),c,b-a] (.a ah eg) aj [aq kF<|.a aX wL,aq (.a eg aX) kF,aq (.a wL ah) aj] rfl (fB c<|b-a) (t_<|nf c<|b-a)<|t_ h1)<|lN [a,b,b-c,c-(b-a),c-(c-(b-a)),c,b-a] aj (.a ah eg) [aq (.a ay aX) ah,aq aj<|.a ay kF,aq kF<|.a eg aX] rfl (cj h2.symm) (fB b c)<|fB c<|c-(b-a)
theorem FT(h1:a<=b):min a b=a:=by lia
theorem Qi(h1:a+(b+1)<900):a<1000:=lN [a,b] (aB ah) cC [aV (.a ah<|aB aj) dS] rfl h1
theorem Qj(h1:a<=b)(h2:c=a)(h3:d=b):c<=d:=lN [a,b,c,d] ay aX [aq ah aj,aq ay ah,aq aj aX] rfl h1 (cj h2)<|cj h3.symm
theorem Qk(h1:a<=b+c)(h2:d=b)(h3:e=c)(h4:f=a):f<=d+e:=lN [a,b,c,d,e,f] kF (.a aX eg) [aq ah<|.a aj ay,aq aj aX,aq ay eg,aq kF ah] rfl h1 (cj h2.symm) (cj h3.symm)<|cj h4
theorem Ql(h1:a=b)(h2:c=d)(h3:b<=d):a<=c:=lN [a,b,c,d] ah ay [aq ah aj,aq aX ay,aq aj aX] rfl (cj h1) (cj h2.symm) h3
theorem Qm(h1:a<=b)(h2:b<=a+c):a+(c-(c-(b-a)))=b:=by lia
theorem Qn(h1:a+10*(b+1)+200<c)(h2:d<=9):a+d+10*b+200<c:=lN [a,b,c,d] (cY (cS ah aX<|.m 10 aj) oA) ay [aV (cS ah (.m 10<|aB aj) oA) ay,aq aX p6] rfl h1 h2
theorem uc(h1:a<=b):a+(b-a)=b:=eI (lN [a,b,b-a] (.a ah ay) aj [aq (.a ay ah) aj] rfl<|t_ h1)<|lN [a,b,b-a] aj (.a ah ay) [aq aj<|.a ay ah] rfl<|fB b a
theorem Qo:¬a=a+1:=gP<|lN [a] (aB ah) (aB ah) [] rfl
theorem Qp:a+4≠a+5:=gP<|lN [a] (cY ah<|.n 4) (.a ah oB) [] rfl
theorem Qq:a+2≠a+5:=gP<|lN [a] (cY ah eS) (.a ah oB) [] rfl
theorem Qs:a+3≠a+5:=gP<|lN [a] (cY ah<|.n 3) (.a ah oB) [] rfl
theorem Qt:a≠a+5:=gP<|lN [a] (aB ah) (.a ah oB) [] rfl
theorem Qu:a+1≠a+5:=gP<|lN [a] (cY ah bS) (.a ah oB) [] rfl
theorem FU(h1:a<b):a≠b+5:=gP<|lN [a,b] (aB ah) (.a aj oB) [aV ah aj] rfl h1
theorem Qv:2*a+2<=2*(a+1):=lN [a] (.a (.m 2 ah) eS) (.m 2<|aB ah) [] rfl
theorem FW:2*a+1<=2*(a+1):=lN [a] (aB<|.m 2 ah) (.m 2<|aB ah) [] rfl
theorem z_:a+(b+1)=a+1+b:=eI (lN [a,b] (.a ah<|aB aj) (cS ah bS aj) [] rfl)<|lN [a,b] (cS ah bS aj) (.a ah<|aB aj) [] rfl
theorem Qw:a+(b+1)+1=a+1+b+1:=eI (lN [a,b] (cY ah<|aB aj) (cY (aB ah) aj) [] rfl)<|lN [a,b] (cY (aB ah) aj) (cY ah<|aB aj) [] rfl
theorem Qx(h1:0<a):a=a-1+1:=by lia
theorem FY:0<=(a:Int):=lI [(a:Int)] bD ah [aq bD ah] rfl<|iY _
theorem FZ(h1:a<b):(a:Int)<(b:Int):=lI [(a:Int),(b:Int)] (aB ah) aj [aV ah aj] rfl<|bN.mpr<|ju h1
theorem Qy:¬(0:Int)<=(-1:Int):=by lia
theorem Qz(h1:0<a):0<=-1+(a:Int):=lI [(a:Int)] bD (.a (.g<|.n 1) ah) [aV bD ah] rfl<|bN.mpr<|ju h1
theorem QA:(-1+(a:Int)).toNat=a-1:=eI (p5<|lI [((((-1)+(a:Int)).toNat:Nat):Int),(((a-1):Nat):Int),(a:Int)] (.a (.g<|.n 1) ay) aj [aq ay<|aB aj] rfl<|bN.mpr<|fB a 1)<|jO<|bN.mp<|lI [((((-1)+(a:Int)).toNat:Nat):Int),(((a-1):Nat):Int),(a:Int)] ay (aB ah) [aq (.a (.g<|.n 1) ay) ah] rfl<|qX _
theorem QB(h1:a<=1000):a<2^20:=lN [a] (aB ah) dZ [aq ah cC] rfl h1
theorem QC(h1:a+b<=1000):a+b<=2^20:=lN [a,b] (.a ah aj) dZ [aq (.a ah aj) cC] rfl h1
theorem QD(h1:a<=900)(h2:b=c)(h3:c<a):b<=1000:=lN [a,b,c] aj cC [aq ah dS,aq aj ay,aV ay ah] rfl h1 (cj h2) h3
theorem QE(h1:a<=900)(h2:b=c)(h3:c<a):b<=900:=lN [a,b,c] aj dS [aq ah dS,aq aj ay,aV ay ah] rfl h1 (cj h2) h3
theorem rm(h1:a<=900):a<=1000:=lN [a] ah cC [aq ah dS] rfl h1
theorem QF:(-1000:Int)<=(1:Int):=by lia
theorem QG:(1:Int)<=(1000:Int):=lI [] bS cC [] rfl
theorem Aa:-1000<=(a:Int)-1:=lI [(a:Int)] iI (.s ah bS) [aq bD ah] rfl<|iY _
theorem QH(h1:a<=900):(a:Int)-1<=1000:=lI [(a:Int)] (.s ah bS) cC [aq ah dS] rfl<|bN.mpr h1
theorem QI:1+(a:Int)=((a+1:Nat):Int):=kq (lI [(a:Int)] (.a bS ah) (aB ah) [] rfl)<|lI [(a:Int)] (aB ah) (.a bS ah) [] rfl
theorem QJ(h1:1+(a:Int)<(b:Int)-1):a+1<b:=bN.mp<|lI [(a:Int),(b:Int)] (cY ah bS) aj [aV (.a bS ah)<|.s aj bS] rfl h1
theorem QK(h1:1+(a:Int)<(b:Int)-1):a<b:=bN.mp<|lI [(a:Int),(b:Int)] (aB ah) aj [aV (.a bS ah)<|.s aj bS] rfl h1
theorem QL(h1:1+(a:Int)<(b:Int)-1):a+2<b:=bN.mp<|lI [(a:Int),(b:Int)] (cY ah eS) aj [aV (.a bS ah)<|.s aj bS] rfl h1
theorem F0:((a+1:Nat):Int)-1=(a:Int):=kq (lI [(a:Int)] (.s (aB ah) bS) ah [] rfl)<|lI [(a:Int)] ah (.s (aB ah) bS) [] rfl
theorem QM:((a+1:Nat):Int)+1=((a+2:Nat):Int):=kq (lI [(a:Int)] (cY ah bS) (.a ah eS) [] rfl)<|lI [(a:Int)] (.a ah eS) (cY ah bS) [] rfl
theorem QN(h1:a=b)(h2:1+(c:Int)<(b:Int)-1):c+1<a:=bN.mp<|lI [(a:Int),(b:Int),(c:Int)] (cY ay bS) ah [aq aj ah,aV (.a bS ay)<|.s aj bS] rfl (bN.mpr<|cj h1.symm) h2
theorem l9:a<a+1:=lN [a] (aB ah) (aB ah) [] rfl
theorem QO(h1:a<=900)(h2:b<=c)(h3:c<a):b<=1000:=lN [a,b,c] aj cC [aq ah dS,aq aj ay,aV ay ah] rfl h1 h2 h3
theorem gX(h1:a<b):a<=b:=lN [a,b] ah aj [aV ah aj] rfl h1
theorem ud(h1:a<=b):a<=b:=lN [a,b] ah aj [aq ah aj] rfl h1
theorem ue(h1:a<b):a<b+1:=lN [a,b] (aB ah) (aB aj) [aV ah aj] rfl h1
theorem QS(h1:a<=900)(h2:b<=a):b<=1000:=lN [a,b] aj cC [aq ah dS,aq aj ah] rfl h1 h2
theorem QT(h1:a<b)(h2:b<=c):a-1<c:=lN [a,b,c,a-1] (aB aX) ay [aV ah aj,aq aj ay,aq aX ah] rfl h1 h2<|nf a 1
theorem QU(h1:0<a):(a:Int)-1=((a-1:Nat):Int):=by lia
theorem jx:-1000<=(a:Int):=lI [(a:Int)] iI ah [aq bD ah] rfl<|iY _
theorem QV(h1:a<=900)(h2:b<c)(h3:c<=a):(b:Int)<=1000:=lI [(a:Int),(b:Int),(c:Int)] aj cC [aq ah dS,aV aj ay,aq ay ah] rfl (bN.mpr h1) (bN.mpr<|ju h2)<|bN.mpr h3
theorem QW(h1:a<=900)(h2:b<=a):(b:Int)<=1000:=lI [(a:Int),(b:Int)] aj cC [aq ah dS,aq aj ah] rfl (bN.mpr h1)<|bN.mpr h2
theorem F1:(a:Int)+(b:Int)=((a+b:Nat):Int):=kq (lI [(a:Int),(b:Int)] (.a ah aj) (.a ah aj) [] rfl)<|lI [(a:Int),(b:Int)] (.a ah aj) (.a ah aj) [] rfl
theorem QX(h1:a<=b)(h2:c=b)(h3:(d:Int)+(e:Int)<(a:Int)):d+e<c:=bN.mp<|lI [(a:Int),(b:Int),(c:Int),(d:Int),(e:Int)] (cY aX eg) ay [aq ah aj,aq aj ay,aV (.a aX eg) ah] rfl (bN.mpr h1) (bN.mpr<|cj h2.symm) h3
theorem F2(h1:a<=900)(h2:b=a):b<=900:=lN [a,b] aj dS [aq ah dS,aq aj ah] rfl h1<|cj h2
theorem QY(h1:a<=900)(h2:b=a)(h3:c=b)(h4:d=c):d<=900:=lN [a,b,c,d] aX dS [aq ah dS,aq aj ah,aq ay aj,aq aX ay] rfl h1 (cj h2) (cj h3)<|cj h4
theorem QZ(h1:a<=900)(h2:b=a)(h3:c=b)(h4:d=c)(h5:e=d):e<=900:=lN [a,b,c,d,e] eg dS [aq ah dS,aq aj ah,aq ay aj,aq aX ay,aq eg aX] rfl h1 (cj h2) (cj h3) (cj h4)<|cj h5
theorem Q0(h1:a<=900)(h2:b=a)(h3:c=b)(h4:d=c)(h5:e=d)(h6:f=e)(h7:g=f):g<=900:=by lia
theorem Q2(h1:a=b)(h2:c=a)(h3:d=c)(h4:e=d)(h5:f=e)(h6:g=f)(h7:i=g):i=b:=by lia
theorem Ab(h1:a<=b)(h2:c<a):c<b:=lN [a,b,c] (aB ay) aj [aq ah aj,aV ay ah] rfl h1 h2
theorem Q3(h1:a<=b)(h2:b<=900)(h3:c<=a):(c:Int)<=1000:=lI [(a:Int),(b:Int),(c:Int)] ay cC [aq ah aj,aq aj dS,aq ay ah] rfl (bN.mpr h1) (bN.mpr h2)<|bN.mpr h3
theorem Q4(h1:a<=b)(h2:b<=900):(a:Int)<=1000:=lI [(a:Int),(b:Int)] ah cC [aq ah aj,aq aj dS] rfl (bN.mpr h1)<|bN.mpr h2
theorem Q5(h1:a<=b)(h2:(c:Int)+(d:Int)<(a:Int)):c+d<b:=bN.mp<|lI [(a:Int),(b:Int),(c:Int),(d:Int)] (cY ay aX) aj [aq ah aj,aV (.a ay aX) ah] rfl (bN.mpr h1) h2
theorem Q6(h1:a<=b)(h2:c=b):a<=c:=lN [a,b,c] ah ay [aq ah aj,aq aj ay] rfl h1<|cj h2.symm
theorem Q7(h1:a=b)(h2:c=a)(h3:d=c):d=b:=eI (lN [a,b,c,d] aX aj [aq ah aj,aq ay ah,aq aX ay] rfl (cj h1) (cj h2)<|cj h3)<|lN [a,b,c,d] aj aX [aq aj ah,aq ah ay,aq ay aX] rfl (cj h1.symm) (cj h2.symm)<|cj h3.symm
theorem F3(h1:a<=900):a<=999:=lN [a] ah (.n 999) [aq ah dS] rfl h1
theorem Q8:1<(a:Int)+1↔0<(a:Int):=by lia
theorem Q9(h1:a<=900):a<1000:=lN [a] (aB ah) cC [aq ah dS] rfl h1
theorem Q_(h1:a+2*b<=2*c/\a+b<=c):a+1+2*b<=2*(c+1)/\a+1+b<=c+1:=⟨lN [a,b,c] (cS ah bS<|.m 2 aj) (.m 2<|aB ay) [aq (.a ah<|.m 2 aj)<|.m 2 ay] rfl h1.1,lN [a,b,c] (cS ah bS aj) (aB ay) [aq (.a ah aj) ay] rfl h1.2⟩
theorem F4(h1:a+2*b<=2*c/\a+b<=c):a+2*b<=2*(c+1)/\a+b<=c+1:=⟨lN [a,b,c] (.a ah<|.m 2 aj) (.m 2<|aB ay) [aq (.a ah<|.m 2 aj)<|.m 2 ay] rfl h1.1,lN [a,b,c] (.a ah aj) (aB ay) [aq (.a ah aj) ay] rfl h1.2⟩
theorem Ra(h1:a+1+2*b<=2*c/\a+1+b<=c):a+2*(b+1)<=2*(c+1)/\a+(b+1)<=c+1:=⟨lN [a,b,c] (.a ah<|.m 2<|aB aj) (.m 2<|aB ay) [aq (cS ah bS<|.m 2 aj)<|.m 2 ay] rfl h1.1,lN [a,b,c] (.a ah<|aB aj) (aB ay) [aq (cS ah bS aj) ay] rfl h1.2⟩
theorem Rb(h1:a<=900):a+1<=1000:=lN [a] (aB ah) cC [aq ah dS] rfl h1
theorem Rc(h1:a<=400)(h2:b<a)(h3:c+d<=b):c<=900:=lN [a,b,c,d] ay dS [aq ah<|.n 400,aV aj ah,aq (.a ay aX) aj] rfl h1 h2 h3
theorem Rd(h1:a<=400)(h2:b<=2*c)(h3:c<a):b<=900:=lN [a,b,c] aj dS [(2,ah,.n 400),aq aj<|.m 2 ay,(2,aB ay,ah)] rfl h1 h2 h3
theorem Rf:0<(a:Int)↔0<a:=by omega
theorem Rg:a<=a+1:=lN [a] ah (aB ah) [] rfl
theorem Rh(h1:a<=b+1)(h2:c<=a+1):c<=b+1+1:=lN [a,b,c] ay (cY aj bS) [aq ah<|aB aj,aq ay<|aB ah] rfl h1 h2
theorem wM(h1:a<=800):a<=1000:=lN [a] ah cC [aq ah<|.n 800] rfl h1
theorem F5(h1:a+1<=800):a<=900:=lN [a] ah dS [aV ah<|.n 800] rfl h1
theorem Rj(h1:a<=800):a<=900:=lN [a] ah dS [aq ah<|.n 800] rfl h1
theorem Rk(h1:a<=40):a<=400:=lN [a] ah (.n 400) [aq ah rj] rfl h1
theorem Rm(h1:a<=40)(h2:b<a)(h3:c<=b+1):c<=800:=lN [a,b,c] ay (.n 800) [aq ah rj,aV aj ah,aq ay<|aB aj] rfl h1 h2 h3
theorem Rn(h1:a<=40)(h2:b<a):b<=800:=lN [a,b] aj (.n 800) [aq ah rj,aV aj ah] rfl h1 h2
theorem jP(h1:a<b+1)(h2:a≥b):a=b:=eI (lN [a,b] ah aj [aV ah<|aB aj] rfl h1)<|lN [a,b] aj ah [aq aj ah] rfl h2
theorem wN(h1:(a:Int)=(b:Int)):a=b:=eI (bN.mp<|lI [(a:Int),(b:Int)] ah aj [aq ah aj] rfl<|iX h1)<|bN.mp<|lI [(a:Int),(b:Int)] aj ah [aq aj ah] rfl<|iX h1.symm
theorem Ro(h1:a<=b/\c<=b):a<=b+1:=lN [a,b,c] ah (aB aj) [aq ah aj] rfl h1.1
theorem Rp(h1:a<=b/\c<=b):c<=b+1:=lN [a,b,c] ay (aB aj) [aq ay aj] rfl h1.2
theorem Rq(h1:a+(b+0)<=c):a+(b+(0+1)+0)<=c+1:=lN [a,b,c] (.a ah<|cS aj (aB bD) bD) (aB ay) [aq (.a ah<|.a aj bD) ay] rfl h1
theorem Rr(h1:a+(0+1)<=b):a+(0+1)<=b+1:=lN [a,b] (.a ah<|aB bD) (aB aj) [aq (.a ah<|aB bD) aj] rfl h1
theorem Ru(h1:¬a<b)(h2:¬b<a):a=b:=eI (lN [b,a] aj ah [aq aj ah] rfl<|Nat.le_of_not_lt h2)<|lN [b,a] ah aj [aq ah aj] rfl<|Nat.le_of_not_lt h1
theorem Rv(h1:a<=b):a+(0+1+0)<=b+1:=lN [a,b] (.a ah<|cS bD bS bD) (aB aj) [aq ah aj] rfl h1
theorem Rw(h1:a<=b):a+(0+1)<=b+1:=lN [a,b] (.a ah<|aB bD) (aB aj) [aq ah aj] rfl h1
theorem Rx:a+1<=a+1+0:=lN [a] (aB ah) (cS ah bS bD) [] rfl
theorem Ry(h1:a<=b)(h2:c<a):c<=b:=lN [a,b,c] ay aj [aq ah aj,aV ay ah] rfl h1 h2
theorem Rz:a<a+1+b:=lN [a,b] (aB ah) (cS ah bS aj) [] rfl
theorem RA(h1:a<=b):c+1+a<=c+1+b:=lN [a,b,c] (cS ay bS ah) (cS ay bS aj) [aq ah aj] rfl h1
theorem RB(h1:a<b)(h2:b<a+1+c):b-a-1<c:=wK (wK (lN [a,b,c,(b-a)-1,b-a] (aB aj) (cS ay bS ah) [aV aj<|cS ah bS ay] rfl h2)<|lN [a,b,c,(b-a)-1,b-a] (aB bD) (aB ay) [] rfl)<|lN [a,b,c,(b-a)-1,b-a] (aB bD) ay [aV ah aj,aV aj<|cS ah bS ay] rfl h1 h2
theorem wQ(h1:a<b):a+1+(b-a-1)=b:=by omega
theorem RC(h1:a<=b+1+c):a<=b+1+(c+1):=lN [a,b,c] ah (cS aj bS<|aB ay) [aq ah<|cS aj bS ay] rfl h1
theorem RD:a<a+1+(b+1):=lN [a,b] (aB ah) (cS ah bS<|aB aj) [] rfl
theorem RE:a+1+(b+1)<=a+1+(b+1):=lN [a,b] (cS ah bS<|aB aj) (cS ah bS<|aB aj) [] rfl
theorem RG(h1:a<b+1+(c+1)):a-b-1<=c:=jO<|jO<|lN [a,b,c,(a-b)-1,a-b] ah (cS ay bS aj) [aV ah<|cS aj bS<|aB ay] rfl h1
theorem RH(h1:a<b)(h2:a≥c):c<b:=lN [a,b,c] (aB ay) aj [aV ah aj,aq ay ah] rfl h1 h2
theorem F6(h1:a<=b)(h2:a≥b):a=b:=eI (lN [a,b] ah aj [aq ah aj] rfl h1)<|lN [a,b] aj ah [aq aj ah] rfl h2
theorem RI(h1:a<=100)(h2:b<a)(h3:c<=b/\d<=b):d<=1000:=lN [a,b,c,d] aX cC [aq ah gW,aV aj ah,aq aX aj] rfl h1 h2 h3.2
theorem RJ(h1:a<=100)(h2:b<a)(h3:c+(d+0)<=b/\e<=b):d<=900:=lN [a,b,c,d,e] aX dS [aq ah gW,aV aj ah,aq (.a ay<|.a aX bD) aj] rfl h1 h2 h3.1
theorem wR:a<=a+b:=lN [a,b] ah (.a ah aj) [] rfl
theorem RK(h1:a<=b):a<=c+b:=lN [a,b,c] ah (.a ay aj) [aq ah aj] rfl h1
theorem F7(h1:a<=20)(h2:b<=a)(h3:c<b):c<=1000:=lN [a,b,c] ay cC [aq ah cW,aq aj ah,aV ay aj] rfl h1 h2 h3
theorem RL(h1:a<=20):a<=900:=lN [a] ah dS [aq ah cW] rfl h1
theorem RM(h1:a<=20):a<=20*(b+1):=lN [a,b] ah (.m 20<|aB aj) [aq ah cW] rfl h1
theorem RN(h1:a<=20):a-b<1000:=lN [a,a-b,b] (aB aj) cC [aq ah cW,aq aj ah] rfl h1<|nf a b
theorem RO(h1:a<b)(h2:c=b-a):0<c:=lN [a,b,c,b-a] (aB bD) ay [aV ah aj,aq aX ay,aq aj<|.a aX ah] rfl h1 (cj h2.symm)<|fB b a
theorem RP(h1:a<=20)(h2:b<=a)(h3:c<a)(h4:d<=c)(h5:e<d)(h6:f<=20*(e+1)):f+b<=1000:=by lia
theorem RQ(h1:a=b-c)(h2:d<b)(h3:e<=d)(h4:c<e):b-d<a:=wK (lN [a,b-c,d,b,e,c,b-d] (aB aX) (.a ah ay) [aq aj ah,aq eg ay,aV kF eg,aq aX<|.a aj kF] rfl (cj h1.symm) h3 h4<|fB b c)<|lN [a,b-c,d,b,e,c,b-d] (aB bD) ah [aq aj ah,aV ay aX,aq eg ay,aV kF eg,aq aX<|.a aj kF] rfl (cj h1.symm) h2 h3 h4<|fB b c
theorem RS(h1:a<=20)(h2:b<=a)(h3:c<a)(h4:d<=c)(h5:e<d)(h6:f<=20*(e+1)):f+b<=900:=by lia
theorem RT(h1:a<=20)(h2:b<=a)(h3:c<=d)(h4:e<c)(h5:f<=20*(e+1)):f+b<=20*(d+1):=by lia
theorem RU(h1:a<=20)(h2:b<=a)(h3:c<=d)(h4:d<b):c<=1000:=lN [a,b,c,d] ay cC [aq ah cW,aq aj ah,aq ay aX,aV aX aj] rfl h1 h2 h3 h4
theorem RV(h1:a<=b)(h2:c<=a):c<=b:=lN [a,b,c] ay aj [aq ah aj,aq ay ah] rfl h1 h2
theorem uf(h1:a<=20):a<=100:=lN [a] ah gW [aq ah cW] rfl h1
theorem Ac(h1:a<=20):a<=400:=lN [a] ah (.n 400) [aq ah cW] rfl h1
theorem RW(h1:0<a):0<(a:Int):=lI [(a:Int)] (aB bD) ah [aV bD ah] rfl<|bN.mpr<|ju h1
theorem RX(h1:a<=400):a<1000:=lN [a] (aB ah) cC [aq ah<|.n 400] rfl h1
theorem RY(h1:(a:Int)<(b:Int)):a<b:=bN.mp<|lI [(a:Int),(b:Int)] (aB ah) aj [aV ah aj] rfl h1
theorem RZ(h1:a=b-c)(h2:c<b):a=a-1+1:=by lia
theorem R0(h1:a=b-c)(h2:c<=d):b-(d+1)<=a-1:=jO<|lN [a,b-c,c,d,b-(d+1),a-1,b] wL (.a kF<|aB aX) [aq aj ah,aq ay aX,aq wL<|.a aj ay,aq ah<|aB kF] rfl (cj h1.symm) h2 (fB b c)<|fB a 1
theorem R1(h1:a<=1000):-2^40<(a:Int)/\(a:Int)<2^40:=⟨lI [(a:Int)] (aB i8) ah [aq bD ah] rfl<|iY _,lI [(a:Int)] (aB ah) iH [aq ah cC] rfl<|bN.mpr h1⟩
theorem R3:(0:Nat)<=(1000:Nat):=lN [] bD cC [] rfl
theorem R5(h1:a<=20):a<=40:=lN [a] ah rj [aq ah cW] rfl h1
theorem F8(h1:a=0):a=0:=eI (lN [a] ah bD [aq ah bD] rfl<|cj h1)<|lN [a] bD ah [] rfl
theorem R6(h1:a<=20)(h2:b=a):b<=1000:=lN [a,b] aj cC [aq ah cW,aq aj ah] rfl h1<|cj h2
theorem R7(h1:a<=20):a<=20:=lN [a] ah cW [aq ah cW] rfl h1
theorem R8(h1:a=b)(h2:c≥a):b<=c:=lN [a,b,c] aj ay [aq aj ah,aq ah ay] rfl (cj h1.symm) h2
theorem R9(h1:a-1-b<a):a-1-b<a:=lN [(a-1)-b,a,a-1,b] (aB ah) aj [aV ah aj] rfl h1
theorem R_:a-(b+1)<=a-1-b:=jO<|lN [a-(b+1),(a-1)-b,a,b,a-1] ay (.a aj<|aB aX) [aq eg<|.a aj aX,aq ay<|aB eg] rfl (fB (a-1) b)<|fB a 1
theorem Sa(h1:a-b<=c):a-(b+1)<=c:=jO<|lN [a-b,c,a-(b+1),a,b] aX (.a aj<|aB eg) [aq ah aj,aq aX<|.a ah eg] rfl h1<|fB a b
theorem Sb(h1:¬a-1-b=c)(h2:¬a-b<=c):¬a-(b+1)<=c:=by lia
theorem F9(h1:a<b)(h2:b<=c):a<c:=lN [a,b,c] (aB ah) ay [aV ah aj,aq aj ay] rfl h1 h2
theorem Se(h1:a<b):b-a=b-a-1+1:=by lia
theorem Sf(h1:a-b=c+1):a-(c+1)=b:=by omega
theorem Sg(h1:a-b=c+1):a-(b+1)=c:=by omega
theorem Sh:a+b+c+1-1-b=a+c:=eI (jO<|jO<|lN [((((a+b)+c)+1)-1)-b,a,c,(((a+b)+c)+1)-1,b] (cY (.a aj eg) ay) (cY (.a aj ay) eg) [] rfl)<|lN [((((a+b)+c)+1)-1)-b,a,c,(((a+b)+c)+1)-1,b] (.a aj ay) ah [aq aX<|.a ah eg,aV (cS aj eg ay)<|aB aX] rfl (fB ((((a+b)+c)+1)-1) b)<|fB (((a+b)+c)+1) 1
theorem Sj:((a+b+c+1:Nat):Int)-1-(b:Int)=((a+c:Nat):Int):=kq (lI [(a:Int),(b:Int),(c:Int)] (.s (.s (cY (.a ah aj) ay) bS) aj) (.a ah ay) [] rfl)<|lI [(a:Int),(b:Int),(c:Int)] (.a ah ay) (.s (.s (cY (.a ah aj) ay) bS) aj) [] rfl
theorem Sk:a+b+c+1-(a+c)=b+1:=eI (jO<|lN [(((a+b)+c)+1)-(a+c),b,a,c] (cY (.a ay aj) aX) (cS aj bS<|.a ay aX) [] rfl)<|lN [(((a+b)+c)+1)-(a+c),b,a,c] (aB aj) ah [aV (cS ay aj aX)<|.a ah<|.a ay aX] rfl<|fB (((a+b)+c)+1)<|a+c
theorem Sl:a+b+c+1-(a+c+1)=b:=eI (jO<|lN [(((a+b)+c)+1)-((a+c)+1),b,a,c] (cY (.a ay aj) aX) (.a aj<|cY ay aX) [] rfl)<|lN [(((a+b)+c)+1)-((a+c)+1),b,a,c] aj ah [aV (cS ay aj aX)<|.a ah<|cY ay aX] rfl<|fB (((a+b)+c)+1)<|(a+c)+1
theorem Sm:a+b<a+c+b+1:=lN [a,b,c] (cY ah aj) (cY (.a ah ay) aj) [] rfl
theorem F_(h1:a<=20)(h2:b<c)(h3:c<=a):b<=1000:=lN [a,b,c] aj cC [aq ah cW,aV aj ay,aq ay ah] rfl h1 h2 h3
theorem wU(h1:a<=20)(h2:b<=a):b<=1000:=lN [a,b] aj cC [aq ah cW,aq aj ah] rfl h1 h2
theorem So(h1:a=b)(h2:c<=b):c<=a:=lN [a,b,c] ay ah [aq aj ah,aq ay aj] rfl (cj h1.symm) h2
theorem Sp(h1:a<=20)(h2:b<=a):(b:Int)-1<=1000:=lI [(a:Int),(b:Int)] (.s aj bS) cC [aq ah cW,aq aj ah] rfl (bN.mpr h1)<|bN.mpr h2
theorem Sq(h1:a<=20)(h2:b<c)(h3:c<=a):(b:Int)-1<=1000:=lI [(a:Int),(b:Int),(c:Int)] (.s aj bS) cC [aq ah cW,aV aj ay,aq ay ah] rfl (bN.mpr h1) (bN.mpr<|ju h2)<|bN.mpr h3
theorem Ss(h1:(a:Int)-1<(b:Int)-1-(c:Int)):c<b-a:=bN.mp<|lI [(a:Int),(b:Int),(c:Int),(((b-a):Nat):Int)] (aB ay) aX [aV (.s ah bS)<|.s (.s aj bS) ay,aq aj<|.a aX ah] rfl h1<|bN.mpr<|fB b a
theorem Su:((a:Int)-1-((b:Int)-1)).toNat=a-b:=eI (p5<|lI [(((((a:Int)-1)-((b:Int)-1)).toNat:Nat):Int),(((a-b):Nat):Int),(a:Int),(b:Int)] (.s (.s ay bS)<|.s aX bS) aj [aq ay<|.a aj aX] rfl<|bN.mpr<|fB a b)<|jO<|bN.mp<|lI [(((((a:Int)-1)-((b:Int)-1)).toNat:Nat):Int),(((a-b):Nat):Int),(a:Int),(b:Int)] ay (.a ah aX) [aq (.s (.s ay bS)<|.s aX bS) ah] rfl<|qX _
theorem Ga(h1:a<=20)(h2:b<c)(h3:c<=a):(b:Int)<=1000:=lI [(a:Int),(b:Int),(c:Int)] aj cC [aq ah cW,aV aj ay,aq ay ah] rfl (bN.mpr h1) (bN.mpr<|ju h2)<|bN.mpr h3
theorem Gb(h1:a<=20)(h2:b<=a):(b:Int)<=1000:=lI [(a:Int),(b:Int)] aj cC [aq ah cW,aq aj ah] rfl (bN.mpr h1)<|bN.mpr h2
theorem Sv(h1:(a:Int)+(b:Int)<(c:Int)):a+b<c:=bN.mp<|lI [(a:Int),(b:Int),(c:Int)] (cY ah aj) ay [aV (.a ah aj) ay] rfl h1
theorem Sw(h1:a<=20)(h2:b<=a)(h3:(c:Int)+(d:Int)<(b:Int)):d<=900:=bN.mp<|lI [(a:Int),(b:Int),(c:Int),(d:Int)] aX dS [aq ah cW,aq aj ah,aV (.a ay aX) aj,aq bD ay] rfl (bN.mpr h1) (bN.mpr h2) h3<|iY _
theorem Sy(h1:a<=20)(h2:b<=a):b-c<1000:=lN [a,b,b-c,c] (aB ay) cC [aq ah cW,aq aj ah,aq ay aj] rfl h1 h2<|nf b c
theorem Ge:((a:Int)-(b:Int)).toNat=a-b:=eI (p5<|lI [((((a:Int)-(b:Int)).toNat:Nat):Int),(((a-b):Nat):Int),(a:Int),(b:Int)] (.s ay aX) aj [aq ay<|.a aj aX] rfl<|bN.mpr<|fB a b)<|jO<|bN.mp<|lI [((((a:Int)-(b:Int)).toNat:Nat):Int),(((a-b):Nat):Int),(a:Int),(b:Int)] ay (.a ah aX) [aq (.s ay aX) ah] rfl<|qX _
theorem Sz(h1:a<=b)(h2:b<=a+0):b=a:=eI (lN [a,b] aj ah [aq aj<|.a ah bD] rfl h2)<|lN [a,b] ah aj [aq ah aj] rfl h1
theorem Gf(h1:a<=b+c):a<=b+(c+1):=lN [a,b,c] ah (.a aj<|aB ay) [aq ah<|.a aj ay] rfl h1
theorem Gg(h1:a<=b+(c+1))(h2:¬a=b+(c+1)):a<=b+c:=by lia
theorem SA:a<=a+(b+1):=lN [a,b] ah (.a ah<|aB aj) [] rfl
theorem Gh:min a b<=a:=lN [min a b,a,b] ah aj [aq ah aj] rfl<|jN a b
theorem Gi:a<=max a b:=lN [a,max a b,b] ah aj [aq ah aj] rfl<|Nat.le_max_left a b
theorem Gj:min a b<=b:=lN [min a b,b,a] ah aj [aq ah aj] rfl<|lV a b
theorem Gk:a<=max b a:=lN [a,max b a,b] ah aj [aq ah aj] rfl<|Nat.le_max_right b a
theorem SD(h1:a<b)(h2:b<c):a≠c:=gP<|lN [a,b,c] (aB ah) ay [aV ah aj,aV aj ay] rfl h1 h2
theorem SE(h1:a<b):min a c<=b:=lN [a,b,min a c,c] ay aj [aV ah aj,aq ay ah] rfl h1<|jN a c
theorem SG(h1:a<b):a<=max c b:=lN [a,b,max c b,c] ah ay [aV ah aj,aq aj ay] rfl h1<|Nat.le_max_right c b
theorem SH(h1:a<b)(h2:b<c):a<c:=lN [a,b,c] (aB ah) ay [aV ah aj,aV aj ay] rfl h1 h2
theorem SI(h1:a<b):a≠b:=gP<|lN [a,b] (aB ah) aj [aV ah aj] rfl h1
theorem SJ(h1:a<=b):min a c<=b:=lN [a,b,min a c,c] ay aj [aq ah aj,aq ay ah] rfl h1<|jN a c
theorem SK(h1:a<=b):a<=max c b:=lN [a,b,max c b,c] ah ay [aq ah aj,aq aj ay] rfl h1<|Nat.le_max_right c b
theorem Gl(h1:a≥b):b<=a:=lN [b,a] ah aj [aq ah aj] rfl h1
theorem SM(h1:a<=b):min c a<=b:=lN [a,b,min c a,c] ay aj [aq ah aj,aq ay ah] rfl h1<|lV c a
theorem SN(h1:a<=b):a<=max b c:=lN [a,b,max b c,c] ah ay [aq ah aj,aq aj ay] rfl h1<|Nat.le_max_left b c
theorem SO(h1:min a b<=c)(h2:a<b):a<=c:=by lia
theorem SQ(h1:a<=max b c)(h2:b<c):a<=c:=by lia
theorem SR(h1:min a b<=c)(h2:a≥b):b<=c:=by lia
theorem SS(h1:a<=max b c)(h2:b≥c):a<=b:=by lia
theorem i9(h1:a<b):¬b<a:=tQ<|lN [a,b] ah aj [aV ah aj] rfl h1
theorem SV(h1:a<=100)(h2:b+c<=d)(h3:d<a):c<=1000:=lN [a,b,c,d] ay cC [aq ah gW,aq (.a aj ay) aX,aV aX ah] rfl h1 h2 h3
theorem Gm(h1:a+b<=c):a+(b+1)<=c+1:=lN [a,b,c] (.a ah<|aB aj) (aB ay) [aq (.a ah aj) ay] rfl h1
theorem SW(h1:0<a):a≠0:=Nat.ne_of_gt<|lN [a] (aB bD) ah [aV bD ah] rfl h1
theorem Gn(h1:a<=100)(h2:b+c<=d)(h3:d<a):b+c<=1000:=lN [a,b,c,d] (.a aj ay) cC [aq ah gW,aq (.a aj ay) aX,aV aX ah] rfl h1 h2 h3
theorem Gp(h1:0<a):0<a:=lN [a] (aB bD) ah [aV bD ah] rfl h1
theorem SX(h1:a<=100)(h2:b+c<=a):b+c<=1000:=lN [a,b,c] (.a aj ay) cC [aq ah gW,aq (.a aj ay) ah] rfl h1 h2
theorem Ad(h1:a<=20):(a:Int)<=1000:=lI [(a:Int)] ah cC [aq ah cW] rfl<|bN.mpr h1
theorem SY(h1:a<=20)(h2:b<=a):b<64:=lN [a,b] (aB aj) kG [aq ah cW,aq aj ah] rfl h1 h2
theorem Gq(h1:a<=20)(h2:b<=a):b<=100:=lN [a,b] aj gW [aq ah cW,aq aj ah] rfl h1 h2
theorem S1(h1:a+b<min (c+1) d):a+b<c+1:=lN [a,b,min (c+1) d,c,d] (cY ah aj) (aB aX) [aV (.a ah aj) ay,aq ay<|aB aX] rfl h1<|jN (c+1) d
theorem S3(h1:a+b<min (c+1) d):a+b<=c:=lN [a,b,min (c+1) d,c,d] (.a ah aj) aX [aV (.a ah aj) ay,aq ay<|aB aX] rfl h1<|jN (c+1) d
theorem S4(h1:a<=b):a<b+1:=lN [a,b] (aB ah) (aB aj) [aq ah aj] rfl h1
theorem S5(h1:a<=20)(h2:b<=c)(h3:c<a):b<=1000:=lN [a,b,c] aj cC [aq ah cW,aq aj ay,aV ay ah] rfl h1 h2 h3
theorem S6(h1:a<=20)(h2:b<a):b+1<=1000:=lN [a,b] (aB aj) cC [aq ah cW,aV aj ah] rfl h1 h2
theorem S7(h1:a<b):min a b=a:=by lia
theorem S8(h1:a=b):a+(0+0)=b:=eI (lN [a,b] (.a ah<|.a bD bD) aj [aq ah aj] rfl<|cj h1)<|lN [a,b] aj (.a ah<|.a bD bD) [aq aj ah] rfl<|cj h1.symm
theorem S9:a+(b+1)=a+b+1:=eI (lN [a,b] (.a ah<|aB aj) (cY ah aj) [] rfl)<|lN [a,b] (cY ah aj) (.a ah<|aB aj) [] rfl
theorem S_:a+1+b=a+b+1:=eI (lN [a,b] (cS ah bS aj) (cY ah aj) [] rfl)<|lN [a,b] (cY ah aj) (cS ah bS aj) [] rfl
theorem Tc(h1:a<=1000):(a:Int)<=2^20:=lI [(a:Int)] ah dZ [aq ah cC] rfl<|bN.mpr h1
theorem Gr:(a:Int)<(b:Int)↔a<b:=by omega
theorem Td(h1:a+b=c):(a:Int)+(b:Int)=(c:Int):=kq (lI [(a:Int),(b:Int),(c:Int)] (.a ah aj) ay [aq (.a ah aj) ay] rfl<|bN.mpr<|cj h1)<|lI [(a:Int),(b:Int),(c:Int)] ay (.a ah aj) [aq ay<|.a ah aj] rfl<|bN.mpr<|cj h1.symm
theorem Te(h1:a<b)(h2:c=b):a<c:=lN [a,b,c] (aB ah) ay [aV ah aj,aq aj ay] rfl h1<|cj h2.symm
theorem Ae(h1:a<=100):a<=1000:=lN [a] ah cC [aq ah gW] rfl h1
theorem Tf(h1:a<min b c):a<b:=lN [a,min b c,b,c] (aB ah) ay [aV ah aj,aq aj ay] rfl h1<|jN b c
theorem Tg(h1:a<min b c):a<c:=lN [a,min b c,c,b] (aB ah) ay [aV ah aj,aq aj ay] rfl h1<|lV b c
theorem Th(h1:a<b):(a:Int)<=(b:Int):=lI [(a:Int),(b:Int)] ah aj [aV ah aj] rfl<|bN.mpr<|ju h1
theorem Ti(h1:a<=20):a<64:=lN [a] (aB ah) kG [aq ah cW] rfl h1
theorem Gs:-1000<=(a:Int)+1:=lI [(a:Int)] iI (aB ah) [aq bD ah] rfl<|iY _
theorem Gu(h1:a<=20)(h2:b<a):(b:Int)+1<=1000:=lI [(a:Int),(b:Int)] (aB aj) cC [aq ah cW,aV aj ah] rfl (bN.mpr h1)<|bN.mpr<|ju h2
theorem Tj(h1:a<=20)(h2:b<a):(b:Int)<=1000:=lI [(a:Int),(b:Int)] aj cC [aq ah cW,aV aj ah] rfl (bN.mpr h1)<|bN.mpr<|ju h2
theorem To:(a:Int)+1+(b:Int)=((a+(b+1):Nat):Int):=kq (lI [(a:Int),(b:Int)] (cS ah bS aj) (.a ah<|aB aj) [] rfl)<|lI [(a:Int),(b:Int)] (.a ah<|aB aj) (cS ah bS aj) [] rfl
theorem Tp(h1:a<b+1+(c+1))(h2:a≥b+(c+1)):a=b+(c+1):=eI (lN [a,b,c] ah (.a aj<|aB ay) [aV ah<|cS aj bS<|aB ay] rfl h1)<|lN [a,b,c] (.a aj<|aB ay) ah [aq (.a aj<|aB ay) ah] rfl h2
theorem Tq(h1:(a:Int)+1+(b:Int)<(c:Int)):a+(b+1)<c:=bN.mp<|lI [(a:Int),(b:Int),(c:Int)] (cY ah<|aB aj) ay [aV (cS ah bS aj) ay] rfl h1
theorem Tr(h1:a<b):a<c+1+((b:Int)-((c:Int)+1)).toNat:=bN.mp<|lI [(a:Int),(b:Int),(c:Int),((((b:Int)-((c:Int)+1)).toNat:Nat):Int)] (aB ah) (cS ay bS aX) [aV ah aj,aq (.s aj<|aB ay) aX] rfl (bN.mpr<|ju h1)<|qX _
theorem Tt(h1:a<b):a<((b:Int)-0).toNat:=bN.mp<|lI [(a:Int),(b:Int),((((b:Int)-0).toNat:Nat):Int)] (aB ah) ay [aV ah aj,aq (.s aj bD) ay] rfl (bN.mpr<|ju h1)<|qX _
theorem Tu:¬a+1<0:=tQ<|lN [a] bD (aB ah) [] rfl
theorem Tv:0<a+1:=lN [a] (aB bD) (aB ah) [] rfl
theorem Tw(h1:a<=b)(h2:b<a+1):b=a:=eI (lN [a,b] aj ah [aV aj<|aB ah] rfl h2)<|lN [a,b] ah aj [aq ah aj] rfl h1
theorem Tz(h1:a+1<=b):a+1<=b+1:=lN [a,b] (aB ah) (aB aj) [aV ah aj] rfl h1
theorem TA(h1:a<b+1):a<b+1:=lN [a,b] (aB ah) (aB aj) [aV ah<|aB aj] rfl h1
theorem Gv(h1:a<b-c):c+a<b:=lN [a,b-c,c,b] (cY ay ah) aX [aV (.a ah ay) aX] rfl<|zY h1
theorem TF(h1:a<=b)(h2:b<c):b-a<c-a:=lN [a,b,c,b-a,c-a] (aB aX) eg [aV aj ay,aq ay<|.a eg ah,aq (.a aX ah) aj] rfl h2 (fB c a)<|t_ h1
theorem TG(h1:a<b):c+a<c+b:=lN [a,b,c] (cY ay ah) (.a ay aj) [aV ah aj] rfl h1
theorem TH(h1:a<b)(h2:c<=a):c<b:=lN [a,b,c] (aB ay) aj [aV ah aj,aq ay ah] rfl h1 h2
theorem TJ(h1:a<=b)(h2:¬b=a):a<b:=by lia
theorem TL(h1:a<=b)(h2:¬a=b):a<b:=by lia
theorem TM(h1:a<=20)(h2:b<a)(h3:c<=b):c<=900:=lN [a,b,c] ay dS [aq ah cW,aV aj ah,aq ay aj] rfl h1 h2 h3
theorem Gw(h1:a<=20)(h2:b<=a):b<=20:=lN [a,b] aj cW [aq ah cW,aq aj ah] rfl h1 h2
theorem Af(h1:a<=b)(h2:c<a-d):d+c<b:=lN [a,b,c,a-d,d] (cY eg ay) aj [aq ah aj,aV (.a ay eg) ah] rfl h1<|zY h2
theorem TN:0+9<=a+9:=lN [a] (.a bD p6) (.a ah p6) [] rfl
theorem TP:0+5<=a+5:=lN [a] (.a bD oB) (.a ah oB) [] rfl
theorem TQ(h1:a<=20)(h2:b<a):min b c<=20:=lN [a,b,min b c,c] ay cW [aq ah cW,aV aj ah,aq ay aj] rfl h1 h2<|jN b c
theorem TS(h1:a=b)(h2:c<b):c<a:=lN [a,b,c] (aB ay) ah [aq aj ah,aV ay aj] rfl (cj h1.symm) h2
theorem TU(h1:a<=20):a<=1000:=lN [a] ah cC [aq ah cW] rfl h1
theorem TV(h1:a<=100):min b a<=100:=lN [a,min b a,b] aj gW [aq ah gW,aq aj ah] rfl h1<|lV b a
theorem TX(h1:a=b)(h2:c<a):c<b:=lN [a,b,c] (aB ay) aj [aq ah aj,aV ay ah] rfl (cj h1) h2
theorem TY(h1:0<a):0≠a:=gP<|lN [a] (aB bD) ah [aV bD ah] rfl h1
theorem TZ(h1:a<=100):a<=999:=lN [a] ah (.n 999) [aq ah gW] rfl h1
theorem T3(h1:a<=b):min a b-c=a-c:=by lia
theorem T4(h1:a<b-c)(h2:b<=d):c+a<d:=lN [a,b-c,c,b,d] (cY ay ah) eg [aV (.a ah ay) aX,aq aX eg] rfl (zY h1) h2
theorem Gx(h1:a=b-c)(h2:d=b-c)(h3:e<a):e<d:=lN [a,b-c,d,e,b,c] (aB aX) ay [aq ah aj,aq aj ay,aV aX ah] rfl (cj h1) (cj h2.symm) h3
theorem Gy(h1:a=b-c)(h2:d=b-c):a=d:=eI (lN [a,b-c,d,b,c] ah ay [aq ah aj,aq aj ay] rfl (cj h1)<|cj h2.symm)<|lN [a,b-c,d,b,c] ay ah [aq aj ah,aq ay aj] rfl (cj h1.symm)<|cj h2
theorem T5(h1:a<=20)(h2:b<=a)(h3:c=b-d)(h4:e<=c):e<=100:=lN [a,b,c,b-d,e,d] eg gW [aq ah cW,aq aj ah,aq ay aX,aq eg ay,aq aX aj] rfl h1 h2 (cj h3) h4<|nf b d
theorem T6(h1:a<=20)(h2:b<=a)(h3:c=b-d):c<=20:=lN [a,b,c,b-d,d] ay cW [aq ah cW,aq aj ah,aq ay aX,aq aX aj] rfl h1 h2 (cj h3)<|nf b d
theorem T7(h1:a<=b+c)(h2:b<=d+1):a<=d+(c+1):=lN [a,b,c,d] ah (.a aX<|aB ay) [aq ah<|.a aj ay,aq aj<|aB aX] rfl h1 h2
theorem T8(h1:a<=60):a<64:=lN [a] (aB ah) kG [aq ah<|.n 60] rfl h1
theorem T9(h1:a<=60)(h2:b=a)(h3:c<=min d b):c<=900:=lN [a,b,c,min d b,d] ay dS [aq ah<|.n 60,aq aj ah,aq ay aX,aq aX aj] rfl h1 (cj h2) h3<|lV d b
theorem T_(h1:a<=b)(h2:b<=20)(h3:c<=a-d):c<64:=lN [a,b,c,a-d,d] (aB ay) kG [aq ah aj,aq aj cW,aq ay aX,aq aX ah] rfl h1 h2 h3<|nf a d
theorem Ua(h1:a<=b)(h2:b<=c)(h3:c<=20):(a:Int)<=1000:=lI [(a:Int),(b:Int),(c:Int)] ah cC [aq ah aj,aq aj ay,aq ay cW] rfl (bN.mpr h1) (bN.mpr h2)<|bN.mpr h3
theorem Ub(h1:a<=b)(h2:b<=20):(a:Int)<=1000:=lI [(a:Int),(b:Int)] ah cC [aq ah aj,aq aj cW] rfl (bN.mpr h1)<|bN.mpr h2
theorem Uc(h1:a<=b)(h2:b<=20)(h3:c<=a-d):c<=20:=lN [a,b,c,a-d,d] ay cW [aq ah aj,aq aj cW,aq ay aX,aq aX ah] rfl h1 h2 h3<|nf a d
theorem Ud(h1:a<=20)(h2:b<=min c a):b<=900:=lN [a,b,min c a,c] aj dS [aq ah cW,aq aj ay,aq ay ah] rfl h1 h2<|lV c a
theorem Ue(h1:a≠b):c+a≠c+b:=by lia
theorem Ug(h1:a<b)(h2:c<=a):a-c<b-c:=lN [a,b,c,a-c,b-c] (aB aX) eg [aV ah aj,aq aj<|.a eg ay,aq (.a aX ay) ah] rfl h1 (fB b c)<|t_ h2
theorem Uh(h1:((a+1:Nat):Int)<=(b:Int)):a<b:=bN.mp<|lI [(a:Int),(b:Int)] (aB ah) aj [aV ah aj] rfl h1
theorem Ui:-(2:Int)^(40:Nat)<(60013:Int)/\(60013:Int)<(2:Int)^(40:Nat):=by lia
theorem Uj:-(2:Int)^(40:Nat)<(48271:Int)/\(48271:Int)<(2:Int)^(40:Nat):=by lia
theorem Uk:(0:Int)<(64:Int)/\(64:Int)<(2:Int)^(40:Nat):=by lia
theorem Ul(h1:¬(a:Int)=(b:Int))(h2:b=a):c+1<=c:=by lia
theorem Gz:(1:Nat)<=(1000:Nat):=lN [] bS cC [] rfl
theorem Um(h1:a+1+1<=20):a+1+(0+1)<=2^20:=lN [a] (cS ah bS<|aB bD) dZ [aV (aB ah) cW] rfl h1
theorem Un(h1:a=b):b=a:=eI (lN [a,b] aj ah [aq aj ah] rfl<|cj h1.symm)<|lN [a,b] ah aj [aq ah aj] rfl<|cj h1
theorem Uo(h1:a=b)(h2:b<=20):a<=20:=lN [a,b] ah cW [aq ah aj,aq aj cW] rfl (cj h1) h2
theorem Up(h1:a<=80):a<=90:=lN [a] ah nq [aq ah p7] rfl h1
theorem Ag:0<(a:Int)+1:=lI [(a:Int)] (aB bD) (aB ah) [aq bD ah] rfl<|iY _
theorem Uq(h1:a<=80):a+1<=90:=lN [a] (aB ah) nq [aq ah p7] rfl h1
theorem Ur:(24:Nat)<=(1000:Nat):=lN [] (.n 24) cC [] rfl
theorem Us(h1:a+(b+1)<=80):a<=90:=lN [a,b] ah nq [aq (.a ah<|aB aj) p7] rfl h1
theorem Ut(h1:a+(b+1)<=80):a+1+b<=80:=lN [a,b] (cS ah bS aj) p7 [aq (.a ah<|aB aj) p7] rfl h1
theorem Uu(h1:a<=11):a<=90:=lN [a] ah nq [aq ah<|.n 11] rfl h1
theorem Uv(h1:a<=11)(h2:b<=2):a+1+b<=80:=lN [a,b] (cS ah bS aj) p7 [aq ah<|.n 11,aq aj eS] rfl h1 h2
theorem Uw(h1:a<=2)(h2:b=a):b<=2:=lN [a,b] aj eS [aq ah eS,aq aj ah] rfl h1<|cj h2
theorem Ux(h1:a<=11)(h2:b<=2):a+1+b<=14:=lN [a,b] (cS ah bS aj) (.n 14) [aq ah<|.n 11,aq aj eS] rfl h1 h2
theorem Uy:(0:Nat)<=(90:Nat):=lN [] bD nq [] rfl
theorem Uz:(1:Nat)<=(90:Nat):=lN [] bS nq [] rfl
theorem UA(h1:a<=9/\0<a):0<a:=lN [a] (aB bD) ah [aV bD ah] rfl h1.2
theorem UB(h1:a<=9/\0<a):a<=20:=lN [a] ah cW [aq ah p6] rfl h1.1
theorem UC(h1:a<=2):a<64:=lN [a] (aB ah) kG [aq ah eS] rfl h1
theorem UD(h1:a<=14):a<=90:=lN [a] ah nq [aq ah<|.n 14] rfl h1
theorem UE(h1:a<=2)(h2:b<1+a):b<=2:=lN [a,b] aj eS [aq ah eS,aV aj<|.a bS ah] rfl h1 h2
theorem UG(h1:a<=14)(h2:b<=a+1+2*c)(h3:c<=2):b<=80:=lN [a,b,c] aj p7 [aq ah<|.n 14,aq aj<|cS ah bS<|.m 2 ay,(2,ay,eS)] rfl h1 h2 h3
theorem UH(h1:a<=b+1+2*c)(h2:d<=a+2):d<=b+1+2*(c+1):=lN [a,b,c,d] aX (cS aj bS<|.m 2<|aB ay) [aq ah<|cS aj bS<|.m 2 ay,aq aX<|.a ah eS] rfl h1 h2
end
section
variable {a b c d e f g h i j:Int}
theorem GA(h1:-2^40<a/\a<2^40):a.natAbs<2^40:=by omega
theorem UI(h1:0<=a):¬a<0:=Int.not_lt.mpr<|lI [a] bD ah [aq bD ah] rfl h1
theorem Ah(h1:-2^40<a/\a<2^40):a<2^63:=lI [a] (aB ah) (.n 9223372036854775808) [aV ah iH] rfl h1.2
theorem Ai(h1:-2^40<a/\a<2^40):-2^63<=a:=lI [a] (.g<|.n 9223372036854775808) ah [aV i8 ah] rfl h1.1
theorem UJ(h1:0<=a):-2^40<a:=lI [a] (aB i8) ah [aq bD ah] rfl h1
theorem UK(h1:a<0):a<2^40:=lI [a] (aB ah) iH [aV ah bD] rfl h1
theorem UL:a<=b->b<=c->a<=c:=by lia
theorem GC:a<=b\/b<=a:=by lia
theorem GD(h1:a<=b)(h2:b<=a):a=b:=kq (lI [a,b] ah aj [aq ah aj] rfl h1)<|lI [a,b] aj ah [aq aj ah] rfl h2
theorem GF(h1:¬a<b):b<=a:=lI [b,a] ah aj [aq ah aj] rfl<|Int.not_lt.mp h1
theorem UM(h1:¬a>b):a<=b:=lI [a,b] ah aj [aq ah aj] rfl<|Int.not_lt.mp h1
theorem GG(h1:a<b)(h2:b<=c):a<=c:=lI [a,b,c] ah ay [aV ah aj,aq aj ay] rfl h1 h2
theorem GH(h1:a<=min b c):a<=b:=lI [a,min b c,b,c] ah ay [aq ah aj,aq aj ay] rfl h1<|Int.min_le_left b c
theorem GI(h1:a<=min b c):a<=c:=lI [a,min b c,c,b] ah ay [aq ah aj,aq aj ay] rfl h1<|Int.min_le_right b c
theorem UN(h1:a<=b):min a b=a:=by lia
theorem UO(h1:¬a<=b):min a b=b:=by lia
theorem UP(h1:a<=b)(h2:c=b)(h3:c<=a):a=c:=kq (lI [a,b,c] ah ay [aq ah aj,aq aj ay] rfl h1<|iX h2.symm)<|lI [a,b,c] ay ah [aq ay ah] rfl h3
theorem UQ(h1:0<=a)(h2:a<=2^20):-9223372036854775808<=a/\a<9223372036854775808:=⟨lI [a] (.g<|.n 9223372036854775808) ah [aq bD ah] rfl h1,lI [a] (aB ah) (.n 9223372036854775808) [aq ah dZ] rfl h2⟩
theorem UR(h1:a<=2^20):a<=1152921504606846975:=lI [a] ah (.n 1152921504606846975) [aq ah dZ] rfl h1
theorem US(h1:a<=2^20):a<=16777216:=lI [a] ah (.n 16777216) [aq ah dZ] rfl h1
theorem UT(h1:a<=2^20):a.toNat<=2^20:=p5<|lI [a,(((a).toNat:Nat):Int)] ah dZ [aq ah dZ] rfl h1
theorem GJ(h1:a-b<=2^20):(a-b).toNat<=2^20:=p5<|lI [a,b,(((a-b).toNat:Nat):Int)] (.s ah aj) dZ [aq (.s ah aj) dZ] rfl h1
theorem UU(h1:-1000<=a)(h2:a<=1000)(h3:-1000<=b)(h4:b<=1000):((-2^40<a/\a<2^40)/\-2^40<b/\b<2^40)/\b-a<=2^20:=⟨⟨⟨lI [a,b] (aB i8) ah [aq iI ah] rfl h1,lI [a,b] (aB ah) iH [aq ah cC] rfl h2⟩,⟨lI [a,b] (aB i8) aj [aq iI aj] rfl h3,lI [a,b] (aB aj) iH [aq aj cC] rfl h4⟩⟩,lI [a,b] (.s aj ah) dZ [aq iI ah,aq aj cC] rfl h1 h4⟩
theorem UW(h1:-1000<=a)(h2:a<=1000):(-2^40<a/\a<2^40)/\a<=2^20:=⟨⟨lI [a] (aB i8) ah [aq iI ah] rfl h1,lI [a] (aB ah) iH [aq ah cC] rfl h2⟩,lI [a] ah dZ [aq ah cC] rfl h2⟩
theorem UX(h1:-1000<=a)(h2:a<=1000)(h3:-1000<=b)(h4:b<=1000):(((-2^40<a/\a<2^40)/\-2^40<b/\b<2^40)/\-2^40<b-a/\b-a<2^40)/\a-b<=2^20:=⟨⟨⟨⟨lI [a,b] (aB i8) ah [aq iI ah] rfl h1,lI [a,b] (aB ah) iH [aq ah cC] rfl h2⟩,⟨lI [a,b] (aB i8) aj [aq iI aj] rfl h3,lI [a,b] (aB aj) iH [aq aj cC] rfl h4⟩⟩,⟨lI [a,b] (aB i8) (.s aj ah) [aq ah cC,aq iI aj] rfl h2 h3,lI [a,b] (aB<|.s aj ah) iH [aq iI ah,aq aj cC] rfl h1 h4⟩⟩,lI [a,b] (.s ah aj) dZ [aq ah cC,aq iI aj] rfl h2 h3⟩
theorem GK(h1:a<=80):(a-65).toNat<16:=by omega
theorem UY(h1:65<=a):65+(((a-65).toNat:Nat):Int)=a:=by lia
theorem UZ:a<=a+0:=lI [a] ah (.a ah bD) [] rfl
theorem U0:a+0<=a+2:=lI [a] (.a ah bD) (.a ah eS) [] rfl
theorem U4:a<=a+2:=lI [a] ah (.a ah eS) [] rfl
theorem U5:a+2<=a+2:=lI [a] (.a ah eS) (.a ah eS) [] rfl
theorem U8:a<=a+1:=lI [a] ah (aB ah) [] rfl
theorem U9:a+1<=a+2:=lI [a] (aB ah) (.a ah eS) [] rfl
theorem U_(h1:a<=b/\b<=c):a<=b/\b<=c+2:=⟨lI [a,b,c] ah aj [aq ah aj] rfl h1.1,lI [a,b,c] aj (.a ay eS) [aq aj ay] rfl h1.2⟩
theorem U'(h1:a<=b/\b<=c)(h2:b+1<=d/\d<=b+2):a<=d/\d<=c+2:=⟨lI [a,b,c,d] ah aX [aq ah aj,aV aj aX] rfl h1.1 h2.1,lI [a,b,c,d] aX (.a ay eS) [aq aj ay,aq aX<|.a aj eS] rfl h1.2 h2.2⟩
theorem Va:a<=a/\a<=a+2*(0:Int):=⟨lI [a] ah ah [] rfl,lI [a] ah (.a ah<|.m 2 bD) [] rfl⟩
theorem GN(h1:a<=100)(h2:a+1<=b/\b<=a+2):b<=125:=lI [a,b] aj (.n 125) [aq ah gW,aq aj<|.a ah eS] rfl h1 h2.2
theorem Vb(h1:a<b)(h2:b<=c):a<c:=lI [a,b,c] (aB ah) ay [aV ah aj,aq aj ay] rfl h1 h2
theorem GO(h1:a+1<=b/\b<=a+2):a<b:=lI [a,b] (aB ah) aj [aV ah aj] rfl h1.1
theorem Vc(h1:0<=a/\a<=41)(h2:a<=b/\b<=a+2):0<=b:=lI [a,b] bD aj [aq bD ah,aq ah aj] rfl h1.1 h2.1
theorem Vd(h1:0<=a/\a<=41)(h2:a<=b/\b<=a+2):b<=60:=lI [a,b] aj (.n 60) [aq ah<|.n 41,aq aj<|.a ah eS] rfl h1.2 h2.2
theorem GP(h1:¬a<=b):b<=a:=lI [b,a] ah aj [aV ah aj] rfl<|Int.not_le.mp h1
theorem Ve(h1:a<=b):min a c<=b:=lI [a,b,min a c,c] ay aj [aq ah aj,aq ay ah] rfl h1<|Int.min_le_left a c
theorem GQ(h1:¬a<=b):b<a:=lI [b,a] (aB ah) aj [aV ah aj] rfl<|Int.not_le.mp h1
theorem Vf(h1:a<b)(h2:c<=a):c<b:=lI [a,b,c] (aB ay) aj [aV ah aj,aq ay ah] rfl h1 h2
theorem Vg(h1:¬(a-(b+1)) %2=0):(a-b) %2=0:=by lia
theorem Vh(h1:a<=b)(h2:¬a+1<=b):(b-a) %2=0:=by lia
theorem Vi(h1:a+1<=b/\(b-(a+1)) %2=0):¬(b-a) %2=0:=by omega
theorem Vj(h1:a<b):¬b<=a:=Int.not_le.mpr<|lI [a,b] (aB ah) aj [aV ah aj] rfl h1
theorem Vk(h1:a<b):¬b+1<=a:=Int.not_le.mpr<|lI [a,b] (aB ah) (aB aj) [aV ah aj] rfl h1
theorem Vl(h1:a %2=1):a<=b/\(b-a) %2=0->¬b %2=0:=by omega
theorem Vm(h1:¬a %2=0):a %2=1:=by lia
theorem Vn(h1:a %2=1)(h2:¬b %2=0):(b-a) %2=0:=by lia
theorem Vo(h1:a<=b)(h2:b<=c):a<=c:=lI [a,b,c] ah ay [aq ah aj,aq aj ay] rfl h1 h2
theorem Vp(h1:a=b):b<=a:=lI [a,b] aj ah [aq aj ah] rfl<|iX h1.symm
theorem Vq(h1:a=b)(h2:0<=a/\a<=100):-1000<=b:=lI [a,b] iI aj [aq ah aj,aq bD ah] rfl (iX h1) h2.1
theorem Vr(h1:a=b)(h2:0<=a/\a<=100):b<=1000:=lI [a,b] aj cC [aq aj ah,aq ah gW] rfl (iX h1.symm) h2.2
theorem Vs(h1:a=b)(h2:0<=a/\a<=100):-1000<=b-1:=lI [a,b] iI (.s aj bS) [aq ah aj,aq bD ah] rfl (iX h1) h2.1
theorem Vt(h1:a<=b)(h2:c=b)(h3:0<=c/\c<=100):a-1<=1000:=lI [a,b,c] (.s ah bS) cC [aq ah aj,aq aj ay,aq ay gW] rfl h1 (iX h2.symm) h3.2
theorem Vu(h1:a<=b):b-(((b-(a-1)).toNat:Nat):Int)+1=a:=by lia
theorem Vv(h1:¬a %2=1):a %2=0:=by lia
theorem Vw(h1:-2^40<a/\a<2^40)(h2:0<b/\b<2^40):((-2^40<a/\a<2^40)/\-2^40<b/\b<2^40)/\0<b:=⟨⟨⟨lI [a,b] (aB i8) ah [aV i8 ah] rfl h1.1,lI [a,b] (aB ah) iH [aV ah iH] rfl h1.2⟩,⟨lI [a,b] (aB i8) aj [aV bD aj] rfl h2.1,lI [a,b] (aB aj) iH [aV aj iH] rfl h2.2⟩⟩,lI [a,b] (aB bD) aj [aV bD aj] rfl h2.1⟩
theorem Vx(h1:0<a):a≠0:=Int.ne_of_gt<|lI [a] (aB bD) ah [aV bD ah] rfl h1
theorem GR(h1:0<=a)(h2:a<2147483647):-2^40<a/\a<2^40:=⟨lI [a] (aB i8) ah [aq bD ah] rfl h1,lI [a] (aB ah) iH [aV ah<|.n 2147483647] rfl h2⟩
theorem Vy(h1:(a*a+b) %2147483579=c):-2^40<c/\c<2^40:=by omega
theorem Vz(h1:0<=a/\a<3):a=0\/a=1\/a=2:=by lia
theorem VA(h1:65<=a/\a<=80\/a=40\/a=41):a<=80:=by lia
theorem VB(h1:64<a):0<=a-65:=lI [a] bD (.s ah<|.n 65) [aV kG ah] rfl h1
theorem VC(h1:0<=a/\a<3):(a-0).toNat<=2:=p5<|lI [a,(((a-0).toNat:Nat):Int)] (.s ah bD) eS [aV ah<|.n 3] rfl h1.2
theorem VD(h1:0<=a/\a<3):-1000<=a:=lI [a] iI ah [aq bD ah] rfl h1.1
theorem VE(h1:0<=a/\a<3):a<=1000:=lI [a] ah cC [aV ah<|.n 3] rfl h1.2
theorem VF(h1:0<=a/\a<9):-1000<=1+a:=lI [a] iI (.a bS ah) [aq bD ah] rfl h1.1
theorem VG(h1:0<=a/\a<9):1+a<=1000:=lI [a] (.a bS ah) cC [aV ah p6] rfl h1.2
theorem VH(h1:0<=a/\a<9):(1+a-0).toNat<=9/\0<(1+a-0).toNat:=⟨p5<|lI [a,((((1+a)-0).toNat:Nat):Int)] (.s (.a bS ah) bD) p6 [aV ah p6] rfl h1.2,bN.mp<|lI [a,((((1+a)-0).toNat:Nat):Int)] (aB bD) aj [aq bD ah,aq (.s (.a bS ah) bD) aj] rfl h1.1<|qX _⟩
end
theorem VI{a:Int}{b:Nat}(h1:0<=a)(h2:a<(b:Int)):0<=a/\a<(b:Int):=⟨lI [a,(b:Int)] bD ah [aq bD ah] rfl h1,lI [a,(b:Int)] (aB ah) aj [aV ah aj] rfl h2⟩
theorem VJ{a:Nat}{b:Int}(h1:a<=2^20)(h2:b<(a:Int)):b<2^40:=lI [(a:Int),b] (aB aj) iH [aq ah dZ,aV aj ah] rfl (bN.mpr h1) h2
theorem VK{a:Nat}{b:Int}(h1:a<=2^20)(h2:-(a:Int)<=b):-2^40<b:=lI [(a:Int),b] (aB i8) aj [aq ah dZ,aq (.g ah) aj] rfl (bN.mpr h1) h2
theorem VL{a:Nat}{b c:Int}(h1:a<(b-c).toNat):c+(a:Int)<b:=by omega
theorem VM{a:Nat}{b c:Int}(h1:a<(b-c).toNat):c<b-(a:Int):=by omega
theorem VN{a:Int}{b:Nat}:a+2*(b:Int)+2=a+2*((b+1:Nat):Int):=kq (lI [a,(b:Int)] (cS ah (.m 2 aj) eS) (.a ah<|.m 2<|aB aj) [] rfl)<|lI [a,(b:Int)] (.a ah<|.m 2<|aB aj) (cS ah (.m 2 aj) eS) [] rfl
theorem VO{a:Nat}{b:Int}{c:Nat}{d:Int}(h1:a<=40)(h2:b<=1)(h3:c<a)(h4:b<=d/\d<=b+2*(c:Int)):d<=100:=lI [(a:Int),b,(c:Int),d] aX gW [(2,ah,rj),aq aj bS,(2,aB ay,ah),aq aX<|.a aj<|.m 2 ay] rfl (bN.mpr h1) h2 (bN.mpr<|ju h3) h4.2
theorem VP{a:Int}{b:Nat}(h1:0<=a/\a<(b:Int)):a.toNat<b:=bN.mp<|lI [a,(b:Int),(((a).toNat:Nat):Int)] (aB ay) aj [aV ah aj,aq ay ah] rfl h1.2<|FI h1.1
theorem VQ{a b:Int}{c:Nat}(h1:0<=a/\a<=1)(h2:a<=b/\b<=a+2*(c:Int)):0<=b:=lI [a,b,(c:Int)] bD aj [aq bD ah,aq ah aj] rfl h1.1 h2.1
theorem VR{a:Nat}{b:Int}{c:Nat}{d:Int}(h1:a<=20)(h2:0<=b/\b<=1)(h3:c<a)(h4:b<=d/\d<=b+2*(c:Int)):d<=60:=lI [(a:Int),b,(c:Int),d] aX (.n 60) [(2,ah,cW),aq aj bS,(2,aB ay,ah),aq aX<|.a aj<|.m 2 ay] rfl (bN.mpr h1) h2.2 (bN.mpr<|ju h3) h4.2
theorem VS{a:Int}{b c:Nat}{d:Int}(h1:0<=a/\a<=1)(h2:b<=20)(h3:c<b)(h4:a<=d/\d<=a+2*(c:Int)):0<=d/\d<=41:=⟨lI [a,(b:Int),(c:Int),d] bD aX [aq bD ah,aq ah aX] rfl h1.1 h4.1,lI [a,(b:Int),(c:Int),d] aX (.n 41) [aq ah bS,(2,aj,cW),(2,aB ay,aj),aq aX<|.a ah<|.m 2 ay] rfl h1.2 (bN.mpr h2) (bN.mpr<|ju h3) h4.2⟩
theorem VT{a:Int}{b:Nat}:a-((b+1:Nat):Int)+1=a-(b:Int):=kq (lI [a,(b:Int)] (aB<|.s ah<|aB aj) (.s ah aj) [] rfl)<|lI [a,(b:Int)] (.s ah aj) (aB<|.s ah<|aB aj) [] rfl
theorem VU{a:Nat}{b:Int}(h1:a<=90)(h2:((a+1:Nat):Int)=b):1<=b/\b<=100:=⟨lI [(a:Int),b] bS aj [aV ah aj,aq bD ah] rfl (iX h2)<|iY _,lI [(a:Int),b] aj gW [aq ah nq,aq aj<|aB ah] rfl (bN.mpr h1)<|iX h2.symm⟩
theorem GS{a:Nat}{b:Int}(h1:((a+1:Nat):Int)=b):0<=60013*b:=by lia
theorem VV{a:Nat}{b:Int}(h1:((a+1:Nat):Int)=b):0<=b:=lI [(a:Int),b] bD aj [aV ah aj,aq bD ah] rfl (iX h1)<|iY _
theorem GU{a:Nat}{b:Int}(h1:a<=90)(h2:((a+1:Nat):Int)=b):-2^40<b/\b<2^40:=⟨lI [(a:Int),b] (aB i8) aj [aV ah aj,aq bD ah] rfl (iX h2)<|iY _,lI [(a:Int),b] (aB aj) iH [aq ah nq,aq aj<|aB ah] rfl (bN.mpr h1)<|iX h2.symm⟩
theorem VW{a:Nat}{b:Int}(h1:a<=90)(h2:((a+1:Nat):Int)=b):-2^40<60013*b/\60013*b<2^40:=by omega
theorem VX{a:Nat}{b c d:Int}(h1:a<=90)(h2:((a+1:Nat):Int)=b)(h3:0<=c)(h4:c<=60013*b*100):-2^40<d %2147483629+c+17/\d %2147483629+c+17<2^40:=by lia
theorem VY{a:Int}{b:Nat}(h1:0<=a/\a<(b:Int)+1):0<(b:Int)+1-a:=lI [a,(b:Int)] (aB bD) (.s (aB aj) ah) [aV ah<|aB aj] rfl h1.2
theorem VZ{a:Int}{b c d:Nat}(h1:0<=a/\a<(b:Int)+1-(c:Int))(h2:(c:Int)+a=(d:Int)):c<=d:=bN.mp<|lI [a,(b:Int),(c:Int),(d:Int)] ay aX [aq bD ah,aq (.a ay ah) aX] rfl h1.1<|iX h2
theorem V0{a:Int}{b c d:Nat}(h1:0<=a/\a<(b:Int)+1-(c:Int))(h2:(c:Int)+a=(d:Int)):d<=b:=bN.mp<|lI [a,(b:Int),(c:Int),(d:Int)] aX aj [aV ah<|.s (aB aj) ay,aq aX<|.a ay ah] rfl h1.2<|iX h2.symm
theorem V2{a:Int}{b:Nat}(h1:0<=a/\a<(b:Int)+1):0<=a/\a<=(b:Int):=⟨lI [a,(b:Int)] bD ah [aq bD ah] rfl h1.1,lI [a,(b:Int)] ah aj [aV ah<|aB aj] rfl h1.2⟩
theorem V3{a:Int}{b:Nat}(h1:0<=a/\a<=(b:Int)):a.toNat<=b:=bN.mp<|lI [a,(b:Int),(((a).toNat:Nat):Int)] ay aj [aq ah aj,aq ay ah] rfl h1.2<|FI h1.1
@[elab_as_elim] theorem rR{α:Sort _}{a b:α}{motive:α->Prop}(h:a=b)(m:motive b):motive a:=h▸m
@[elab_as_elim] theorem rL{α:Sort _}{a b:α}{motive:α->Prop}(h:a=b)(m:motive a):motive b:=h▸m
section
set_option genInjectivity true in
inductive PV where
 |n
 |b (b:Bool)
 |i (i:Int)
 |s (s:String)
 |t (l:List PV)
 |l (l:List PV)
 |r (l:List PV)
 |d (f:Int->bK)
 |c (ks:aY) (l:List PV)
 |o (c:String) (ns:aY) (l:List PV)
 |e (n:Nat)
inductive AO where
 |l (l:List PV)
 |i (n:Nat) (f:Int->bK)
 |s (ks:aY) (l:List PV)
 |n (c:String) (ns:aY) (l:List PV)
noncomputable def d7:=@PV.casesOn
abbrev bF:=List<|Option PV
abbrev au:=List PV
abbrev bR:=Option PV
abbrev ak:=List<|Option AO
abbrev eF:=PV->ak->Prop
abbrev aaJ:=ak->Prop
abbrev Sx(x:String):PySem.Str:=PySem.Str.ofString x
noncomputable def jQ(K:Frag)(c:String):Option Addr:=match nsIn K mainGlobals (Sx c)with
 |some (some<|.ref a)=>some a
 |_=>none
structure Cx where
 prog:Program
 w:World
 K:Frag
 b0:Heap
structure Cf where
 ρ:List (Addr×Addr)
 O:Addr->Prop
 H:ak
noncomputable def kH(ks:aY)(vals:cz)(x:PySem.Str):Option Value:=((ks.map Sx).zip vals).lookup x
noncomputable def jy(ns:aY)(es:List DictEntry):Prop:=∃ts:List Tok,es.map (·.key)=(ns.zip ts).map (λp=>Value.str (Sx p.1) p.2)/\ts.length=ns.length
noncomputable def wV(f:Int->bK)(g:Int->Option Value):Prop:=∀k,match f k with
 |none=>g k=none
 |some i=>∃t,g k=some (Value.int i t)
inductive kI (O:Addr->Prop)(S:Addr->dg->Prop)(R:cz->Prop)(v:Value):Prop
 |mk (a:Addr) (vs:dg) (e:v=Value.ref a) (o:¬O a) (s:S a vs) (z:vs.size<=2^20) (r:R vs.toList):kI O S R v
inductive wW (X:Cx)(O:Addr->Prop)(h:Heap)(f:Int->bK)(v:Value):Prop
 |mk (a:Addr) (g:Int->Option Value) (e:v=Value.ref a) (o:¬O a) (s:(a==sysModules)=false) (m:h.MapOf (intKind X.prog X.w) a g) (i:wV f g):wW X O h f v
inductive wX (X:Cx)(O:Addr->Prop)(h:Heap)(ks:aY)(R:cz->Prop)(v:Value):Prop
 |mk (a:Addr) (vals:cz) (e:v=Value.ref a) (o:¬O a) (s:(a==sysModules)=false) (m:h.MapOf (strKind X.prog X.w) a<|kH ks vals) (l:vals.length=ks.length) (r:R vals):wX X O h ks R v
inductive wY (X:Cx)(O:Addr->Prop)(h:Heap)(c:String)(ns:aY)(R:cz->Prop)(v:Value):Prop
 |mk (a d:Addr) (C:Addr) (es:List DictEntry) (n:Nat) (e:v=Value.ref a) (o:¬O a) (od:¬O d) (cc:jQ X.K c=some C) (ha:h.get? a=some (instObj C d)) (hd:h.get? d=some (dictOf es n)) (k:jy ns es) (r:R (es.map (·.val))):wY X O h c ns R v
inductive GW (ρ:List<|Addr×Addr)(n:Nat)(v:Value):Prop
 |mk (p:Addr×Addr) (e:ρ[n]?=some p) (r:v=Value.ref p.1):GW ρ n v
inductive Aj (R:Value->Prop)(S:cz->Prop)(vs:cz):Prop
 |mk (v:Value) (r:cz) (e:vs=v::r) (a:R v) (b:S r):Aj R S vs
variable (X:Cx)
mutual
noncomputable def Rep(cf:Cf)(h:Heap):PV->Value->Prop
 |.n,v=>v=Value.none
 |.b b,v=>v=Value.bool b
 |.i i,v=>∃t,v=Value.int i t
 |.s s,v=>∃t,v=Value.str (Sx s) t
 |.t l,v=>kI cf.O (IsTup h) (aO cf h l) v
 |.l l,v=>kI cf.O h.PlainList (aO cf h l) v
 |.r l,v=>kI cf.O h.IsList (aO cf h l) v
 |.d f,v=>wW X cf.O h f v
 |.c ks l,v=>wX X cf.O h ks (aO cf h l) v
 |.o c ns l,v=>wY X cf.O h c ns (aO cf h l) v
 |.e n,v=>GW cf.ρ n v
noncomputable def aO(cf:Cf)(h:Heap):au->cz->Prop
 |[],vs=>vs=[]
 |p::ps,vs=>Aj (Rep cf h p) (aO cf h ps) vs
end
inductive GX (h:Heap)(p:Addr×Addr)(R:cz->Prop):Prop
 |mk (e:p.2=p.1) (vs:dg) (l:h.PlainList p.1 vs) (z:vs.size<=2^20) (r:R vs.toList):GX h p R
inductive GY (h:Heap)(p:Addr×Addr)(n:Nat)(f:Int->bK):Prop
 |mk (e:p.2=p.1) (s:(p.1==sysModules)=false) (kvs:List<|Int×Value) (m:h.DictOf (intKind X.prog X.w) p.1 kvs) (z:kvs.length<=n) (i:wV f<|valueAt kvs):GY h p n f
inductive GZ (h:Heap)(p:Addr×Addr)(ks:aY)(R:cz->Prop):Prop
 |mk (e:p.2=p.1) (s:(p.1==sysModules)=false) (vals:cz) (m:h.DictOf (strKind X.prog X.w) p.1<|(ks.map Sx).zip vals) (z:vals.length=ks.length) (r:R vals):GZ h p ks R
inductive G0 (h:Heap)(p:Addr×Addr)(c:String)(ns:aY)(R:cz->Prop):Prop
 |mk (e:p.2≠p.1) (C:Addr) (es:List DictEntry) (n:Nat) (cc:jQ X.K c=some C) (ha:h.get? p.1=some (instObj C p.2)) (hd:h.get? p.2=some (dictOf es n)) (k:jy ns es) (r:R (es.map (·.val))):G0 h p c ns R
def nu(cf:Cf)(h:Heap)(p:Addr×Addr):AO->Prop
 |.l l=>GX h p<|aO X cf h l
 |.i n f=>GY X h p n f
 |.s ks l=>GZ X h p ks<|aO X cf h l
 |.n c ns l=>G0 X h p c ns<|aO X cf h l
inductive G1 (H:ak)(ρ:List<|Addr×Addr)(b:Addr):Prop
 |mk (n:Nat) (ao:AO) (p:Addr×Addr) (a:H[n]?=some (some ao)) (r:ρ[n]?=some p) (e:b=p.1\/b=p.2):G1 H ρ b
noncomputable def Own(cf:Cf)(b:Addr):Prop:=G1 cf.H cf.ρ b
structure aU (cf:Cf)(h:Heap):Prop where
 len:cf.ρ.length=cf.H.length
 rep:∀(n:Nat)(ao:AO)(p:Addr×Addr),cf.H[n]?=some (some ao)->cf.ρ[n]?=some p->nu X cf h p ao
 own:∀b,Own cf b->cf.O b
 inj:∀(n m:Nat)(ao bo:AO)(p q:Addr×Addr),cf.H[n]?=some (some ao)->cf.H[m]?=some (some bo)->cf.ρ[n]?=some p->cf.ρ[m]?=some q->n≠m->
  (@Ne Nat p.1 q.1)/\(@Ne Nat p.1 q.2)/\(@Ne Nat p.2 q.1)/\(@Ne Nat p.2 q.2)
 here:∀b,cf.O b->∃o,h.get? b=some o
 base:∀b o,X.b0.get? b=some o->h.get? b=some o/\¬cf.O b
structure Step (cf:Cf)(s:Shared)(aI:Cf)(s':Shared):Prop where
 same:∃h' tk,s'={s with heap:=h',toks:=tk}
 keep:∀b o,¬Own cf b->s.heap.get? b=some o->s'.heap.get? b=some o
 avoid:∀b o,cf.O b->¬Own cf b->s.heap.get? b=some o->aI.O b
 fresh:∀b,aI.O b->cf.O b\/s.heap.get? b=none
 owned:∀b,Own aI b->Own cf b\/s.heap.get? b=none
 refs:∀(n:Nat)(p:Addr×Addr),cf.ρ[n]?=some p->aI.ρ[n]?=some p
theorem Step.refl(cf:Cf)(s:Shared):Step cf s cf s:=⟨I2 s.heap s.toks rfl,λU U U e=>e,λU U h U U=>h,λU h=>.inl h,λU h=>.inl h,λU U h=>h⟩
theorem Step.trans{cf aI nv:Cf}{s s' s'':Shared}(hown:∀b,Own cf b->cf.O b)(x:Step cf s aI s')(y:Step aI s' nv s''):Step cf s nv s'':=by
 have nw:∀b o,¬Own cf b->s.heap.get? b=some o->¬Own aI b:=λb o hb e hw=>by
  rcases x.owned b hw with h|h
  ·exact hb h
  ·rw[h]at e;exact nN e
 have back:∀b,s'.heap.get? b=none->Own cf b\/s.heap.get? b=none:=λb h'=>by
  by_cases hb:Own cf b
  ·exact .inl hb
  ·cases e:s.heap.get? b with
   |none=>exact .inr rfl
   |some o=>rw[x.keep b o hb e]at h';exact sN h'
 refine⟨?_,λb o hb e=>y.keep b o (nw b o hb e)<|x.keep b o hb e,λb o h hb e=>y.avoid b o (x.avoid b o h hb e) (nw b o hb e)<|x.keep b o hb e,λb h=>?_,λb h=>?_,λn p h=>y.refs n p<|x.refs n p h⟩
 ·(refine X2 x.same λh1 t1 aL=>?_;clear x back;subst aL)
  refine X2 y.same λh2 t2 aM=>?_;clear y;subst aM;exact I2 h2 t2 rfl
 ·rcases y.fresh b h with h'|h'
  ·exact x.fresh b h'
  ·exact(back b h').imp (hown b) id
 ·rcases y.owned b h with h'|h'
  ·exact x.owned b h'
  ·exact back b h'
structure Kept (cf:Cf)(h:Heap)(aI:Cf)(h':Heap):Prop where
 keep:∀b o,¬cf.O b->h.get? b=some o->h'.get? b=some o
 avoid:∀b o,¬cf.O b->h.get? b=some o->¬aI.O b
 refs:∀(n:Nat)(p:Addr×Addr),cf.ρ[n]?=some p->aI.ρ[n]?=some p
theorem Step.kept{cf aI:Cf}{s s':Shared}(hown:∀b,Own cf b->cf.O b)(x:Step cf s aI s'):Kept cf s.heap aI s'.heap:=
 ⟨λb o hb e=>x.keep b o (λh=>hb<|hown b h) e,λb o hb e hO=>(x.fresh b hO).elim hb λh=>(by rw[h]at e;exact nN e),x.refs⟩
theorem Ak{h:Heap}{a:Addr}{vs:dg}(x:IsTup h a vs):∃o,h.get? a=some o:=x.imp λU e=>e.1
theorem p8{h:Heap}{a:Addr}{vs:dg}(x:h.IsList a vs):∃o,h.get? a=some o:=x.imp λU e=>e.1
theorem oE{h:Heap}{a:Addr}{vs:dg}(x:h.PlainList a vs):∃o,h.get? a=some o:=let ⟨_,e⟩:=x;⟨_,e⟩
theorem G2{h h':Heap}{a:Addr}{vs:dg}(x:IsTup h a vs)(k:∀o,h.get? a=some o->h'.get? a=some o):IsTup h' a vs:=let ⟨o,e,r⟩:=x;(aA o (k o e) r)
theorem G3{prog:Program}{w:World}{Kt:Type}[DecidableEq Kt]{knd:KeyKind prog w Kt}{h:Heap}{a:Addr}{f:Kt->Option Value}(x:h.MapOf knd a f):∃o,h.get? a=some o:=let ⟨o,_,_,e,_⟩:=x;⟨o,e⟩
theorem G4{prog:Program}{w:World}{Kt:Type}[DecidableEq Kt]{knd:KeyKind prog w Kt}{h h':Heap}{a:Addr}{f:Kt->Option Value}(x:h.MapOf knd a f)(k:∀o,h.get? a=some o->h'.get? a=some o):h'.MapOf knd a f:=
 let ⟨o,es,ep,e,r⟩:=x;(wA o es ep (k o e) r)
theorem ug{prog:Program}{w:World}{Kt:Type}[DecidableEq Kt]{knd:KeyKind prog w Kt}{h:Heap}{a:Addr}{f:List<|Kt×Value}(x:h.DictOf knd a f):∃o,h.get? a=some o:=let ⟨o,_,_,e,_⟩:=x;⟨o,e⟩
theorem G5{prog:Program}{w:World}{Kt:Type}[DecidableEq Kt]{knd:KeyKind prog w Kt}{h h':Heap}{a:Addr}{f:List<|Kt×Value}(x:h.DictOf knd a f)(k:∀o,h.get? a=some o->h'.get? a=some o):h'.DictOf knd a f:=
 let ⟨o,es,ep,e,r⟩:=x;(wA o es ep (k o e) r)
theorem l_{Kt:Type}[DecidableEq Kt]:∀(kvs:List<|Kt×Value)(k:Kt),valueAt kvs k=kvs.lookup k
 |[],k=>rfl
 |(a,v)::r,k=>by
  have ih:=l_ r k;unfold valueAt at ih⊢;rw[List.find?_cons,m8];by_cases h:a=k
  ·clear ih;subst h;simp
  ·have h':(k==a)=false:=by simpa usingλe=>h e.symm
   simp[h,h'];simpa using ih
mutual
theorem Rep.mono{X:Cx}{cf aI:Cf}{h h':Heap}(k:Kept cf h aI h'):∀(p:PV){v:Value},Rep X cf h p v->Rep X aI h' p v
 |.n,v,r=>r
 |.b b,v,r=>r
 |.i i,v,r=>r
 |.s s,v,r=>r
 |.t l,v,r=>by obtain⟨a,vs,rfl,ho,ht,hz,hr⟩:=r;refine X1 (Ak ht) λo e=>?_;exact⟨a,vs,rfl,k.avoid a o ho e,G2 ht λo' e'=>k.keep a o' ho e',hz,aO.mono k l hr⟩
 |.l l,v,r=>by obtain⟨a,vs,rfl,ho,ht,hz,hr⟩:=r;refine X1 (oE ht) λo e=>?_;exact⟨a,vs,rfl,k.avoid a o ho e,ht.at λo' e'=>k.keep a o' ho e',hz,aO.mono k l hr⟩
 |.r l,v,r=>by obtain⟨a,vs,rfl,ho,ht,hz,hr⟩:=r;refine X1 (p8 ht) λo e=>?_;exact⟨a,vs,rfl,k.avoid a o ho e,ht.at λo' e'=>k.keep a o' ho e',hz,aO.mono k l hr⟩
 |.d f,v,r=>by obtain⟨a,g,rfl,ho,hs,hm,hi⟩:=r;refine X1 (G3 hm) λo e=>?_;exact⟨a,g,rfl,k.avoid a o ho e,hs,G4 hm λo' e'=>k.keep a o' ho e',hi⟩
 |.c ks l,v,r=>by obtain⟨a,vals,rfl,ho,hs,hm,hl,hr⟩:=r;refine X1 (G3 hm) λo e=>?_;exact⟨a,vals,rfl,k.avoid a o ho e,hs,G4 hm λo' e'=>k.keep a o' ho e',hl,aO.mono k l hr⟩
 |.o c ns l,v,r=>by obtain⟨a,d,C,es,n,rfl,ho,hd,hc,e1,e2,hk,hr⟩:=r;exact⟨a,d,C,es,n,rfl,k.avoid a _ ho e1,k.avoid d _ hd e2,hc,k.keep a _ ho e1,k.keep d _ hd e2,hk,aO.mono k l hr⟩
 |.e n,v,r=>by obtain⟨p,e,rfl⟩:=r;exact⟨p,k.refs n p e,rfl⟩
theorem aO.mono{X:Cx}{cf aI:Cf}{h h':Heap}(k:Kept cf h aI h'):∀(l:au){vs:cz},aO X cf h l vs->aO X aI h' l vs
 |[],vs,r=>r
 |p::ps,vs,r=>by obtain⟨v,t,rfl,hr,hs⟩:=r;exact⟨v,t,rfl,Rep.mono k p hr,aO.mono k ps hs⟩
end
end
section
theorem lq{a b:String}(h:Sx a=Sx b):a=b:=by
 have h1:(Sx a).cps.toList=(Sx b).cps.toList:=by exact rR h rfl
 have e:∀s:String,(Sx s).cps.toList=s.toList.map Char.toNat:=λs=>by show((cpsOfBytes 0 0 s.toByteArray.data.toList).toArray).toList=_;refine rR nc ?_;rw[cpsOfBytes_string]
 rw[e,e]at h1;have inj:Function.Injective Char.toNat:=λx y hxy=>by apply Char.ext;exact UInt32.toNat_inj.mp hxy
 have h2:a.toList=b.toList:=(List.map_inj_right λx y hxy=>inj hxy).mp h1;exact String.toList_inj.mp h2
structure eK (X:Cx):Prop where
 wZ:X.K.In X.b0
 nolimit:X.b0.NoLimit
 mg:∃(p:Program)(loose:List Str)(mg mb:Str->Option Value),TopRead p loose mg mb X.b0
structure c7 (d:Nat)(A:Around):Prop where
 hh:A.handled=none
 dep:A.depth+d<900
 units:A.units+10*d+200<cLine
theorem c7.mono{d d':Nat}{A:Around}(x:c7 d A)(h:d'<=d):c7 d' A:=⟨x.hh,by have:=x.dep;exact A1 h this,by have:=x.units;exact A2 h this⟩
theorem c7.deeper{d:Nat}{A:Around}(x:c7 (d+1) A)(aa:Env):c7 d (A.deeper aa):=⟨x.hh,by have:=x.dep;show A.depth+1+d<900;exact A5 this,by have:=x.units;show A.units+3+10*d+200<cLine;exact A6 this⟩
structure cK (X:Cx)(cf:Cf)(aa:Env)(ai:b5)(ae:bF)(h:Heap):Prop where
 kind:aa.scope.kind=.function
 glob:aa.globals=mainGlobals
 blt:aa.builtins=builtinsNs
 av:cf.O aa.locals
 iu:∀n c,(n,c)∈aa.cells->cf.O c/\c≠aa.locals
 apart:aa.cells.Pairwise λx y=>x.2≠y.2
 oF:∀x,aa.kindOf x=some .cell->∃c,aa.cells.lookup x=some c
 off:∀b,Own cf b->b≠aa.locals/\∀n c,(n,c)∈aa.cells->b≠c
 vals:∃(m cm:PySem.Str->Option Value),h.Ns aa.locals m/\(∀n c,aa.cells.lookup n=some c->h.IsCell c (cm n))/\
  ∀(i:Nat)(x:String)(pv:PV),ai[i]?=some (some x)->ae[i]?=some (some pv)->
   ∃v,Rep X cf h pv v/\((aa.kindOf (Sx x)=some .local/\m (Sx x)=some v)\/(aa.kindOf (Sx x)=some .cell/\(∃c,aa.cells.lookup (Sx x)=some c)/\cm (Sx x)=some v))
theorem cK.step{X:Cx}{cf aI:Cf}{aa:Env}{ai:b5}{ae:bF}{s s':Shared}(x:cK X cf aa ai ae s.heap)(S:aU X cf s.heap)(st:Step cf s aI s'):cK X aI aa ai ae s'.heap:=by
 refine d_ x.vals λm cm hn hc hv=>?_;have K:=st.kept S.own;have nL:¬Own cf aa.locals:=λq=>(x.off _ q).1 rfl;have nC:∀n c,(n,c)∈aa.cells->¬Own cf c:=λn c hm q=>(x.off _ q).2 n c hm rfl;refine X1 (S.here _ x.av) λoL eL=>?_;refine⟨x.kind,x.glob,x.blt,st.avoid _ _ x.av nL eL,λn c hm=>⟨?_,(x.iu n c hm).2⟩,x.apart,x.oF,λb hb=>?_,m,cm,hn.at' λo e=>st.keep _ o nL e,λn c hl=>?_,λi y pv hi hp=>?_⟩
 ·refine X1 (S.here _ (x.iu n c hm).1) λo e=>?_;exact st.avoid _ _ (x.iu n c hm).1 (nC n c hm) e
 ·rcases st.owned b hb with h|h
  ·exact x.off b h
  ·refine⟨λe=>?_,λn c hm e=>?_⟩
   ·rw[e,eL]at h;exact sN h
   ·refine X1 (S.here _ (x.iu n c hm).1) λo e2=>?_;rw[e,e2]at h;exact sN h
 ·refine aC (hc n c hl) λo e d=>?_;exact aA o (st.keep _ o (nC n c<|iG hl) e) d
 ·refine aC (hv i y pv hi hp) λv r h=>?_;exact aA v (r.mono K) h
inductive Out (X:Cx)(cf:Cf)(s:Shared)(Q:eF)(v:Value)(s':Shared):Prop
 |mk (aI:Cf) (pv:PV) (st:Step cf s aI s') (sim:aU X aI s'.heap) (rep:Rep X aI s'.heap pv v) (q:Q pv aI.H):Out X cf s Q v s'
noncomputable def AE(X:Cx)(d:Nat)(aa:Env)(ai:b5)(ae:bF)(e:Expr)(H:ak)(Q:eF):Prop:=
 ∀A cf s E,c7 d A->cf.H=H->aU X cf s.heap->cK X cf aa ai ae s.heap->wpAny (model X.prog X.w) A (eval e aa) (Out X cf s Q) E s
theorem Out.mono{X:Cx}{cf:Cf}{s:Shared}{Q Q':eF}(h:∀p H,Q p H->Q' p H){v:Value}{s':Shared}(x:Out X cf s Q v s'):Out X cf s Q' v s':=
 let ⟨aI,pv,a,b,c,d⟩:=x;⟨aI,pv,a,b,c,h _ _ d⟩
theorem Out.now{X:Cx}{cf:Cf}{s:Shared}{Q:eF}{v:Value}{pv:PV}(S:aU X cf s.heap)(r:Rep X cf s.heap pv v)(q:Q pv cf.H):Out X cf s Q v s:=
 ⟨cf,pv,Step.refl _ _,S,r,q⟩
theorem Step.toks{cf aI:Cf}{s s':Shared}(x:Step cf s aI s')(t:Nat):Step cf s aI {s' with toks:=t}:=
 ⟨let ⟨h,_,e⟩:=x.same;(I2 h t<|by exact rR e rfl),x.keep,x.avoid,x.fresh,x.owned,x.refs⟩
theorem V4{X:Cx}{d:Nat}{aa:Env}{ai:b5}{ae:bF}{x:String}{pos:Pos}{H:ak}{Q:eF}{i:Nat}{pv:PV}
  (hi:ai[i]?=some (some x))(hd:(Sx x==("__debug__":Str))=false)(hp:ae[i]?=some (some pv))(q:Q pv H):AE X d aa ai ae (.Name (Sx x) pos) H Q:=by
 rintro A cf s E U rfl S R;refine d_ R.vals λm cm hn hc hv=>?_;obtain⟨v,r,⟨hk,hm⟩|⟨hk,⟨c,hc'⟩,hm⟩⟩:=hv i x pv hi hp
 ·exact wpAny_Name (wpAny_loadName_local R.kind hk hn hm<|Out.now S r q) hd
 ·exact wpAny_Name (wpAny_loadName_cell R.kind hk hc' (hm▸hc _ c hc')<|Out.now S r q) hd
end
section
inductive lu|a|s|m|f|o
 deriving DecidableEq
inductive gw|e|n|l|a|g|b|i|o|s|t
 deriving DecidableEq
inductive oG|l|i|s|o|m|n|a|B
 deriving DecidableEq
inductive IK|v|r|e|z|n
 deriving DecidableEq
inductive CE where
 |c (p:PV)
 |v (i:Nat)
 |g (x:String) (p:PV)
 |t (es:List CE)
 |l (es:List CE)
 |e (es:List CE)
 |b (op:lu) (a b:CE)
 |n (a:CE)
 |o (a:CE)
 |m (op:gw) (a b:CE)
 |p (o1 o2:gw) (a b c:CE)
 |a (cA:Bool) (es:List CE)
 |i (t a b:CE)
 |d (a i:CE)
 |s (a lo hi:CE)
 |r (a:CE)
 |f (a:CE) (x:String)
 |h (f:String) (es:List CE)
 |j (o:CE) (m:String) (es:List CE)
 |k (b:oG) (es:List CE)
 |q (a b:CE)
 |x (a b:CE)
 |u (a:CE)
 |w (d k:CE)
 |y (d k v:CE)
 |z (n:CE)
 |A
 |B
 |C (ks:aY) (ps:au)
 |D (elt:CE) (tp:Bool) (tn:aY) (k:IK) (bZ:List CE) (cond:List CE)
inductive CS where
 |a (i:Nat) (e:CE)
 |s (is:aG) (e:CE)
 |e (o:CE) (x:String) (e:CE)
 |t (o i e:CE)
 |f (tp:Bool) (tgt:aG) (k:IK) (bZ:List CE) (body:List CS)
 |w (t:CE) (body:List CS)
 |i (t:CE) (a b:List CS)
 |r (e:CE)
 |x (e:CE)
 |b
 |c
 |z (i:Nat)
noncomputable def truth:PV->Option Bool
 |.b b=>some b
 |_=>none
noncomputable def e_(H:ak):PV->Option au
 |.t l=>some l
 |.l l=>some l
 |.e n=>match H[n]? with
  |some (some<|.l l)=>some l
  |_=>none
 |_=>none
noncomputable def fh(H:ak):PV->Option au
 |.l l=>some l
 |.e n=>match H[n]? with
  |some (some<|.l l)=>some l
  |_=>none
 |_=>none
noncomputable def Al:PV->Option au
 |.t l=>some l
 |.l l=>some l
 |_=>none
noncomputable def view(H:ak):PV->PV
 |.e n=>match H[n]? with
  |some (some<|.l l)=>.l l
  |_=>.e n
 |v=>v
noncomputable def isAtom:PV->Bool
 |.n=>true
 |.b _=>false
 |.i _=>true
 |.s _=>true
 |.t _=>false
 |.l _=>false
 |.r _=>false
 |.d _=>false
 |.c _ _=>false
 |.o _ _ _=>false
 |.e _=>false
noncomputable def V5(q:PV->Bool):PV->Bool
 |.n=>false
 |.b _=>false
 |.i _=>false
 |.s _=>false
 |.t l=>l.all q
 |.l l=>l.all q
 |.r _=>false
 |.d _=>false
 |.c _ _=>false
 |.o _ _ _=>false
 |.e _=>false
def simple:Nat->PV->Bool
 |0,p=>isAtom p
 |n+1,p=>isAtom p||V5 (simple n) p
inductive p9 (n:Nat):PV->Prop
 |none:p9 n .n
 |int (i:Int):p9 n<|.i i
 |str (s:String):p9 n<|.s s
 |tup (l:au) (m:Nat) (e:n=m+1) (h:l.all (simple m)=true):p9 n<|.t l
 |lst (l:au) (m:Nat) (e:n=m+1) (h:l.all (simple m)=true):p9 n<|.l l
theorem G6{n:Nat}{p:PV}(h:isAtom p=true):p9 n p:=by
 induction p using d7 with
 |n=>exact .none
 |i i=>exact .int i
 |s s=>exact .str s
 |_=>nomatch h
theorem iJ{n:Nat}{p:PV}(h:simple n p=true):p9 n p:=by
 induction n using gD with
 |zero=>exact G6 h
 |succ n=>
  rcases qV.mp h with h|h
  ·exact G6 h
  ·induction p using d7 with
   |t l=>exact .tup l n rfl h
   |l l=>exact .lst l n rfl h
   |_=>nomatch h
noncomputable def small(i:Int):Prop:=-(2^40)<i/\i<2^40
open Classical in
def mh(H:ak)(op:gw)(a b:PV)(Q:Bool->Prop):Prop:=match op with
 |.e=>((∃x y,a=.b x/\b=.b y)\/(simple 4 (view H a)=true/\simple 4 (view H b)=true))/\Q (decide<|view H a=view H b)
 |.n=>((∃x y,a=.b x/\b=.b y)\/(simple 4 (view H a)=true/\simple 4 (view H b)=true))/\Q (!decide (view H a=view H b))
 |.l=>∃i j,a=.i i/\b=.i j/\Q (decide<|i<j)
 |.a=>∃i j,a=.i i/\b=.i j/\Q (decide<|i<=j)
 |.g=>∃i j,a=.i i/\b=.i j/\Q (decide<|j<i)
 |.b=>∃i j,a=.i i/\b=.i j/\Q (decide<|j<=i)
 |.s=>(b=.n\/∃x,b=.b x)/\Q (decide<|a=b)
 |.t=>(b=.n\/∃x,b=.b x)/\Q (!decide (a=b))
 |.i=>(∃l,e_ H b=some l/\simple 2 a=true/\l.all (simple 2)=true/\Q (decide<|a∈l))\/
   (∃f i,(b=.d f\/∃n,b=.e n/\∃m,H[n]?=some (some<|.i m f))/\a=.i i/\Q (f i).isSome)\/
   (∃ks l x,(b=.c ks l\/∃n,b=.e n/\H[n]?=some (some<|.s ks l))/\a=.s x/\Q (ks.contains x))
 |.o=>(∃l,e_ H b=some l/\simple 2 a=true/\l.all (simple 2)=true/\Q (!decide (a∈l)))\/
   (∃f i,(b=.d f\/∃n,b=.e n/\∃m,H[n]?=some (some<|.i m f))/\a=.i i/\Q (!(f i).isSome))\/
   (∃ks l x,(b=.c ks l\/∃n,b=.e n/\H[n]?=some (some<|.s ks l))/\a=.s x/\Q (!ks.contains x))
def w7(H:ak)(op:lu)(a b:PV)(Q:PV->Prop):Prop:=match op with
 |.a=>(∃i j,a=.i i/\b=.i j/\Q (.i<|i+j))\/(∃l r,fh H a=some l/\fh H b=some r/\l.length+r.length<=2^20/\Q (.l<|l++r))
 |.s=>∃i j,a=.i i/\b=.i j/\Q (.i<|i-j)
 |.m=>∃i j,a=.i i/\b=.i j/\small i/\small j/\Q (.i<|i*j)
 |.f=>∃i j,a=.i i/\b=.i j/\small i/\small j/\0<j/\Q (.i<|i/j)
 |.o=>∃i j,a=.i i/\b=.i j/\0<j/\Q (.i<|i %j)
noncomputable def fW(x:String):aY->au->bR
 |k::ks,v::vs=>if k=x then some v else fW x ks vs
 |_,_=>none
noncomputable def eT(x:String)(v:PV):aY->au->aY×au
 |k::ks,w::ws=>if k=x then(k::ks,v::ws)else let r:=eT x v ks ws;(k::r.1,w::r.2)
 |_,_=>([x],[v])
theorem rn{x k:String}{v w:PV}{ks:aY}{ws:au}:eT x v (k::ks) (w::ws)=if k=x then(k::ks,v::ws)else(k::(eT x v ks ws).1,w::(eT x v ks ws).2):=rfl
theorem rq{x:String}{v:PV}{ws:au}:eT x v [] ws=([x],[v]):=rfl
noncomputable def gx(k:Int)(n:Nat):Option Nat:=if 0<=k then(if k<n then some k.toNat else none)else(if 0<=k+n then some (k+n).toNat else none)
def Am(H:ak)(a i:PV)(Q:PV->Prop):Prop:=
 (∃l k j v,e_ H a=some l/\i=.i k/\gx k l.length=some j/\l[j]?=some v/\Q v)\/
 (∃f k v,(a=.d f\/∃n,a=.e n/\∃m,H[n]?=some (some<|.i m f))/\i=.i k/\f k=some v/\Q (.i v))\/
 (∃ks l x v,(a=.c ks l\/∃n,a=.e n/\H[n]?=some (some<|.s ks l))/\i=.s x/\fW x ks l=some v/\Q v)
noncomputable def cutAt(k:Int)(n:Nat):Nat:=if 0<=k then min k.toNat n else(k+n).toNat
def G7(H:ak)(a lo hi:PV)(Q:PV->Prop):Prop:=
 ∃l i j,(fh H a=some l\/a=.r l)/\((lo=.n/\i=0)\/∃k,lo=.i k/\small k/\i=cutAt k l.length)/\((hi=.n/\j=l.length)\/∃k,hi=.i k/\small k/\j=cutAt k l.length)/\Q (.l<|(l.take j).drop i)
noncomputable def fieldsOf(H:ak):PV->Option (String×aY×au)
 |.o c ns l=>some (c,ns,l)
 |.e n=>match H[n]? with
  |some (some<|.n c ns l)=>some (c,ns,l)
  |_=>none
 |_=>none
def w9(X:Cx)(c x:String):Prop:=∃C attr,jQ X.K c=some C/\plainGet X.K C (Sx x)=true/\hasDictIn X.K C=true/\findIn X.K (.ref C) (Sx x)=some attr/\noGet X.K attr=true
def storeOk(X:Cx)(c x:String):Prop:=∃C,jQ X.K c=some C/\findIn X.K (.ref C) "__setattr__"=some (some<|.builtin "object.__setattr__")/\plainOver X.K C=true/\takerIn X.K C (Sx x)=some none/\hasDictIn X.K C=true
noncomputable def ly(H:ak)(ao:AO)(Q:eF):Prop:=Q (.e H.length)<|H++[some ao]
noncomputable def intsOf:au->Option bk
 |[]=>some []
 |.i i::r=>(intsOf r).map (i::·)
 |_::_=>none
noncomputable def sortedZ(l:bk):bk:=l.mergeSort λa b=>decide<|a<=b
theorem bG{α β:Type}{o:Option α}{f:α->Option β}{r:β}{G:Prop}(h:o.bind f=some r)(k:∀x,o=some x->f x=some r->G):G:=by
 induction o using e9 with
 |none=>exact nN h
 |some x=>exact k x rfl h
theorem i_{α γ β:Type}{o:Option<|α×γ}{f:α×γ->Option β}{r:β}{G:Prop}(h:o.bind f=some r)(k:∀x y,o=some (x,y)->f (x,y)=some r->G):G:=bG h λx=>k x.1 x.2
@[elab_as_elim] theorem omap{α β:Type}{o:Option α}{f:α->β}{r:β}{M:β->Prop}(h:o.map f=some r)(k:∀x,o=some x->M (f x)):M r:=by
 induction o using e9 with
 |none=>exact nN h
 |some x=>obtain rfl:=aK h;exact k x rfl
theorem gY{α β:Type}{o:Option α}{f:α->β}{r:β}{G:Prop}(h:o.map f=some r)(k:∀x,o=some x->f x=r->G):G:=by
 induction o using e9 with
 |none=>exact nN h
 |some x=>exact k x rfl<|aK h
set_option tactic.hygienic true in
theorem p_{α:Type}{c:Prop}[Decidable c]{x:Option α}{r:α}{G:Prop}(h:(if c then x else none)=some r)(k:c->x=some r->G):G:=by
 split at h
 ·rename_i q;exact k q h
 ·exact nN h
set_option tactic.hygienic true in
@[elab_as_elim] theorem G8{α:Type}{c:Prop}[Decidable c]{x r:α}{M:α->Prop}(h:(if c then some x else none)=some r)(k:c->M x):M r:=by
 split at h
 ·rename_i q;obtain rfl:=aK h;exact k q
 ·exact nN h
theorem mc{α:Type}{P:α->Prop}{a:α}{l:List α}(h:P a)(t:∀b∈l,P b):∀b∈a::l,P b:=List.forall_mem_cons.mpr ⟨h,t⟩
theorem mz{α:Type}{P:α->Prop}:∀b∈([]:List α),P b:=nofun
end
section
abbrev Rt:=Option<|PV×ak
abbrev b7:=String->String->au->ak->Rt
noncomputable def An:List (String×String):=[
 ("BidiEntry","level"),("BidiEntry","override"),("BidiEntry","is_isolate"),
 ("BidiStack","depth"),("BidiStack","entries"),("BidiStack","over_isolates"),("BidiStack","over_embeddings"),("BidiStack","valid_isolates"),
 ("BidiSequence","places"),("BidiSequence","classes"),("BidiSequence","level"),("BidiSequence","sos"),("BidiSequence","eos"),("BidiSequence","codes"),
 ("BidiParagraph","begin"),("BidiParagraph","end"),("BidiParagraph","codes"),("BidiParagraph","base"),("BidiParagraph","kinds"),("BidiParagraph","levels"),("BidiParagraph","classes"),
 ("RangeMap","default"),("RangeMap","starts"),("RangeMap","values"),
 ("Data","defaults"),("Data","maps"),("Data","properties"),("Data","words")]
noncomputable def qa(c x:String):Bool:=An.contains (c,x)
mutual
noncomputable def fj:PV->PV->Bool
 |.n,b=>(match b with|.n=>true|_=>false)
 |.b x,b=>(match b with|.b y=>x==y|_=>false)
 |.i x,b=>(match b with|.i y=>decide (x=y)|_=>false)
 |.s x,b=>(match b with|.s y=>decide (x=y)|_=>false)
 |.t l,b=>(match b with|.t m=>uh l m|_=>false)
 |.l l,b=>(match b with|.l m=>uh l m|_=>false)
 |.r _,_=>false
 |.d _,_=>false
 |.c _ _,_=>false
 |.o _ _ _,_=>false
 |.e _,_=>false
noncomputable def uh:au->au->Bool
 |[],r=>r.isEmpty
 |a::l,r=>(match r with|[]=>false|b::m=>fj a b&&uh l m)
end
theorem G9{q:PV->Bool}(hq:∀a,q a=true->fj a a=true):∀l:au,l.all q=true->uh l l=true:=by
 intro l
 induction l with
 |nil=>exactλU=>rfl
 |cons x r ih=>exactλh=>k8.mpr ⟨hq x (k8.mp h).1,ih (k8.mp h).2⟩
theorem w_:∀(n:Nat)(a:PV),simple n a=true->fj a a=true:=by
 intro n
 induction n with
 |zero=>
  intro a h;cases iJ h with
  |none=>rfl
  |int i=>exact di rfl
  |str i=>exact di rfl
  |tup l m e=>nomatch e
  |lst l m e=>nomatch e
 |succ n ih=>
  intro a h;cases iJ h with
  |none=>rfl
  |int i=>exact di rfl
  |str i=>exact di rfl
  |tup l m e h=>obtain rfl:=ng e;exact G9 ih l h
  |lst l m e h=>obtain rfl:=ng e;exact G9 ih l h
noncomputable def fz:Nat->PV->Bool
 |0,v=>(match v with
  |.n=>true
  |.b _=>true
  |.i _=>true
  |.s _=>true
  |.d _=>true
  |.t _=>false
  |.l _=>false
  |.r _=>false
  |.c _ _=>false
  |.o _ _ _=>false
  |.e _=>false)
 |n+1,v=>(match v with
  |.n=>true
  |.b _=>true
  |.i _=>true
  |.s _=>true
  |.d _=>true
  |.t l=>l.all<|fz n
  |.l l=>l.all<|fz n
  |.r l=>l.all<|fz n
  |.c _ l=>l.all<|fz n
  |.o _ _ l=>l.all<|fz n
  |.e _=>false)
noncomputable def xd:PV->Bool
 |.b _=>true
 |_=>false
noncomputable def xe:PV->Bool
 |.b _=>true
 |.n=>true
 |_=>false
noncomputable def cO(i:Int):Bool:=decide (-(2^40)<i)&&decide (i<2^40)
noncomputable def rt(H:ak):PV->Option (Int->bK)
 |.d f=>some f
 |.e n=>match H[n]? with
  |some (some<|.i _ f)=>some f
  |_=>none
 |_=>none
noncomputable def xg(H:ak):PV->Option (aY×au)
 |.c ks l=>some (ks,l)
 |.e n=>match H[n]? with
  |some (some<|.s ks l)=>some (ks,l)
  |_=>none
 |_=>none
def mj(H:ak)(a b:PV):Bool:=(xd a&&xd b)||(simple 4 (view H a)&&simple 4 (view H b))
def xh(H:ak)(a b:PV):Option Bool:=match e_ H b with
 |some l=>if simple 2 a&&l.all (simple 2)then some (l.any<|fj a)else none
 |none=>match a with
  |.i i=>(rt H b).map λf=>(f i).isSome
  |.s x=>(xg H b).map λp=>p.1.contains x
  |_=>none
def cE(H:ak)(op:gw)(a b:PV):Option Bool:=match op with
 |.e=>if mj H a b then some (fj (view H a)<|view H b)else none
 |.n=>if mj H a b then some (!fj (view H a) (view H b))else none
 |.l=>match a,b with|.i i,.i j=>some (decide<|i<j)|_,_=>none
 |.a=>match a,b with|.i i,.i j=>some (decide<|i<=j)|_,_=>none
 |.g=>match a,b with|.i i,.i j=>some (decide<|j<i)|_,_=>none
 |.b=>match a,b with|.i i,.i j=>some (decide<|j<=i)|_,_=>none
 |.s=>if xe b then some (fj a b)else none
 |.t=>if xe b then some (!fj a b)else none
 |.i=>xh H a b
 |.o=>(xh H a b).map (!·)
def kJ(H:ak)(op:lu)(a b:PV):bR:=match a,b with
 |.i i,.i j=>(match op with
  |.a=>some<|.i<|i+j
  |.s=>some<|.i<|i-j
  |.m=>if cO i&&cO j then some (.i<|i*j)else none
  |.f=>if cO i&&cO j&&decide (0<j)then some (.i<|i/j)else none
  |.o=>if decide (0<j)then some (.i<|i %j)else none)
 |a,b=>(match op with
  |.a=>(match fh H a,fh H b with
   |some l,some r=>if l.length+r.length<=2^20 then some (.l<|l++r)else none
   |_,_=>none)
  |_=>none)
def gH(H:ak)(a i:PV):bR:=match i with
 |.s x=>(xg H a).bind λp=>fW x p.1 p.2
 |.i k=>(match e_ H a with
  |some l=>(gx k l.length).bind λj=>l[j]?
  |none=>(rt H a).bind λf=>(f k).map .i)
 |_=>none
def ny(n d:Nat):PV->Option Nat
 |.n=>some d
 |.i k=>if cO k then some (cutAt k n)else none
 |_=>none
def rz(H:ak):PV->Option au
 |.r l=>some l
 |a=>fh H a
def ja(H:ak)(a lo hi:PV):bR:=
 (rz H a).bind λl=>(ny l.length 0 lo).bind λi=>(ny l.length l.length hi).map λj=>.l<|(l.take j).drop i
noncomputable def jR(H:ak)(ao:AO):PV×ak:=(.e H.length,H++[some ao])
noncomputable def gS{β:Type}(v:PV)(f:Int->Option β):Option β:=match v with
 |.i i=>f i
 |_=>none
@[elab_as_elim] theorem xj{β:Type}{f:Int->Option β}{r:β}{M:PV->Prop}(v:PV)(h:gS v f=some r)(K:∀i,f i=some r->M (.i i)):M v:=by
 induction v using d7<;>first|exact K _ h|exact nN h
noncomputable def rA{β:Type}(v:PV)(f:au->Option β):Option β:=match v with
 |.l i=>f i
 |_=>none
@[elab_as_elim] theorem um{β:Type}{f:au->Option β}{r:β}{M:PV->Prop}(v:PV)(h:rA v f=some r)(K:∀i,f i=some r->M (.l i)):M v:=by
 induction v using d7<;>first|exact K _ h|exact nN h
noncomputable def u1{α β:Type}(l:List α)(f:α->Option β):Option β:=match l with
 |[]=>none
 |x::r=>(match r with
  |[]=>f x
  |_::_=>none)
@[elab_as_elim] theorem xm{α β:Type}{f:α->Option β}{r:β}{M:List α->Prop}(l:List α)(h:u1 l f=some r)(K:∀i,f i=some r->M [i]):M l:=by
 induction l using b9 with
 |nil=>exact nN h
 |cons x l=>induction l using b9 with
  |nil=>exact K _ h
  |cons _ _=>exact nN h
def u2{α β:Type}(l:List α)(f:α->α->Option β):Option β:=match l with
 |[]=>none
 |x::r=>u1 r<|f x
@[elab_as_elim] theorem Ao{α β:Type}{f:α->α->Option β}{r:β}{M:List α->Prop}(l:List α)(h:u2 l f=some r)(K:∀i j,f i j=some r->M [i,j]):M l:=by
 induction l using b9 with
 |nil=>exact nN h
 |cons x l=>exact xm (M:=λl=>M<|x::l) l h<|K x
noncomputable def xn{β:Type}(v:PV)(f:String->Option β):Option β:=match v with
 |.s i=>f i
 |_=>none
@[elab_as_elim] theorem V6{β:Type}{f:String->Option β}{r:β}{M:PV->Prop}(v:PV)(h:xn v f=some r)(K:∀i,f i=some r->M (.s i)):M v:=by
 induction v using d7<;>first|exact K _ h|exact nN h
noncomputable def uo{β:Type}(v:PV)(f:(Int->bK)->Option β):Option β:=match v with
 |.d i=>f i
 |_=>none
@[elab_as_elim] theorem V7{β:Type}{f:(Int->bK)->Option β}{r:β}{M:PV->Prop}(v:PV)(h:uo v f=some r)(K:∀i,f i=some r->M (.d i)):M v:=by
 induction v using d7<;>first|exact K _ h|exact nN h
noncomputable def uq{β:Type}(v:PV)(f:aY->au->Option β):Option β:=match v with
 |.c ks l=>f ks l
 |_=>none
@[elab_as_elim] theorem V8{β:Type}{f:aY->au->Option β}{r:β}{M:PV->Prop}(v:PV)(h:uq v f=some r)(K:∀ks l,f ks l=some r->M (.c ks l)):M v:=by
 induction v using d7<;>first|exact K _ _ h|exact nN h
theorem nA{β:Type}{f:Int->Option β}{r:β}{v:PV}{G:Prop}(h:gS v f=some r)(K:∀i,v=.i i->f i=some r->G):G:=by revert K;exact xj v h λi h K=>K i rfl h
theorem G_{β:Type}{f:String->Option β}{r:β}{v:PV}{G:Prop}(h:xn v f=some r)(K:∀i,v=.s i->f i=some r->G):G:=by revert K;exact V6 v h λi h K=>K i rfl h
theorem V9{β:Type}{f:(Int->bK)->Option β}{r:β}{v:PV}{G:Prop}(h:uo v f=some r)(K:∀i,v=.d i->f i=some r->G):G:=by revert K;exact V7 v h λi h K=>K i rfl h
theorem V_{β:Type}{f:aY->au->Option β}{r:β}{v:PV}{G:Prop}(h:uq v f=some r)(K:∀ks l,v=.c ks l->f ks l=some r->G):G:=by revert K;exact V8 v h λi l h K=>K i l rfl h
noncomputable def xo{β:Type}(v:PV)(f:au->Option β):Option β:=match v with
 |.t l=>f l
 |_=>none
theorem xq{β:Type}{f:au->Option β}{r:β}{v:PV}{G:Prop}(h:xo v f=some r)(K:∀i,v=.t i->f i=some r->G):G:=by
 induction v using d7<;>first|exact K _ rfl h|exact nN h
noncomputable def Aq{β:Type}(v:PV)(f:Nat->Option β):Option β:=match v with
 |.e l=>f l
 |_=>none
theorem Hf{β:Type}{f:Nat->Option β}{r:β}{v:PV}{G:Prop}(h:Aq v f=some r)(K:∀i,v=.e i->f i=some r->G):G:=by
 induction v using d7<;>first|exact K _ rfl h|exact nN h
noncomputable def Hg:PV->Option Bool
 |.b _=>some true
 |.n=>some false
 |.i _=>some false
 |.s _=>some false
 |_=>none
noncomputable def Hh:bk->bK
 |[]=>none
 |n::ns=>some<|ns.foldl min n
def jS(H:ak)(b:oG)(vs:au):Rt:=match b with
 |.l=>u1 vs λv=>(e_ H v).map λl=>(.i l.length,H)
 |.i=>u1 vs λv=>(e_ H v).map λl=>(.l l,H)
 |.s=>u1 vs λv=>(e_ H v).map λl=>jR H<|.l l
 |.o=>u1 vs λv=>(fh H v).bind λl=>(intsOf l).bind λns=>if ns.length<64 then some (.l<|(sortedZ ns).map .i,H)else none
 |.m=>u1 vs λv=>(fh H v).bind λl=>(intsOf l).bind λns=>(Hh ns).map λn=>(.i n,H)
 |.n=>u2 vs λv w=>gS v λi=>gS w λj=>some (.i<|min i j,H)
 |.a=>u2 vs λv w=>gS v λi=>gS w λj=>some (.i<|max i j,H)
 |.B=>u1 vs λv=>(Hg v).map λb=>(.b b,H)
noncomputable def fk(a b:Int):au:=(List.range (b-a).toNat).map λ(i:Nat)=>PV.i<|a+(i:Int)
noncomputable def kK(a b:Int):au:=(List.range (a-b).toNat).map λ(i:Nat)=>PV.i<|a-(i:Int)
noncomputable def dU(l:au):au:=l.zipIdx.map λp=>.t [.i p.2,p.1]
noncomputable def gZ(l r:au):au:=(l.zip r).map λp=>.t [p.1,p.2]
def fb(k:IK)(vs:au):Option au:=match k with
 |.v=>u1 vs Al
 |.r=>(match vs with
  |[]=>none
  |a::r=>gS a λa=>(match r with
   |[]=>if cO a&&decide (a<=2^20)then some (fk 0 a)else none
   |b::r=>gS b λb=>(match r with
    |[]=>if cO a&&cO b&&decide (b-a<=2^20)then some (fk a b)else none
    |c::r=>gS c λc=>(match r with
     |[]=>if cO a&&cO b&&cO (b-a)&&decide (a-b<=2^20)&&decide (c=-1)then some (kK a b)else none
     |_::_=>none))))
 |.e=>u1 vs λl=>rA l λl=>some<|dU l
 |.z=>u2 vs λl r=>rA l λl=>rA r λr=>some<|gZ l r
 |.n=>u2 vs λl r=>rA l λl=>rA r λr=>if l.length=r.length then some (dU<|gZ l r)else none
noncomputable def jT(step:PV->ak->Option (bR×ak)):au->ak->Option (au×ak)
 |[],H=>some ([],H)
 |x::r,H=>(step x H).bind λp=>(jT step r p.2).map λq=>(p.1.toList++q.1,q.2)
noncomputable def iK(tp:Bool)(n:Nat)(x:PV):Option bF:=
 if tp then(match x with
  |.t l=>if l.length=n then some (l.map some)else none
  |_=>none)
 else some [some x]
noncomputable def iL(H:ak):PV->Option (Nat×au)
 |.e n=>match H[n]? with
  |some (some<|.l l)=>some (n,l)
  |_=>none
 |_=>none
mutual
noncomputable def az(Γ:b7):CE->bF->ak->Rt
 |.c p,_,H=>some (p,H)
 |.v i,ae,H=>(ae[i]?).bind λo=>o.map λv=>(v,H)
 |.g _ p,_,H=>some (p,H)
 |.t es,ae,H=>(cX Γ es ae H).map λr=>(.t r.1,r.2)
 |.l es,ae,H=>(cX Γ es ae H).map λr=>(.l r.1,r.2)
 |.e es,ae,H=>(cX Γ es ae H).map λr=>jR r.2<|.l r.1
 |.b op a b,ae,H=>(az Γ a ae H).bind λx=>(az Γ b ae x.2).bind λy=>(kJ y.2 op x.1 y.1).map λv=>(v,y.2)
 |.n a,ae,H=>(az Γ a ae H).bind λx=>gS x.1 λi=>some (.i<|-i,x.2)
 |.o a,ae,H=>(az Γ a ae H).bind λx=>(truth x.1).map λb=>(.b<|!b,x.2)
 |.m op a b,ae,H=>(az Γ a ae H).bind λx=>(az Γ b ae x.2).bind λy=>(cE y.2 op x.1 y.1).map λv=>(.b v,y.2)
 |.p o1 o2 a b c,ae,H=>(az Γ a ae H).bind λx=>(az Γ b ae x.2).bind λy=>(cE y.2 o1 x.1 y.1).bind λt=>
   if t then(az Γ c ae y.2).bind λz=>(cE z.2 o2 y.1 z.1).map λv=>(.b v,z.2)else some (.b false,y.2)
 |.a cA es,ae,H=>jz Γ cA es ae H
 |.i t a b,ae,H=>(az Γ t ae H).bind λx=>(truth x.1).bind λc=>if c then az Γ a ae x.2 else az Γ b ae x.2
 |.d a i,ae,H=>(az Γ a ae H).bind λx=>(az Γ i ae x.2).bind λy=>(gH y.2 x.1 y.1).map λv=>(v,y.2)
 |.s a lo hi,ae,H=>(az Γ a ae H).bind λx=>(az Γ lo ae x.2).bind λy=>(az Γ hi ae y.2).bind λz=>(ja z.2 x.1 y.1 z.1).map λv=>(v,z.2)
 |.r a,ae,H=>(az Γ a ae H).bind λx=>(fh x.2 x.1).map λl=>(.l l.reverse,x.2)
 |.f a f,ae,H=>(az Γ a ae H).bind λx=>(fieldsOf x.2 x.1).bind λo=>if qa o.1 f then(fW f o.2.1 o.2.2).map λv=>(v,x.2)else none
 |.h f es,ae,H=>(cX Γ es ae H).bind λr=>Γ "" f r.1 r.2
 |.j o m es,ae,H=>(az Γ o ae H).bind λx=>(fieldsOf x.2 x.1).bind λc=>(if c.2.1.contains m||c.1=="" then none else cX Γ es ae x.2).bind λr=>Γ c.1 m (x.1::r.1) r.2
 |.k b es,ae,H=>(cX Γ es ae H).bind λr=>jS r.2 b r.1
 |.q a b,ae,H=>(az Γ a ae H).bind λx=>(iL x.2 x.1).bind λU=>(az Γ b ae x.2).bind λy=>(iL y.2 x.1).bind λc=>
   if c.2.length<2^20 then some (.n,y.2.set c.1<|some<|.l<|c.2++[y.1])else none
 |.x a b,ae,H=>(az Γ a ae H).bind λx=>(iL x.2 x.1).bind λU=>(az Γ b ae x.2).bind λy=>(iL y.2 x.1).bind λc=>(fh y.2 y.1).bind λr=>
   if c.2.length+r.length<=2^20 then some (.n,y.2.set c.1<|some<|.l<|c.2++r)else none
 |.u a,ae,H=>(az Γ a ae H).bind λx=>(iL x.2 x.1).bind λc=>(c.2.getLast?).map λv=>(v,x.2.set c.1<|some<|.l c.2.dropLast)
 |.w dd k,ae,H=>(az Γ dd ae H).bind λx=>uq x.1 λks l=>(az Γ k ae x.2).bind λy=>xn y.1 λs=>some ((fW s ks l).getD .n,y.2)
 |.y dd k v,ae,H=>(az Γ dd ae H).bind λx=>uo x.1 λf=>(az Γ k ae x.2).bind λy=>(az Γ v ae y.2).bind λz=>gS y.1 λi=>gS z.1 λj=>some (.i<|(f i).getD j,z.2)
 |.z n,ae,H=>(az Γ n ae H).bind λx=>gS x.1 λk=>if 0<=k/\k<=2^20 then some (jR x.2<|.l<|List.replicate k.toNat .n)else none
 |.A,_,H=>some<|jR H (.i 0 λU=>none)
 |.B,_,H=>some<|jR H<|.s [] []
 |.C ks ps,_,H=>some<|jR H<|.s ks ps
 |.D elt tp tn k bZ cond,ae,H=>(cX Γ bZ ae H).bind λr=>(fb k r.1).bind λitems=>
   (jT (λx h=>(iK tp tn.length x).bind λown=>(jz Γ true cond (ae++own) h).bind λc=>(truth c.1).bind λb=>
    if b then(az Γ elt (ae++own) c.2).map λv=>(some v.1,v.2)else some (none,c.2)) items r.2).map λq=>(.l q.1,q.2)
noncomputable def cX(Γ:b7):List CE->bF->ak->Option (au×ak)
 |[],_,H=>some ([],H)
 |e::es,ae,H=>(az Γ e ae H).bind λx=>(cX Γ es ae x.2).map λr=>(x.1::r.1,r.2)
noncomputable def jz(Γ:b7)(cA:Bool):List CE->bF->ak->Rt
 |[],_,H=>some (.b cA,H)
 |e::es,ae,H=>(az Γ e ae H).bind λx=>(truth x.1).bind λb=>if b=cA then jz Γ cA es ae x.2 else some x
end
inductive dW where
 |n|b|c|r (v:PV)
abbrev Rs:=Option<|dW×bF×ak
noncomputable def oH(step:PV->bF->ak->Rs):au->bF->ak->Rs
 |[],ae,H=>some (.n,ae,H)
 |x::r,ae,H=>(step x ae H).bind λt=>match t.1 with
   |.n=>oH step r t.2.1 t.2.2
   |.c=>oH step r t.2.1 t.2.2
   |.b=>some (.n,t.2.1,t.2.2)
   |.r v=>some (.r v,t.2.1,t.2.2)
noncomputable def oJ(test:bF->ak->Option (Bool×ak))(body:bF->ak->Rs):Nat->bF->ak->Rs
 |0,_,_=>none
 |n+1,ae,H=>(test ae H).bind λt=>if t.1 then(body ae t.2).bind λu=>match u.1 with
   |.n=>oJ test body n u.2.1 u.2.2
   |.c=>oJ test body n u.2.1 u.2.2
   |.b=>some (.n,u.2.1,u.2.2)
   |.r v=>some (.r v,u.2.1,u.2.2)
  else some (.n,ae,t.2)
noncomputable def bx:aG->au->bF->bF
 |i::is,v::vs,ae=>bx is vs<|ae.set i<|some v
 |_,_,ae=>ae
def iw(tp:Bool)(tgt:aG)(x:PV)(ae:bF):Option bF:=match tp with
 |false=>u1 tgt λi=>some<|ae.set i<|some x
 |true=>xo x λl=>if tgt.length=l.length then some (bx tgt l ae)else none
def xr(H:ak)(v:PV):Rt:=(iL H v).bind λc=>if c.2.all (fz 4)then some (.l c.2,H.set c.1 none)else none
def rB(H:ak)(o i v:PV):Option ak:=Aq o λn=>(H[n]?).bind λo=>o.bind λao=>match ao with
 |.l l=>gS i λk=>(gx k l.length).map λj=>H.set n<|some<|.l<|l.set j v
 |.i m f=>gS i λk=>gS v λj=>if m<2^20 then some (H.set n<|some (.i (m+1) λx=>if x=k then some j else f x))else none
 |.s ks l=>xn i λx=>if ks.length<1000 then some (H.set n<|some<|.s (eT x v ks l).1 (eT x v ks l).2)else none
 |.n _ _ _=>none
def Hi(H:ak)(o:PV)(x:String)(v:PV):Option ak:=Aq o λn=>(H[n]?).bind λo=>o.bind λao=>match ao with
 |.n c ns l=>if ns.length<100&&qa c x then some (H.set n<|some<|.n c (eT x v ns l).1 (eT x v ns l).2)else none
 |.l _=>none
 |.i _ _=>none
 |.s _ _=>none
noncomputable def fuel:Nat:=1000
mutual
noncomputable def iy(Γ:b7):CS->bF->ak->Rs
 |.a i e,ae,H=>(az Γ e ae H).map λx=>(.n,ae.set i<|some x.1,x.2)
 |.s is e,ae,H=>(az Γ e ae H).bind λx=>(iw true is x.1 ae).map λcZ=>(.n,cZ,x.2)
 |.e o f e,ae,H=>(az Γ e ae H).bind λx=>(az Γ o ae x.2).bind λy=>(Hi y.2 y.1 f x.1).map λh=>(.n,ae,h)
 |.t o i e,ae,H=>(az Γ e ae H).bind λx=>(az Γ o ae x.2).bind λy=>(az Γ i ae y.2).bind λz=>(rB z.2 y.1 z.1 x.1).map λh=>(.n,ae,h)
 |.f tp tgt k bZ body,ae,H=>(cX Γ bZ ae H).bind λr=>(fb k r.1).bind λitems=>oH (λx cT h=>(iw tp tgt x cT).bind λjU=>aF Γ body jU h) items ae r.2
 |.w t body,ae,H=>oJ (λcT h=>(az Γ t cT h).bind λx=>(truth x.1).map λb=>(b,x.2)) (λcT h=>aF Γ body cT h) fuel ae H
 |.i t a b,ae,H=>(az Γ t ae H).bind λx=>(truth x.1).bind λc=>if c then aF Γ a ae x.2 else aF Γ b ae x.2
 |.r e,ae,H=>(az Γ e ae H).map λx=>(.r x.1,ae,x.2)
 |.x e,ae,H=>(az Γ e ae H).map λx=>(.n,ae,x.2)
 |.b,ae,H=>some (.b,ae,H)
 |.c,ae,H=>some (.c,ae,H)
 |.z i,ae,H=>(ae[i]?).bind λo=>o.bind λv=>(xr H v).map λr=>(.n,ae.set i<|some r.1,r.2)
noncomputable def aF(Γ:b7):List CS->bF->ak->Rs
 |[],ae,H=>some (.n,ae,H)
 |s::r,ae,H=>(iy Γ s ae H).bind λt=>match t.1 with
   |.n=>aF Γ r t.2.1 t.2.2
   |f=>some (f,t.2.1,t.2.2)
end
inductive FK|f|c
 deriving DecidableEq
structure bl where
 name:String
 kind:FK
 pure:Bool
 names:aY
 arity:Nat
 defaults:au
 body:List CS
def lz(v:PV):bR:=if fz 4 v then some v else none
noncomputable def Wa(f:PV->bR):AO->bR
 |.l l=>(l.mapM f).map .l
 |.i _ f=>some<|.d f
 |.s ks l=>(l.mapM f).map<|.c ks
 |.n c ns l=>(l.mapM f).map<|.o c ns
def b8:Nat->ak->PV->bR
 |0,_,v=>lz v
 |n+1,H,v=>(match v with
  |.e m=>(H[m]?).bind λo=>o.bind<|Wa<|b8 n H
  |.t l=>(l.mapM<|b8 n H).map .t
  |.n=>lz .n
  |.b b=>lz<|.b b
  |.i b=>lz<|.i b
  |.s b=>lz<|.s b
  |.l b=>lz<|.l b
  |.r b=>lz<|.r b
  |.d b=>lz<|.d b
  |.c k b=>lz<|.c k b
  |.o c k b=>lz<|.o c k b)
noncomputable def jb(ir:bl)(args:au):Option au:=
 if args.length<=ir.arity/\ir.arity<=args.length+ir.defaults.length then some (args++ir.defaults.drop (ir.defaults.length-(ir.arity-args.length)))else none
noncomputable def fX:dW->PV
 |.r v=>v
 |_=>.n
noncomputable def rC(r:dW×bF×ak):Option ak:=match r.1 with
 |.n=>some r.2.2
 |_=>none
noncomputable def g7(ir:bl)(vs:au):bF:=vs.map some++List.replicate (ir.names.length-vs.length) none
def jA(Γ:b7)(ir:bl)(args:au)(H:ak):Rt:=(jb ir args).bind λvs=>
 match ir.kind,ir.pure with
 |.f,true=>if vs.all (fz 8)then(aF Γ ir.body (g7 ir vs) []).bind λr=>(b8 6 r.2.2<|fX r.1).map λv=>(v,H)else none
 |.f,false=>(aF Γ ir.body (g7 ir vs) H).map λr=>(fX r.1,r.2.2)
 |.c,true=>if vs.all (fz 8)then(aF Γ ir.body (g7 ir<|PV.e 0::vs) [some<|.n ir.name [] []]).bind λr=>(rC r).bind λh=>(b8 6 h<|.e 0).map λv=>(v,H)else none
 |.c,false=>(aF Γ ir.body (g7 ir<|PV.e H.length::vs)<|H++[some<|.n ir.name [] []]).bind λr=>(rC r).map λh=>(.e H.length,h)
end
section
noncomputable def Wb:PV:=(.i 125)
noncomputable def Ar:PV:=(.t [.s "L",.s "R",.s "AL"])
noncomputable def rE:PV:=(.t [.s "RLE",.s "LRE",.s "RLO",.s "LRO"])
noncomputable def iM:PV:=(.t [.s "LRI",.s "RLI",.s "FSI"])
noncomputable def oK:PV:=(.t [.s "RLE",.s "LRE",.s "RLO",.s "LRO",.s "PDF",.s "BN"])
noncomputable def qc:PV:=(.s "B")
noncomputable def Hj:PV:=(.i 13)
noncomputable def Hl:PV:=(.i 10)
noncomputable def Ho:PV:=(.i 63)
noncomputable def As:PV:=(.t [.s "LRI",.s "RLI",.s "FSI",.s "PDI"])
noncomputable def Au:PV:=(.t [.s "B",.s "S",.s "WS",.s "ON",.s "LRI",.s "RLI",.s "FSI",.s "PDI"])
noncomputable def Av:PV:=(.t [.s "ES",.s "ET",.s "CS"])
noncomputable def ur:PV:=(.t [.s "EN",.s "AN"])
noncomputable def uu:PV:=(.t [.s "S",.s "B"])
noncomputable def uv:PV:=(.t [.s "WS",.s "FSI",.s "LRI",.s "RLI",.s "PDI"])
noncomputable def Aw:PV:=(.t [.s "Mn",.s "Me"])
noncomputable def Hp:PV:=(.i 1114111)
def xu:List (String×PV):=[("MAX_DEPTH",Wb),("STRONG",Ar),("EMBEDDINGS",rE),("INITIATORS",iM),("REMOVED",oK),("SEPARATOR",qc),("CARRIAGE_RETURN",Hj),("LINE_FEED",Hl),("MOST_BRACKETS",Ho),("ISOLATE_SIGNS",As),("NEUTRALS",Au),("LEFT_OVERS",Av),("NUMBERS",ur),("LINE_SEPARATORS",uu),("LINE_BLANKS",uv),("LINE_MARKS",Aw),("MAX_CODE",Hp)]
noncomputable def Ax:List CS:=[.r<|.D (.j (.v 1) "get" [.c<|.s "bc",.v 2]) false ["code"] .v [.v 0] []]
def Hq:bl:=⟨"bidi_kinds",.f,true,["text","data"],2,[],Ax⟩
def Ay:List CS:=[.a 2<|.e [],
 .a 3 (.c<|.i 0),
 .f true [4,5] .e [.v 0]
  [.i (.m .e (.j (.v 1) "get" [.c<|.s "bc",.v 5])<|.g "SEPARATOR" qc)
   [.a 6<|.a true [.m .e (.v 5)<|.g "CARRIAGE_RETURN" Hj,.m .l (.b .a (.v 4)<|.c<|.i 1)<|.k .l [.v 0],.m .e (.d (.v 0)<|.b .a (.v 4)<|.c<|.i 1)<|.g "LINE_FEED" Hl],
   .i (.o<|.v 6)
    [.x<|.q (.v 2)<|.t [.v 3,.b .a (.v 4)<|.c<|.i 1],
    .a 3 (.b .a (.v 4)<|.c<|.i 1)]
    []]
   []],
 .i (.m .l (.v 3)<|.k .l [.v 0])
  [.x<|.q (.v 2)<|.t [.v 3,.k .l [.v 0]]]
  [],
 .r (.v 2)]
def Hr:bl:=⟨"paragraphs",.f,true,["text","data","found","begun","at","code","is_pair"],2,[],Ay⟩
def Az:List CS:=[.a 1 .A,
 .a 2 (.e []),
 .f true [3,4] .e [.v 0]
  [.i (.m .i (.v 4)<|.g "INITIATORS" iM)
   [.x<|.q (.v 2)<|.v 3]
   [.i (.a true [.m .e (.v 4)<|.c<|.s "PDI",.m .n (.v 2)<|.l []])
    [.a 5<|.u<|.v 2,
    .t (.v 1) (.v 5) (.v 3),
    .t (.v 1) (.v 3) (.v 5)]
    [.i (.m .e (.v 4)<|.g "SEPARATOR" qc)
     [.a 2<|.e []]
     []]]],
 .r (.v 1)]
def Hs:bl:=⟨"isolate_pairs",.f,true,["kinds","found","waiting","at","kind","begin"],1,[],Az⟩
def AA:List CS:=[.a 4<|.v 1,
 .w (.m .l (.v 4)<|.v 2)
  [.a 5<|.d (.v 0)<|.v 4,
  .i (.m .i (.v 5)<|.g "STRONG" Ar)
   [.r<|.v 5]
   [],
  .i (.m .e (.v 5)<|.g "SEPARATOR" qc)
   [.r<|.c .n]
   [],
  .i (.m .i (.v 5)<|.g "INITIATORS" iM)
   [.i (.m .o (.v 4)<|.v 3)
    [.r<|.c .n]
    [],
   .a 4 (.d (.v 3)<|.v 4)]
   [],
  .a 4 (.b .a (.v 4)<|.c<|.i 1)],
 .r (.c .n)]
def Ht:bl:=⟨"bidi_first_strong",.f,true,["kinds","begin","end","pairs","at","kind"],4,[],AA⟩
noncomputable def AB:List CS:=[.r<|.h "bidi_base" [.h "bidi_kinds" [.v 0,.v 1],.v 2]]
def Hu:bl:=⟨"base_level",.f,true,["text","data","word"],3,[.s "auto"],AB⟩
noncomputable def AD:List CS:=[.i (.a false [.m .e (.v 1)<|.c<|.s "ltr",.m .e (.v 1)<|.c<|.s "rtl"])
  [.r<|.i (.m .e (.v 1)<|.c<|.s "ltr") (.c<|.i 0)<|.c<|.i 1]
  [],
 .a 2 (.h "bidi_first_strong" [.v 0,.c<|.i 0,.k .l [.v 0],.h "isolate_pairs" [.v 0]]),
 .i (.m .s (.v 2)<|.c .n)
  [.r<|.i (.m .e (.v 1)<|.c<|.s "auto-rtl") (.c<|.i 1)<|.c<|.i 0]
  [],
 .r (.i (.m .e (.v 2)<|.c<|.s "L") (.c<|.i 0)<|.c<|.i 1)]
def Hv:bl:=⟨"bidi_base",.f,true,["kinds","word","strong"],2,[],AD⟩
noncomputable def Wc:List CS:=[.e (.v 0) "level"<|.v 1,
 .e (.v 0) "override" (.v 2),
 .e (.v 0) "is_isolate" (.v 3)]
def Wd:bl:=⟨"BidiEntry",.c,true,["self","level","override","is_isolate"],3,[],Wc⟩
noncomputable def We:List CS:=[.e (.v 0) "depth"<|.v 2,
 .e (.v 0) "entries" (.e [.h "BidiEntry" [.v 1,.c .n,.c<|.b false]]),
 .e (.v 0) "over_isolates" (.c<|.i 0),
 .e (.v 0) "over_embeddings" (.c<|.i 0),
 .e (.v 0) "valid_isolates" (.c<|.i 0)]
def Wf:bl:=⟨"BidiStack",.c,false,["self","base","depth"],2,[],We⟩
noncomputable def AF:List CS:=[.r<|.d (.f (.v 0) "entries")<|.n<|.c<|.i 1]
def Hw:bl:=⟨"last",.f,false,["self"],1,[],AF⟩
noncomputable def AG:List CS:=[.a 2<|.f (.j (.v 0) "last" []) "level",
 .i (.v 1)
  [.r<|.b .a (.b .a (.v 2)<|.c<|.i 1)<|.b .o (.v 2)<|.c<|.i 2]
  [],
 .r (.b .s (.b .a (.v 2)<|.c<|.i 2)<|.b .o (.v 2)<|.c<|.i 2)]
def Hx:bl:=⟨"further",.f,false,["self","is_right","level"],2,[],AG⟩
noncomputable def AH:List CS:=[.r<|.a true [.m .a (.v 1)<|.f (.v 0) "depth",.m .e (.f (.v 0) "over_isolates")<|.c<|.i 0,.m .e (.f (.v 0) "over_embeddings")<|.c<|.i 0]]
def Hy:bl:=⟨"is_free",.f,false,["self","level"],2,[],AH⟩
noncomputable def AI:List CS:=[.a 3<|.j (.v 0) "further" [.v 1],
 .i (.j (.v 0) "is_free" [.v 3])
  [.x<|.q (.f (.v 0) "entries")<|.h "BidiEntry" [.v 3,.v 2,.c<|.b false]]
  [.i (.m .e (.f (.v 0) "over_isolates")<|.c<|.i 0)
   [.e (.v 0) "over_embeddings"<|.b .a (.f (.v 0) "over_embeddings")<|.c<|.i 1]
   []]]
def Hz:bl:=⟨"embed",.f,false,["self","is_right","override","level"],3,[],AI⟩
noncomputable def AJ:List CS:=[.a 2<|.j (.v 0) "further" [.v 1],
 .i (.j (.v 0) "is_free" [.v 2])
  [.e (.v 0) "valid_isolates"<|.b .a (.f (.v 0) "valid_isolates")<|.c<|.i 1,
  .x (.q (.f (.v 0) "entries")<|.h "BidiEntry" [.v 2,.c .n,.c<|.b true])]
  [.e (.v 0) "over_isolates"<|.b .a (.f (.v 0) "over_isolates")<|.c<|.i 1]]
def HA:bl:=⟨"isolate",.f,false,["self","is_right","level"],2,[],AJ⟩
noncomputable def AK:List CS:=[.i (.m .g (.f (.v 0) "over_isolates")<|.c<|.i 0)
  [.e (.v 0) "over_isolates"<|.b .s (.f (.v 0) "over_isolates")<|.c<|.i 1]
  [.i (.m .g (.f (.v 0) "valid_isolates")<|.c<|.i 0)
   [.e (.v 0) "over_embeddings"<|.c<|.i 0,
   .w (.o<|.f (.j (.v 0) "last" []) "is_isolate")
    [.x<|.u<|.f (.v 0) "entries"],
   .x (.u<|.f (.v 0) "entries"),
   .e (.v 0) "valid_isolates" (.b .s (.f (.v 0) "valid_isolates")<|.c<|.i 1)]
   []]]
def HB:bl:=⟨"end_isolate",.f,false,["self"],1,[],AK⟩
noncomputable def AL:List CS:=[.i (.m .g (.f (.v 0) "over_isolates")<|.c<|.i 0)
  [.r<|.c .n]
  [],
 .i (.m .g (.f (.v 0) "over_embeddings")<|.c<|.i 0)
  [.e (.v 0) "over_embeddings"<|.b .s (.f (.v 0) "over_embeddings")<|.c<|.i 1]
  [.i (.a true [.o<|.f (.j (.v 0) "last" []) "is_isolate",.m .g (.k .l [.f (.v 0) "entries"])<|.c<|.i 1])
   [.x<|.u<|.f (.v 0) "entries"]
   []]]
def HC:bl:=⟨"end_embedding",.f,false,["self"],1,[],AL⟩
def AM:List CS:=[.a 3<|.h "BidiStack" [.v 1,.v 2],
 .a 4 (.h "isolate_pairs" [.v 0]),
 .a 5 (.e []),
 .a 6 (.e []),
 .f true [7,8] .e [.v 0]
  [.i (.m .i (.v 8)<|.g "REMOVED" oK)
   [.x<|.q (.v 5)<|.c .n,
   .x (.q (.v 6)<|.c<|.s "BN"),
   .i (.m .i (.v 8)<|.g "EMBEDDINGS" rE)
    [.a 9<|.a false [.m .e (.v 8)<|.c<|.s "RLE",.m .e (.v 8)<|.c<|.s "RLO"],
    .a 10 (.i (.a false [.m .e (.v 8)<|.c<|.s "RLO",.m .e (.v 8)<|.c<|.s "LRO"]) (.i (.v 9) (.c<|.s "R")<|.c<|.s "L")<|.c .n),
    .x (.j (.v 3) "embed" [.v 9,.v 10])]
    [.i (.m .e (.v 8)<|.c<|.s "PDF")
     [.x<|.j (.v 3) "end_embedding" []]
     []]]
   [.i (.m .e (.v 8)<|.g "SEPARATOR" qc)
    [.x<|.q (.v 5)<|.v 1,
    .x (.q (.v 6)<|.v 8)]
    [.i (.m .e (.v 8)<|.c<|.s "PDI")
     [.x<|.j (.v 3) "end_isolate" []]
     [],
    .a 11 (.j (.v 3) "last" []),
    .x (.q (.v 5)<|.f (.v 11) "level"),
    .x (.q (.v 6)<|.i (.m .t (.f (.v 11) "override")<|.c .n) (.f (.v 11) "override")<|.v 8),
    .i (.m .i (.v 8)<|.g "INITIATORS" iM)
     [.x<|.j (.v 3) "isolate" [.h "bidi_is_right_isolate" [.v 0,.v 7,.v 4]]]
     []]]],
 .r (.t [.v 5,.v 6])]
def HD:bl:=⟨"explicit",.f,true,["kinds","base","depth","stack","pairs","levels","classes","at","kind","is_right","override","entry"],3,[.i 125],AM⟩
noncomputable def AN:List CS:=[.i (.m .n (.d (.v 0)<|.v 1)<|.c<|.s "FSI")
  [.r<|.m .e (.d (.v 0)<|.v 1)<|.c<|.s "RLI"]
  [],
 .a 3 (.h "bidi_first_strong" [.v 0,.b .a (.v 1)<|.c<|.i 1,.y (.v 2) (.v 1)<|.k .l [.v 0],.v 2]),
 .r (.a false [.m .e (.v 3)<|.c<|.s "R",.m .e (.v 3)<|.c<|.s "AL"])]
def HE:bl:=⟨"bidi_is_right_isolate",.f,true,["kinds","at","pairs","strong"],3,[],AN⟩
noncomputable def AQ:List CS:=[.a 1<|.e [],
 .a 2 (.c .n),
 .f true [3,4] .e [.v 0]
  [.i (.m .t (.v 4)<|.c .n)
   [.i (.m .n (.v 4)<|.v 2)
    [.x<|.q (.v 1)<|.e []]
    [],
   .x (.q (.d (.v 1)<|.n<|.c<|.i 1)<|.v 3),
   .a 2 (.v 4)]
   []],
 .r (.v 1)]
def HF:bl:=⟨"level_runs",.f,true,["levels","found","last","at","level"],1,[],AQ⟩
noncomputable def Wg:List CS:=[.e (.v 0) "places"<|.v 1,
 .e (.v 0) "classes" (.v 2),
 .e (.v 0) "level" (.v 3),
 .e (.v 0) "sos" (.v 4),
 .e (.v 0) "eos" (.v 5),
 .e (.v 0) "codes" (.k .i [.v 6])]
def HG:bl:=⟨"BidiSequence",.c,true,["self","places","classes","level","sos","eos","codes"],6,[.t []],Wg⟩
noncomputable def AR:List CS:=[.r<|.i (.m .e (.b .o (.k .a [.v 0,.v 1])<|.c<|.i 2)<|.c<|.i 1) (.c<|.s "R")<|.c<|.s "L"]
def HH:bl:=⟨"bidi_direction",.f,true,["one","other"],2,[],AR⟩
noncomputable def AS:List CS:=[.a 1<|.b .a (.v 1)<|.v 2,
 .w (.p .a .l (.c<|.i 0) (.v 1)<|.k .l [.v 0])
  [.i (.m .t (.d (.v 0)<|.v 1)<|.c .n)
   [.r<|.d (.v 0)<|.v 1]
   [],
  .a 1 (.b .a (.v 1)<|.v 2)],
 .r (.v 3)]
def HJ:bl:=⟨"bidi_level_beside",.f,true,["levels","at","step","base"],4,[],AS⟩
def AU:List CS:=[.a 3<|.h "level_runs" [.v 1],
 .a 4 .A,
 .f true [5,6] .e [.v 3]
  [.t (.v 4) (.d (.v 6)<|.c<|.i 0)<|.v 5],
 .a 7 (.e []),
 .f false [6] .v [.v 3]
  [.i (.a true [.m .e (.d (.v 0)<|.d (.v 6)<|.c<|.i 0)<|.c<|.s "PDI",.m .i (.d (.v 6)<|.c<|.i 0)<|.v 2])
   [.c]
   [],
  .a 8 (.k .s [.v 6]),
  .w (.a true [.m .i (.d (.v 0)<|.d (.v 8)<|.n<|.c<|.i 1)<|.g "INITIATORS" iM,.m .i (.d (.v 8)<|.n<|.c<|.i 1)<|.v 2])
   [.x<|.x (.v 8)<|.d (.v 3)<|.d (.v 4)<|.d (.v 2)<|.d (.v 8)<|.n<|.c<|.i 1],
  .x (.q (.v 7)<|.v 8)],
 .r (.v 7)]
def HL:bl:=⟨"bidi_joined_runs",.f,true,["kinds","levels","pairs","runs","run_of","number","run","found","places"],3,[],AU⟩
def AV:List CS:=[.a 5<|.h "isolate_pairs" [.v 0],
 .a 6 (.e []),
 .f false [7] .v [.h "bidi_joined_runs" [.v 0,.v 1,.v 5]]
  [.a 8<|.d (.v 7)<|.c<|.i 0,
  .a 9 (.d (.v 7)<|.n<|.c<|.i 1),
  .a 10 (.d (.v 1)<|.v 8),
  .a 11 (.h "bidi_direction" [.v 10,.h "bidi_level_beside" [.v 1,.v 8,.n<|.c<|.i 1,.v 3]]),
  .i (.a true [.m .i (.d (.v 0)<|.v 9)<|.g "INITIATORS" iM,.m .o (.v 9)<|.v 5])
   [.a 12<|.h "bidi_direction" [.v 10,.v 3]]
   [.a 12<|.h "bidi_direction" [.v 10,.h "bidi_level_beside" [.v 1,.v 9,.c<|.i 1,.v 3]]],
  .a 13 (.i (.m .t (.v 4)<|.c .n) (.D (.d (.v 4)<|.v 14) false ["at"] .v [.v 7] [])<|.l []),
  .x (.q (.v 6)<|.h "BidiSequence" [.v 7,.D (.d (.v 2)<|.v 14) false ["at"] .v [.v 7] [],.v 10,.v 11,.v 12,.v 13])],
 .r (.v 6)]
def HM:bl:=⟨"isolating_sequences",.f,true,["kinds","levels","classes","base","codes","pairs","found","places","first","last","level","sos","eos","there"],5,[.n],AV⟩
noncomputable def Wh:List CS:=[.e (.v 0) "begin"<|.v 1,
 .e (.v 0) "end" (.b .a (.v 1)<|.k .l [.v 2]),
 .e (.v 0) "codes" (.v 2),
 .e (.v 0) "base" (.v 3),
 .e (.v 0) "kinds" (.v 4),
 .e (.v 0) "levels" (.v 5),
 .e (.v 0) "classes" (.v 6)]
def HN:bl:=⟨"BidiParagraph",.c,true,["self","begin","codes","base","kinds","levels","classes"],6,[],Wh⟩
noncomputable def AW:List CS:=[.r<|.h "isolating_sequences" [.f (.v 0) "kinds",.f (.v 0) "levels",.f (.v 0) "classes",.f (.v 0) "base",.f (.v 0) "codes"]]
def HO:bl:=⟨"sequences",.f,true,["self"],1,[],AW⟩
noncomputable def AX:List CS:=[.a 4<|.e [],
 .f true [5,6] .v [.h "paragraphs" [.v 0,.v 1]]
  [.a 7<|.s (.v 0) (.v 5)<|.v 6,
  .a 8 (.h "bidi_kinds" [.v 7,.v 1]),
  .a 9 (.h "bidi_base" [.v 8,.v 2]),
  .s [10,11] (.h "explicit" [.v 8,.v 9,.v 3]),
  .x (.q (.v 4)<|.h "BidiParagraph" [.v 5,.v 7,.v 9,.v 8,.v 10,.v 11])],
 .r (.v 4)]
def HP:bl:=⟨"bidi_paragraphs",.f,true,["text","data","word","depth","found","begin","end","codes","kinds","base","levels","classes"],4,[.s "auto",.i 125],AX⟩
def AY:List CS:=[.a 2<|.e [],
 .a 3 (.v 1),
 .f false [4] .v [.v 0]
  [.i (.m .e (.v 4)<|.c<|.s "NSM")
   [.a 4<|.i (.m .i (.v 3)<|.g "ISOLATE_SIGNS" As) (.c<|.s "ON")<|.v 3]
   [],
  .x (.q (.v 2)<|.v 4),
  .a 3 (.v 4)],
 .r (.v 2)]
def HQ:bl:=⟨"bidi_marks",.f,true,["classes","sos","found","last","kind"],2,[],AY⟩
noncomputable def HR:List CS:=[.a 2<|.e [],
 .a 3 (.v 1),
 .f false [4] .v [.v 0]
  [.i (.m .i (.v 4)<|.t [.c<|.s "L",.c<|.s "R",.c<|.s "AL"])
   [.a 3<|.v 4]
   [],
  .x (.q (.v 2)<|.i (.a true [.m .e (.v 4)<|.c<|.s "EN",.m .e (.v 3)<|.c<|.s "AL"]) (.c<|.s "AN")<|.v 4)],
 .r (.v 2)]
def HS:bl:=⟨"bidi_arabic_numbers",.f,true,["classes","sos","found","strong","kind"],2,[],HR⟩
noncomputable def AZ:List CS:=[.r<|.D (.i (.m .e (.v 1)<|.c<|.s "AL") (.c<|.s "R")<|.v 1) false ["kind"] .v [.v 0] []]
def HT:bl:=⟨"bidi_arabic_letters",.f,true,["classes"],1,[],AZ⟩
def A0:List CS:=[.a 1<|.k .s [.v 0],
 .f false [2] .r [.c<|.i 1,.b .s (.k .l [.v 0])<|.c<|.i 1]
  [.s [3,4]<|.t [.d (.v 0)<|.v 2,.d (.v 0)<|.b .s (.v 2)<|.c<|.i 1],
  .i (.m .e (.v 4)<|.d (.v 0)<|.b .a (.v 2)<|.c<|.i 1)
   [.i (.a false [.a true [.m .e (.v 3)<|.c<|.s "CS",.m .i (.v 4)<|.g "NUMBERS" ur],.a true [.m .e (.v 3)<|.c<|.s "ES",.m .e (.v 4)<|.c<|.s "EN"]])
    [.t (.v 1) (.v 2)<|.v 4]
    []]
   []],
 .r (.v 1)]
def HU:bl:=⟨"bidi_separators",.f,true,["classes","found","at","kind","beside"],1,[],A0⟩
noncomputable def A3:List CS:=[.a 2<|.e [],
 .a 3 (.c .n),
 .f true [4,5] .e [.v 0]
  [.i (.a true [.m .i (.v 5)<|.v 1,.m .s (.v 3)<|.c .n])
   [.a 3<|.v 4]
   [.i (.a true [.m .o (.v 5)<|.v 1,.m .t (.v 3)<|.c .n])
    [.x<|.q (.v 2)<|.t [.v 3,.v 4],
    .a 3 (.c .n)]
    []]],
 .i (.m .t (.v 3)<|.c .n)
  [.x<|.q (.v 2)<|.t [.v 3,.k .l [.v 0]]]
  [],
 .r (.v 2)]
def HV:bl:=⟨"bidi_runs",.f,true,["classes","kinds","found","begun","at","kind"],2,[],A3⟩
noncomputable def A4:List CS:=[.a 5<|.i (.m .g (.v 1)<|.c<|.i 0) (.d (.v 0)<|.b .s (.v 1)<|.c<|.i 1)<|.v 3,
 .r (.t [.v 5,.i (.m .l (.v 2)<|.k .l [.v 0]) (.d (.v 0)<|.v 2)<|.v 4])]
def HW:bl:=⟨"bidi_beside",.f,true,["classes","first","end","ahead","behind","one"],5,[],A4⟩
noncomputable def A7:List CS:=[.a 1<|.k .s [.v 0],
 .f true [2,3] .v [.h "bidi_runs" [.v 0,.t [.c<|.s "ET"]]]
  [.i (.m .i (.c<|.s "EN")<|.h "bidi_beside" [.v 0,.v 2,.v 3,.c .n,.c .n])
   [.f false [4] .r [.v 2,.v 3]
    [.t (.v 1) (.v 4)<|.c<|.s "EN"]]
   []],
 .r (.v 1)]
def HX:bl:=⟨"bidi_terminators",.f,true,["classes","found","first","end","at"],1,[],A7⟩
def A_:List CS:=[.r<|.D (.i (.m .i (.v 1)<|.g "LEFT_OVERS" Av) (.c<|.s "ON")<|.v 1) false ["kind"] .v [.v 0] []]
def HY:bl:=⟨"bidi_left_overs",.f,true,["classes"],1,[],A_⟩
noncomputable def HZ:List CS:=[.a 2<|.e [],
 .a 3 (.v 1),
 .f false [4] .v [.v 0]
  [.i (.m .i (.v 4)<|.t [.c<|.s "L",.c<|.s "R"])
   [.a 3<|.v 4]
   [],
  .x (.q (.v 2)<|.i (.a true [.m .e (.v 4)<|.c<|.s "EN",.m .e (.v 3)<|.c<|.s "L"]) (.c<|.s "L")<|.v 4)],
 .r (.v 2)]
def H6:bl:=⟨"bidi_left_numbers",.f,true,["classes","sos","found","strong","kind"],2,[],HZ⟩
noncomputable def Ba:List CS:=[.a 2<|.h "bidi_arabic_letters" [.h "bidi_arabic_numbers" [.h "bidi_marks" [.v 0,.v 1],.v 1]],
 .r (.h "bidi_left_numbers" [.h "bidi_left_overs" [.h "bidi_terminators" [.h "bidi_separators" [.v 2]]],.v 1])]
def H7:bl:=⟨"weak_classes",.f,true,["classes","sos","found"],2,[],Ba⟩
noncomputable def Bb:List CS:=[.r<|.h "weak_classes" [.f (.v 0) "classes",.f (.v 0) "sos"]]
def H8:bl:=⟨"weak",.f,true,["sequence"],1,[],Bb⟩
noncomputable def Wi:List CS:=[.a 2<|.j (.v 1) "get" [.c<|.s "dm",.v 0],
 .i (.a true [.m .t (.v 2)<|.c .n,.m .e (.d (.v 2)<|.c<|.i 0)<|.c<|.s "",.m .e (.k .l [.d (.v 2)<|.c<|.i 1])<|.c<|.i 1])
  [.r<|.d (.d (.v 2)<|.c<|.i 1)<|.c<|.i 0]
  [],
 .r (.v 0)]
def Wj:bl:=⟨"bidi_bracket_key",.f,true,["code","data","told"],2,[],Wi⟩
def Bc:List CS:=[.a 3<|.e [],
 .a 4 (.e []),
 .f true [5,6] .e [.v 0]
  [.a 7<|.i (.m .e (.d (.v 1)<|.v 5)<|.c<|.s "ON") (.j (.v 2) "get" [.c<|.s "bpb",.v 6])<|.c .n,
  .i (.a true [.m .t (.v 7)<|.c .n,.m .e (.d (.v 7)<|.c<|.i 0)<|.c<|.s "o"])
   [.i (.m .b (.k .l [.v 4])<|.g "MOST_BRACKETS" Ho)
    [.b]
    [],
   .x (.q (.v 4)<|.t [.h "bidi_bracket_key" [.d (.v 7)<|.c<|.i 1,.v 2],.v 5])]
   [.i (.m .t (.v 7)<|.c .n)
    [.a 8<|.h "bidi_bracket_key" [.v 6,.v 2],
    .a 9 (.b .s (.k .l [.v 4])<|.c<|.i 1),
    .w (.a true [.m .b (.v 9)<|.c<|.i 0,.m .n (.d (.d (.v 4)<|.v 9)<|.c<|.i 0)<|.v 8])
     [.a 9<|.b .s (.v 9)<|.c<|.i 1],
    .i (.m .b (.v 9)<|.c<|.i 0)
     [.x<|.q (.v 3)<|.t [.d (.d (.v 4)<|.v 9)<|.c<|.i 1,.v 5],
     .a 4 (.s (.v 4) (.c .n)<|.v 9)]
     []]
    []]],
 .r (.k .o [.v 3])]
def H9:bl:=⟨"bracket_pairs_of",.f,true,["codes","classes","data","found","waiting","at","code","told","key","number"],3,[],Bc⟩
noncomputable def Bd:List CS:=[.r<|.h "bracket_pairs_of" [.f (.v 0) "codes",.f (.v 0) "classes",.v 1]]
def H_:bl:=⟨"bracket_pairs",.f,true,["sequence","data"],2,[],Bd⟩
def Be:List CS:=[.i (.m .e (.v 0)<|.c<|.s "L")
  [.r<|.c<|.s "L"]
  [],
 .r (.i (.a false [.m .e (.v 0)<|.c<|.s "R",.m .i (.v 0)<|.g "NUMBERS" ur]) (.c<|.s "R")<|.c .n)]
def Ia:bl:=⟨"bidi_strong",.f,true,["kind"],1,[],Be⟩
noncomputable def Bf:List CS:=[.r<|.i (.m .e (.b .o (.v 0)<|.c<|.i 2)<|.c<|.i 0) (.c<|.s "L")<|.c<|.s "R"]
def Ib:bl:=⟨"bidi_embedding",.f,true,["level"],1,[],Bf⟩
noncomputable def Wk:List CS:=[.a 4<|.h "bidi_embedding" [.v 2],
 .a 5 (.c<|.b false),
 .f false [6] .v [.s (.v 0) (.b .a (.d (.v 1)<|.c<|.i 0)<|.c<|.i 1)<|.d (.v 1)<|.c<|.i 1]
  [.a 7<|.h "bidi_strong" [.v 6],
  .i (.m .e (.v 7)<|.v 4)
   [.r<|.v 4]
   [],
  .a 5 (.a false [.v 5,.m .t (.v 7)<|.c .n])],
 .i (.o<|.v 5)
  [.r<|.c .n]
  [],
 .f false [6] .v [.r<|.s (.v 0) (.c .n)<|.d (.v 1)<|.c<|.i 0]
  [.a 7<|.h "bidi_strong" [.v 6],
  .i (.m .t (.v 7)<|.c .n)
   [.r<|.v 7]
   []],
 .r (.v 3)]
def Wl:bl:=⟨"bidi_bracket_direction",.f,true,["classes","pair","level","sos","own","has_other","kind","strong"],4,[],Wk⟩
noncomputable def Bg:List CS:=[.a 5<|.k .s [.v 0],
 .f false [6] .v [.v 1]
  [.a 7<|.h "bidi_bracket_direction" [.v 5,.v 6,.v 2,.v 3],
  .i (.m .t (.v 7)<|.c .n)
   [.f false [8] .v [.v 6]
    [.t (.v 5) (.v 8)<|.v 7,
    .a 9 (.b .a (.v 8)<|.c<|.i 1),
    .w (.a true [.m .l (.v 9)<|.k .l [.v 5],.m .e (.d (.v 4)<|.v 9)<|.c<|.s "NSM"])
     [.t (.v 5) (.v 9)<|.v 7,
     .a 9 (.b .a (.v 9)<|.c<|.i 1)]]]
   []],
 .r (.v 5)]
def Ic:bl:=⟨"bracket_classes",.f,true,["classes","pairs","level","sos","begun","found","pair","direction","at","behind"],5,[],Bg⟩
def Bh:List CS:=[.a 4<|.k .s [.v 0],
 .f true [5,6] .v [.h "bidi_runs" [.v 0,.g "NEUTRALS" Au]]
  [.s [7,8]<|.h "bidi_beside" [.v 0,.v 5,.v 6,.v 2,.v 3],
  .a 9 (.h "bidi_strong" [.v 7]),
  .i (.m .n (.v 9)<|.h "bidi_strong" [.v 8])
   [.a 9<|.h "bidi_embedding" [.v 1]]
   [],
  .f false [10] .r [.v 5,.v 6]
   [.t (.v 4) (.v 10)<|.v 9]],
 .r (.v 4)]
def Ie:bl:=⟨"neutral_classes",.f,true,["classes","level","sos","eos","found","first","end","one","other","direction","at"],4,[],Bh⟩
noncomputable def Bj:List CS:=[.a 3<|.f (.v 0) "classes",
 .a 4 (.i (.m .s (.v 2)<|.c .n) (.v 3)<|.v 2),
 .a 5 (.h "bracket_classes" [.v 3,.h "bracket_pairs" [.v 0,.v 1],.f (.v 0) "level",.f (.v 0) "sos",.v 4]),
 .r (.h "neutral_classes" [.v 5,.f (.v 0) "level",.f (.v 0) "sos",.f (.v 0) "eos"])]
def Ig:bl:=⟨"neutral",.f,true,["sequence","data","begun","classes","marks","found"],3,[.n],Bj⟩
def Bk:List CS:=[.i (.m .e (.b .o (.v 1)<|.c<|.i 2)<|.c<|.i 0)
  [.r<|.b .a (.v 1)<|.i (.m .i (.v 0)<|.g "NUMBERS" ur) (.c<|.i 2)<|.i (.m .e (.v 0)<|.c<|.s "R") (.c<|.i 1)<|.c<|.i 0]
  [],
 .r (.i (.m .e (.v 0)<|.c<|.s "R") (.v 1)<|.b .a (.v 1)<|.c<|.i 1)]
def Ih:bl:=⟨"implicit_level",.f,true,["kind","level"],2,[],Bk⟩
noncomputable def Bl:List CS:=[.r<|.D (.h "implicit_level" [.v 2,.v 1]) false ["kind"] .v [.v 0] []]
def Ii:bl:=⟨"implicit",.f,true,["classes","level"],2,[],Bl⟩
noncomputable def Bm:List CS:=[.a 2<|.h "weak" [.v 0],
 .a 3 (.h "BidiSequence" [.f (.v 0) "places",.v 2,.f (.v 0) "level",.f (.v 0) "sos",.f (.v 0) "eos",.f (.v 0) "codes"]),
 .r (.h "implicit" [.h "neutral" [.v 3,.v 1,.f (.v 0) "classes"],.f (.v 0) "level"])]
def Ij:bl:=⟨"sequence_levels",.f,true,["sequence","data","classes","weaker"],2,[],Bm⟩
noncomputable def Bo:List CS:=[.a 2<|.k .s [.f (.v 0) "levels"],
 .f false [3] .v [.j (.v 0) "sequences" []]
  [.f true [4,5] .z [.f (.v 3) "places",.h "sequence_levels" [.v 3,.v 1]]
   [.t (.v 2) (.v 4)<|.v 5]],
 .r (.v 2)]
def Ik:bl:=⟨"paragraph_levels",.f,true,["paragraph","data","found","sequence","place","level"],2,[],Bo⟩
noncomputable def Bp:List CS:=[.a 4<|.e [],
 .f false [5] .v [.h "bidi_paragraphs" [.v 0,.v 1,.v 2,.v 3]]
  [.x<|.x (.v 4)<|.h "paragraph_levels" [.v 5,.v 1]],
 .r (.v 4)]
def Il:bl:=⟨"bidi_levels",.f,true,["text","data","word","depth","found","paragraph"],4,[.s "auto",.i 125],Bp⟩
def Bq:List CS:=[.a 4<|.k .s [.s (.v 0) (.d (.v 2)<|.c<|.i 0)<|.d (.v 2)<|.c<|.i 1],
 .a 5 (.c<|.b true),
 .f false [6] .r [.b .s (.d (.v 2)<|.c<|.i 1)<|.c<|.i 1,.b .s (.d (.v 2)<|.c<|.i 0)<|.c<|.i 1,.n<|.c<|.i 1]
  [.a 7<|.d (.v 1)<|.v 6,
  .i (.m .i (.v 7)<|.g "LINE_SEPARATORS" uu)
   [.a 5<|.c<|.b true]
   [.i (.a true [.m .o (.v 7)<|.g "LINE_BLANKS" uv,.m .o (.v 7)<|.g "REMOVED" oK])
    [.a 5<|.c<|.b false]
    []],
  .i (.a true [.v 5,.m .t (.d (.v 4)<|.b .s (.v 6)<|.d (.v 2)<|.c<|.i 0)<|.c .n])
   [.t (.v 4) (.b .s (.v 6)<|.d (.v 2)<|.c<|.i 0)<|.v 3]
   []],
 .r (.v 4)]
def Im:bl:=⟨"line_levels",.f,true,["levels","classes","line","base","found","is_end","at","kind"],4,[],Bq⟩
noncomputable def Br:List CS:=[.a 3<|.e [],
 .a 4 (.e []),
 .f false [5] .v [.v 0]
  [.i (.m .b (.d (.v 1)<|.v 5)<|.v 2)
   [.x<|.q (.v 4)<|.v 5]
   [.x<|.x (.v 3)<|.r<|.v 4,
   .x (.q (.v 3)<|.v 5),
   .a 4 (.e [])]],
 .x (.x (.v 3)<|.r<|.v 4),
 .r (.v 3)]
def Io:bl:=⟨"line_turned",.f,true,["order","levels","level","found","run","place"],3,[],Br⟩
noncomputable def Bs:List CS:=[.a 1<|.D (.v 5) false ["place"] .r [.k .l [.v 0]] [.m .t (.d (.v 0)<|.v 5)<|.c .n],
 .a 2 (.k .o [.D (.d (.v 0)<|.v 5) false ["place"] .v [.v 1] []]),
 .a 3 (.D (.v 5) false ["level"] .v [.v 2] [.m .e (.b .o (.v 5)<|.c<|.i 2)<|.c<|.i 1]),
 .i (.m .n (.v 3)<|.l [])
  [.f false [4] .r [.d (.v 2)<|.n<|.c<|.i 1,.b .s (.d (.v 3)<|.c<|.i 0)<|.c<|.i 1,.n<|.c<|.i 1]
   [.a 1<|.h "line_turned" [.v 1,.v 0,.v 4]]]
  [],
 .r (.v 1)]
def Ip:bl:=⟨"reordered",.f,true,["levels","order","there","odd","level"],1,[],Bs⟩
noncomputable def Bt:List CS:=[.i (.m .n (.k .o [.v 0])<|.D (.v 6) false ["place"] .r [.k .l [.v 1]] [.m .t (.d (.v 1)<|.v 6)<|.c .n])
  [.r<|.c<|.b false]
  [],
 .a 2 (.h "visual_places" [.v 0,.k .l [.v 1]]),
 .f false [3] .r [.k .l [.v 1]]
  [.a 4<|.d (.v 1)<|.v 3,
  .f false [5] .r [.b .a (.v 3)<|.c<|.i 1,.i (.m .t (.v 4)<|.c .n) (.k .l [.v 1])<|.v 3]
   [.i (.m .t (.d (.v 1)<|.v 5)<|.c .n)
    [.a 4<|.k .n [.v 4,.d (.v 1)<|.v 5],
    .i (.m .n (.m .l (.d (.v 2)<|.v 3)<|.d (.v 2)<|.v 5)<|.m .e (.b .o (.v 4)<|.c<|.i 2)<|.c<|.i 0)
     [.r<|.c<|.b false]
     []]
    []]],
 .r (.c<|.b true)]
def Iq:bl:=⟨"is_order_of",.f,true,["order","levels","spots","one","least","other"],2,[],Bt⟩
noncomputable def Bu:List CS:=[.a 2<|.z<|.v 1,
 .f true [3,4] .e [.v 0]
  [.t (.v 2) (.v 4)<|.v 3],
 .r (.v 2)]
def Ir:bl:=⟨"visual_places",.f,true,["order","many","found","spot","place"],2,[],Bu⟩
noncomputable def Bv:List CS:=[.f true [2,3] .e [.v 0]
  [.i (.m .e (.v 3)<|.v 1)
   [.r<|.v 2]
   []],
 .r (.c .n)]
def Iu:bl:=⟨"visual_of",.f,true,["order","place","spot","other"],2,[],Bv⟩
noncomputable def Bw:List CS:=[.r<|.i (.p .a .l (.c<|.i 0) (.v 1)<|.k .l [.v 0]) (.d (.v 0)<|.v 1)<|.c .n]
def Iv:bl:=⟨"logical_of",.f,true,["order","spot"],2,[],Bw⟩
noncomputable def Bx:List CS:=[.a 1<|.e [],
 .f true [2,3] .e [.v 0]
  [.i (.m .t (.v 3)<|.c .n)
   [.i (.a true [.m .n (.v 1)<|.l [],.m .e (.d (.d (.v 1)<|.n<|.c<|.i 1)<|.c<|.i 2)<|.v 3])
    [.t (.v 1) (.n<|.c<|.i 1)<|.t [.d (.d (.v 1)<|.n<|.c<|.i 1)<|.c<|.i 0,.b .a (.v 2)<|.c<|.i 1,.v 3]]
    [.x<|.q (.v 1)<|.t [.v 2,.b .a (.v 2)<|.c<|.i 1,.v 3]]]
   []],
 .r (.v 1)]
def Iw:bl:=⟨"line_runs",.f,true,["levels","found","place","level"],1,[],Bx⟩
noncomputable def By:List CS:=[.a 1<|.h "line_runs" [.v 0],
 .r (.D (.d (.v 1)<|.v 2) false ["number"] .v [.h "reordered" [.D (.d (.v 2)<|.c<|.i 2) false ["run"] .v [.v 1] []]] [])]
def Iz:bl:=⟨"visual_runs",.f,true,["levels","runs"],1,[],By⟩
def BA:List CS:=[.r<|.a true [.m .e (.b .o (.v 1)<|.c<|.i 2)<|.c<|.i 1,.m .i (.j (.v 2) "get" [.c<|.s "gc",.v 0])<|.g "LINE_MARKS" Aw]]
def IA:bl:=⟨"is_line_mark",.f,true,["code","level","data"],3,[],BA⟩
noncomputable def BB:List CS:=[.a 4<|.e [],
 .a 5 (.e []),
 .f false [6] .v [.v 0]
  [.i (.a true [.m .n (.v 5)<|.l [],.a false [.m .n (.d (.v 1)<|.v 6)<|.d (.v 1)<|.d (.v 5)<|.n<|.c<|.i 1,.m .g (.v 6)<|.d (.v 5)<|.n<|.c<|.i 1]])
   [.x<|.x (.v 4)<|.v 5,
   .a 5 (.e [])]
   [],
  .i (.h "is_line_mark" [.d (.v 2)<|.v 6,.d (.v 1)<|.v 6,.v 3])
   [.x<|.q (.v 5)<|.v 6]
   [.x<|.q (.v 4)<|.v 6,
   .x (.x (.v 4)<|.r<|.v 5),
   .a 5 (.e [])]],
 .x (.x (.v 4)<|.v 5),
 .r (.v 4)]
def IB:bl:=⟨"marks_behind",.f,true,["order","levels","text","data","found","group","place"],4,[],BB⟩
noncomputable def BC:List CS:=[.a 3<|.e [],
 .f true [4,5] .e [.v 0]
  [.a 6<|.d (.v 1)<|.v 4,
  .a 7 (.i (.a true [.m .t (.v 6)<|.c .n,.m .e (.b .o (.v 6)<|.c<|.i 2)<|.c<|.i 1]) (.j (.v 2) "get" [.c<|.s "bm",.v 5])<|.c .n),
  .x (.q (.v 3)<|.i (.m .s (.v 7)<|.c .n) (.v 5)<|.v 7)],
 .r (.v 3)]
def IC:bl:=⟨"mirrored",.f,true,["text","levels","data","found","place","code","level","image"],3,[],BC⟩
noncomputable def BD:List CS:=[.a 3<|.h "visual_places" [.h "reordered" [.v 0],.k .l [.v 0]],
 .a 4 (.e []),
 .f false [5] .v [.k .o [.D (.d (.v 3)<|.v 6) false ["place"] .r [.v 1,.v 2] [.m .t (.d (.v 3)<|.v 6)<|.c .n]]]
  [.i (.a true [.m .n (.v 4)<|.l [],.m .e (.d (.d (.v 4)<|.n<|.c<|.i 1)<|.c<|.i 1)<|.v 5])
   [.t (.v 4) (.n<|.c<|.i 1)<|.t [.d (.d (.v 4)<|.n<|.c<|.i 1)<|.c<|.i 0,.b .a (.v 5)<|.c<|.i 1]]
   [.x<|.q (.v 4)<|.t [.v 5,.b .a (.v 5)<|.c<|.i 1]]],
 .r (.v 4)]
def ID:bl:=⟨"selected",.f,true,["levels","first","last","spots","found","spot"],3,[],BD⟩
noncomputable def BE:List CS:=[.s [4,5]<|.t [.h "bidi_levels" [.v 0,.v 1,.v 2],.h "bidi_kinds" [.v 0,.v 1]],
 .a 6 (.h "base_level" [.v 0,.v 1,.v 2]),
 .a 7 (.e []),
 .f false [8] .v [.v 3]
  [.a 9<|.h "line_levels" [.v 4,.v 5,.v 8,.v 6],
  .a 10 (.s (.v 0) (.d (.v 8)<|.c<|.i 0)<|.d (.v 8)<|.c<|.i 1),
  .a 11 (.h "marks_behind" [.h "reordered" [.v 9],.v 9,.v 10,.v 1]),
  .a 12 (.h "mirrored" [.v 10,.v 9,.v 1]),
  .x (.q (.v 7)<|.D (.d (.v 12)<|.v 13) false ["place"] .v [.v 11] [])],
 .r (.v 7)]
def IE:bl:=⟨"shown_lines",.f,true,["text","data","word","lines","levels","classes","base","found","line","there","codes","order","images"],4,[],BE⟩
noncomputable def BF:List CS:=[.r<|.d (.h "shown_lines" [.v 0,.v 1,.v 2,.l [.i (.m .s (.v 3)<|.c .n) (.t [.c<|.i 0,.k .l [.v 0]])<|.v 3]])<|.c<|.i 0]
def IF:bl:=⟨"shown",.f,true,["text","data","word","line"],4,[.s "auto",.n],BF⟩
noncomputable def Wm:List CS:=[.a 2<|.c<|.i 0,
 .a 3 (.k .l [.v 0]),
 .w (.m .l (.v 2)<|.v 3)
  [.a 4<|.b .f (.b .a (.v 2)<|.v 3)<|.c<|.i 2,
  .i (.m .a (.d (.v 0)<|.v 4)<|.v 1)
   [.a 2<|.b .a (.v 4)<|.c<|.i 1]
   [.a 3<|.v 4]],
 .r (.b .s (.v 2)<|.c<|.i 1)]
def Wn:bl:=⟨"place_by_half",.f,true,["firsts","number","low","high","middle"],2,[],Wm⟩
noncomputable def Wo:List CS:=[.r<|.a true [.m .e (.v 0)<|.v 1,.m .e (.k .B [.v 0])<|.k .B [.v 1]]]
def Wq:bl:=⟨"range_are_like",.f,true,["one","other"],2,[],Wo⟩
noncomputable def Wr:List CS:=[.e (.v 0) "default"<|.v 1,
 .e (.v 0) "starts" (.l [.c<|.i 0]),
 .e (.v 0) "values" (.l [.v 1])]
def Ws:bl:=⟨"RangeMap",.c,false,["self","default"],1,[],Wr⟩
noncomputable def Wt:List CS:=[.r<|.d (.f (.v 0) "values")<|.h "place_by_half" [.f (.v 0) "starts",.v 1]]
def Wu:bl:=⟨"get",.f,true,["self","code"],2,[],Wt⟩
def Wv:List CS:=[.i (.m .g (.v 1)<|.v 2)
  [.r<|.c .n]
  [],
 .a 4 (.b .a (.h "place_by_half" [.f (.v 0) "starts",.b .s (.v 1)<|.c<|.i 1])<|.c<|.i 1),
 .a 5 (.b .a (.h "place_by_half" [.f (.v 0) "starts",.b .a (.v 2)<|.c<|.i 1])<|.c<|.i 1),
 .a 6 (.d (.f (.v 0) "values")<|.b .s (.v 5)<|.c<|.i 1),
 .s [7,8] (.t [.e [.v 1],.e [.v 3]]),
 .i (.a true [.m .l (.v 2)<|.g "MAX_CODE" Hp,.o<|.h "range_are_like" [.v 6,.v 3]])
  [.x<|.q (.v 7)<|.b .a (.v 2)<|.c<|.i 1,
  .x (.q (.v 8)<|.v 6)]
  [],
 .i (.a true [.m .g (.v 4)<|.c<|.i 0,.h "range_are_like" [.d (.f (.v 0) "values")<|.b .s (.v 4)<|.c<|.i 1,.v 3]])
  [.s [7,8]<|.t [.s (.v 7) (.c<|.i 1)<|.c .n,.s (.v 8) (.c<|.i 1)<|.c .n]]
  [],
 .e (.v 0) "starts" (.b .a (.b .a (.s (.f (.v 0) "starts") (.c .n)<|.v 4)<|.v 7)<|.s (.f (.v 0) "starts") (.v 5)<|.c .n),
 .e (.v 0) "values" (.b .a (.b .a (.s (.f (.v 0) "values") (.c .n)<|.v 4)<|.v 8)<|.s (.f (.v 0) "values") (.v 5)<|.c .n)]
def Ww:bl:=⟨"put",.f,false,["self","first","last","value","low","high","behind","starts","values"],4,[],Wv⟩
noncomputable def Wx:List CS:=[.a 0<|.C ["gc","ccc","bc","lb","ea","sc","jt","incb"] [.s "Cn",.i 0,.s "L",.s "XX",.s "N",.s "Zzzz",.s "U",.s "None"],
 .f false [1] .v [.t [.c<|.s "gcb",.c<|.s "wb",.c<|.s "sb"]]
  [.t (.v 0) (.v 1)<|.c<|.s "Other"],
 .f false [1] .v [.t [.c<|.s "ex",.c<|.s "sd",.c<|.s "cased",.c<|.s "ci",.c<|.s "ep",.c<|.s "di",.c<|.s "ids",.c<|.s "idc",.c<|.s "xids",.c<|.s "xidc",.c<|.s "pat_syn",.c<|.s "pat_ws",.c<|.s "idst"]]
  [.t (.v 0) (.v 1)<|.c<|.b false],
 .f false [1] .v [.t [.c<|.s "dm",.c<|.s "uc",.c<|.s "lc",.c<|.s "tc",.c<|.s "cf",.c<|.s "bm",.c<|.s "bpb",.c<|.s "scx",.c<|.s "nt",.c<|.s "nv",.c<|.s "name",.c<|.s "conf",.c<|.s "nfkc_cf"]]
  [.t (.v 0) (.v 1)<|.c .n],
 .f false [1] .v [.t [.c<|.s "suc",.c<|.s "slc",.c<|.s "stc",.c<|.s "alias"]]
  [.t (.v 0) (.v 1)<|.t []],
 .t (.v 0) (.c<|.s "idna") (.t [.c<|.s "disallowed",.t []]),
 .r (.v 0)]
def Wy:bl:=⟨"data_defaults",.f,true,["found","name"],0,[],Wx⟩
noncomputable def Wz:List CS:=[.e (.v 0) "defaults"<|.h "data_defaults" [],
 .e (.v 0) "maps" .B,
 .e (.v 0) "properties" .B,
 .e (.v 0) "words" .B]
def WA:bl:=⟨"Data",.c,false,["self"],0,[],Wz⟩
noncomputable def WB:List CS:=[.x<|.j (.j (.v 0) "map_of" [.v 1]) "put" [.v 2,.v 3,.v 4]]
def WC:bl:=⟨"put",.f,false,["self","name","first","last","value"],5,[],WB⟩
noncomputable def WD:List CS:=[.i (.m .i (.v 1)<|.f (.v 0) "maps")
  [.r<|.j (.d (.f (.v 0) "maps")<|.v 1) "get" [.v 2]]
  [],
 .r (.w (.f (.v 0) "defaults")<|.v 1)]
def WE:bl:=⟨"get",.f,true,["self","name","code"],3,[],WD⟩
noncomputable def WG:List CS:=[.i (.m .o (.v 1)<|.f (.v 0) "maps")
  [.t (.f (.v 0) "maps") (.v 1)<|.h "RangeMap" [.w (.f (.v 0) "defaults")<|.v 1]]
  [],
 .r (.d (.f (.v 0) "maps")<|.v 1)]
def WH:bl:=⟨"map_of",.f,false,["self","name"],2,[],WG⟩
noncomputable def BG:List CS:=[.t (.v 0) (.c<|.i 1)<|.b .a (.d (.v 0)<|.c<|.i 1)<|.c<|.i 1,
 .s [2,3] (.t [.d (.v 0)<|.c<|.i 1,.d (.v 0)<|.c<|.i 0]),
 .i (.m .a (.v 2)<|.k .l [.v 3])
  [.r<|.b .o (.d (.v 3)<|.b .s (.v 2)<|.c<|.i 1)<|.v 1]
  [],
 .a 4 (.i (.m .n (.v 3)<|.l []) (.d (.v 3)<|.b .o (.v 2)<|.k .l [.v 3])<|.c<|.i 7),
 .a 5 (.b .o (.b .m (.b .a (.b .a (.b .o (.v 4)<|.c<|.i 2147483629)<|.b .m (.b .m (.c<|.i 60013)<|.v 2)<|.v 2)<|.c<|.i 17)<|.c<|.i 48271)<|.c<|.i 2147483647),
 .a 5 (.b .o (.b .a (.b .m (.v 5)<|.v 5)<|.v 2)<|.c<|.i 2147483579),
 .r (.b .o (.b .f (.v 5)<|.c<|.i 64)<|.v 1)]
def IG:bl:=⟨"_law_draw",.f,false,["deck","below","turn","cells","cell","mixed"],2,[],BG⟩
noncomputable def WI:List CS:=[.a 1<|.h "Data" [],
 .f true [2,3] .e [.v 0]
  [.x<|.j (.v 1) "put" [.c<|.s "bc",.b .a (.c<|.i 65)<|.v 2,.b .a (.c<|.i 65)<|.v 2,.v 3]],
 .f false [4] .v [.t [.c<|.i 40,.c<|.i 41]]
  [.x<|.j (.v 1) "put" [.c<|.s "bc",.v 4,.v 4,.c<|.s "ON"],
  .x (.j (.v 1) "put" [.c<|.s "bm",.v 4,.v 4,.b .s (.c<|.i 81)<|.v 4])],
 .r (.v 1)]
def WJ:bl:=⟨"_law_data",.f,true,["kinds","data","k","kind","code"],1,[],WI⟩
noncomputable def BH:List CS:=[.s [4,5]<|.t [.e [],.t [.c<|.s "WS",.c<|.s "FSI",.c<|.s "LRI",.c<|.s "RLI",.c<|.s "PDI"]],
 .f false [6] .r [.d (.v 2)<|.c<|.i 0,.d (.v 2)<|.c<|.i 1]
  [.a 7<|.v 6,
  .w (.a true [.m .l (.v 7)<|.d (.v 2)<|.c<|.i 1,.a false [.m .s (.d (.v 0)<|.v 7)<|.c .n,.m .i (.d (.v 1)<|.v 7)<|.v 5]])
   [.a 7<|.b .a (.v 7)<|.c<|.i 1],
  .a 8 (.a false [.m .e (.v 7)<|.d (.v 2)<|.c<|.i 1,.m .i (.d (.v 1)<|.v 7)<|.t [.c<|.s "S",.c<|.s "B"]]),
  .i (.m .s (.d (.v 0)<|.v 6)<|.c .n)
   [.x<|.q (.v 4)<|.c .n]
   [.x<|.q (.v 4)<|.i (.a false [.m .i (.d (.v 1)<|.v 6)<|.t [.c<|.s "S",.c<|.s "B"],.a true [.m .i (.d (.v 1)<|.v 6)<|.v 5,.v 8]]) (.v 3)<|.d (.v 0)<|.v 6]],
 .r (.v 4)]
def II:bl:=⟨"_law_reset",.f,true,["levels","classes","line","base","found","blanks","at","ahead","is_end"],4,[],BH⟩
noncomputable def BI:List CS:=[.r<|.m .e (.b .o (.k .m [.D (.v 3) false ["level"] .v [.s (.v 0) (.v 1)<|.b .a (.v 2)<|.c<|.i 1] [.m .t (.v 3)<|.c .n]])<|.c<|.i 2)<|.c<|.i 0]
def IJ:bl:=⟨"_law_is_kept",.f,true,["levels","near","far"],3,[],BI⟩
noncomputable def BJ:List CS:=[.a 1<|.D (.v 5) true ["at","level"] .e [.v 0] [.m .t (.v 6)<|.c .n],
 .a 2 (.z<|.k .l [.v 1]),
 .f false [3] .v [.v 1]
  [.a 4<|.D (.v 5) false ["mate"] .v [.v 1] [.a true [.m .l (.v 5)<|.v 3,.h "_law_is_kept" [.v 0,.v 5,.v 3]]],
  .t (.v 2) (.b .a (.k .l [.v 4])<|.k .l [.D (.v 5) false ["mate"] .v [.v 1] [.a true [.m .g (.v 5)<|.v 3,.o<|.h "_law_is_kept" [.v 0,.v 3,.v 5]]]]) (.v 3)],
 .r (.v 2)]
def IL:bl:=⟨"_law_order",.f,true,["levels","places","found","at","left"],1,[],BJ⟩
noncomputable def BK:List CS:=[.a 1<|.e [],
 .f false [2] .v [.k .o [.v 0]]
  [.i (.a true [.m .n (.v 1)<|.l [],.m .e (.d (.d (.v 1)<|.n<|.c<|.i 1)<|.c<|.i 1)<|.v 2])
   [.t (.v 1) (.n<|.c<|.i 1)<|.t [.d (.d (.v 1)<|.n<|.c<|.i 1)<|.c<|.i 0,.b .a (.v 2)<|.c<|.i 1]]
   [.x<|.q (.v 1)<|.t [.v 2,.b .a (.v 2)<|.c<|.i 1]]],
 .r (.v 1)]
def IM:bl:=⟨"_law_spans",.f,true,["spots","found","spot"],1,[],BK⟩
noncomputable def BL:List CS:=[.a 2<|.l [],
 .f true [3,4,5] .v [.v 1]
  [.a 6<|.D (.v 7) false ["at"] .r [.v 3,.v 4] [.m .t (.d (.v 0)<|.v 7)<|.c .n],
  .i (.a false [.m .n (.D (.v 7) false ["at"] .v [.v 6] [.m .n (.d (.v 0)<|.v 7)<|.v 5])<|.l [],.m .e (.v 6)<|.l []])
   [.r<|.c .n]
   [],
  .a 2 (.b .a (.v 2)<|.i (.m .e (.b .o (.v 5)<|.c<|.i 2)<|.c<|.i 0) (.v 6)<|.r<|.v 6)],
 .r (.v 2)]
def IP:bl:=⟨"_law_tiled",.f,true,["levels","stretches","found","first","last","level","some"],2,[],BL⟩
noncomputable def BN:List CS:=[.s [9,10]<|.t [.k .i [.v 4],.k .i [.v 5]],
 .s [11,12] (.t [.h "line_levels" [.v 4,.v 5,.v 6,.v 7],.h "_law_reset" [.v 9,.v 10,.v 6,.v 7]]),
 .i (.m .n (.v 11)<|.v 12)
  [.r<|.c<|.b false]
  [],
 .s [13,14] (.t [.h "reordered" [.v 11],.h "_law_order" [.v 11]]),
 .i (.a false [.m .n (.v 13)<|.v 14,.m .t (.h "is_order_of" [.v 13,.v 11])<|.c<|.b true,.m .n (.h "_law_tiled" [.v 11,.h "visual_runs" [.v 11]])<|.v 14])
  [.r<|.c<|.b false]
  [],
 .i (.a true [.m .g (.k .l [.v 14])<|.c<|.i 1,.m .t (.h "is_order_of" [.b .a (.s (.v 14) (.c<|.i 1)<|.c .n)<|.s (.v 14) (.c .n)<|.c<|.i 1,.v 11])<|.c<|.b false])
  [.r<|.c<|.b false]
  [],
 .f true [15,16] .e [.v 14]
  [.i (.a false [.m .n (.h "visual_of" [.v 13,.v 16])<|.v 15,.m .n (.h "logical_of" [.v 13,.v 15])<|.v 16])
   [.r<|.c<|.b false]
   []],
 .a 17 (.s (.v 1) (.d (.v 6)<|.c<|.i 0)<|.d (.v 6)<|.c<|.i 1),
 .a 18 (.D (.i (.a true [.m .i (.v 23)<|.t [.c<|.i 40,.c<|.i 41],.h "_law_is_odd" [.d (.v 11)<|.v 22]]) (.b .s (.c<|.i 81)<|.v 23)<|.v 23) true ["at","code"] .e [.v 17] []),
 .i (.m .n (.h "mirrored" [.v 17,.v 11,.v 2])<|.v 18)
  [.r<|.c<|.b false]
  [],
 .i (.a true [.v 8,.m .n (.h "shown" [.v 1,.v 2,.v 3,.v 6])<|.D (.d (.v 18)<|.v 22) false ["at"] .v [.v 14] []])
  [.r<|.c<|.b false]
  [],
 .a 19 (.h "_law_draw" [.v 0,.b .a (.k .l [.v 11])<|.c<|.i 1]),
 .a 20 (.b .a (.v 19)<|.h "_law_draw" [.v 0,.b .s (.b .a (.k .l [.v 11])<|.c<|.i 1)<|.v 19]),
 .a 21 (.D (.t [.d (.v 22)<|.c<|.i 0,.d (.v 22)<|.c<|.i 1]) false ["one"] .v [.h "selected" [.v 11,.v 19,.v 20]] []),
 .i (.m .n (.v 21)<|.h "_law_spans" [.D (.v 22) true ["spot","at"] .e [.v 14] [.p .a .l (.v 19) (.v 23)<|.v 20]])
  [.r<|.c<|.b false]
  [],
 .r (.m .e (.l [.v 4,.v 5,.v 11,.v 13])<|.l [.v 9,.v 10,.v 12,.v 14])]
def IQ:bl:=⟨"_law_line_right",.f,false,["deck","text","data","word","levels","classes","line","base","is_shown","stood","named","now","fresh","order","due","spot","at","piece","turned","first","last","told"],9,[],BN⟩
noncomputable def BO:List CS:=[.r<|.a true [.m .t (.v 0)<|.c .n,.m .e (.b .o (.v 0)<|.c<|.i 2)<|.c<|.i 1]]
def IS:bl:=⟨"_law_is_odd",.f,true,["level"],1,[],BO⟩
noncomputable def BP:List CS:=[.a 1<|.l [.c<|.s "L",.c<|.s "R",.c<|.s "AL",.c<|.s "EN",.c<|.s "AN",.c<|.s "ON",.c<|.s "WS",.c<|.s "S",.c<|.s "NSM",.c<|.s "LRI",.c<|.s "RLI",.c<|.s "PDI",.c<|.s "RLE",.c<|.s "LRE",.c<|.s "PDF",.c<|.s "BN"],
 .s [2,3] (.t [.e [.k .i [.s (.v 0) (.c .n)<|.c<|.i 24],.c<|.i 0],.h "_law_data" [.v 1]]),
 .s [4,5] (.t [.d (.l [.c<|.s "rtl",.c<|.s "ltr",.c<|.s "auto"])<|.h "_law_draw" [.v 2,.c<|.i 3],.e []]),
 .f false [6] .r [.b .a (.c<|.i 1)<|.h "_law_draw" [.v 2,.c<|.i 9]]
  [.a 7<|.h "_law_draw" [.v 2,.c<|.i 18],
  .x (.q (.v 5)<|.i (.m .l (.v 7)<|.c<|.i 16) (.b .a (.c<|.i 65)<|.v 7)<|.b .a (.c<|.i 24)<|.v 7)],
 .z 5,
 .a 8 (.D (.i (.m .g (.v 15)<|.c<|.i 64) (.d (.v 1)<|.b .s (.v 15)<|.c<|.i 65)<|.c<|.s "ON") false ["code"] .v [.v 5] []),
 .s [9,10,11] (.t [.h "bidi_levels" [.v 5,.v 3,.v 4],.h "base_level" [.v 5,.v 3,.v 4],.k .i [.v 5]]),
 .a 12 (.k .o [.D (.h "_law_draw" [.v 2,.b .a (.k .l [.v 5])<|.c<|.i 1]) false ["k"] .r [.h "_law_draw" [.v 2,.c<|.i 3]] []]),
 .a 13 (.h "_law_draw" [.v 2,.b .a (.k .l [.v 12])<|.c<|.i 1]),
 .f true [6,14] .n [.b .a (.l [.c<|.i 0])<|.v 12,.b .a (.v 12)<|.l [.k .l [.v 5]]]
  [.i (.a true [.m .l (.d (.v 14)<|.c<|.i 0)<|.d (.v 14)<|.c<|.i 1,.o<|.h "_law_line_right" [.v 2,.v 5,.v 3,.v 4,.v 9,.v 8,.v 14,.v 10,.m .e (.v 6)<|.v 13]])
   [.r<|.c<|.b false]
   []],
 .r (.m .e (.v 5)<|.v 11)]
def IT:bl:=⟨"law",.f,true,["script","kinds","deck","data","word","text","k","number","classes","levels","base","was","cuts","shown_at","line"],1,[],BP⟩
def iN:List ((String×String)×bl):=[
 (("","bidi_kinds"),Hq),
 (("","paragraphs"),Hr),
 (("","isolate_pairs"),Hs),
 (("","bidi_first_strong"),Ht),
 (("","base_level"),Hu),
 (("","bidi_base"),Hv),
 (("","BidiEntry"),Wd),
 (("","BidiStack"),Wf),
 (("BidiStack","last"),Hw),
 (("BidiStack","further"),Hx),
 (("BidiStack","is_free"),Hy),
 (("BidiStack","embed"),Hz),
 (("BidiStack","isolate"),HA),
 (("BidiStack","end_isolate"),HB),
 (("BidiStack","end_embedding"),HC),
 (("","explicit"),HD),
 (("","bidi_is_right_isolate"),HE),
 (("","level_runs"),HF),
 (("","BidiSequence"),HG),
 (("","bidi_direction"),HH),
 (("","bidi_level_beside"),HJ),
 (("","bidi_joined_runs"),HL),
 (("","isolating_sequences"),HM),
 (("","BidiParagraph"),HN),
 (("BidiParagraph","sequences"),HO),
 (("","bidi_paragraphs"),HP),
 (("","bidi_marks"),HQ),
 (("","bidi_arabic_numbers"),HS),
 (("","bidi_arabic_letters"),HT),
 (("","bidi_separators"),HU),
 (("","bidi_runs"),HV),
 (("","bidi_beside"),HW),
 (("","bidi_terminators"),HX),
 (("","bidi_left_overs"),HY),
 (("","bidi_left_numbers"),H6),
 (("","weak_classes"),H7),
 (("","weak"),H8),
 (("","bidi_bracket_key"),Wj),
 (("","bracket_pairs_of"),H9),
 (("","bracket_pairs"),H_),
 (("","bidi_strong"),Ia),
 (("","bidi_embedding"),Ib),
 (("","bidi_bracket_direction"),Wl),
 (("","bracket_classes"),Ic),
 (("","neutral_classes"),Ie),
 (("","neutral"),Ig),
 (("","implicit_level"),Ih),
 (("","implicit"),Ii),
 (("","sequence_levels"),Ij),
 (("","paragraph_levels"),Ik),
 (("","bidi_levels"),Il),
 (("","line_levels"),Im),
 (("","line_turned"),Io),
 (("","reordered"),Ip),
 (("","is_order_of"),Iq),
 (("","visual_places"),Ir),
 (("","visual_of"),Iu),
 (("","logical_of"),Iv),
 (("","line_runs"),Iw),
 (("","visual_runs"),Iz),
 (("","is_line_mark"),IA),
 (("","marks_behind"),IB),
 (("","mirrored"),IC),
 (("","selected"),ID),
 (("","shown_lines"),IE),
 (("","shown"),IF),
 (("","place_by_half"),Wn),
 (("","range_are_like"),Wq),
 (("","RangeMap"),Ws),
 (("RangeMap","get"),Wu),
 (("RangeMap","put"),Ww),
 (("","data_defaults"),Wy),
 (("","Data"),WA),
 (("Data","put"),WC),
 (("Data","get"),WE),
 (("Data","map_of"),WH),
 (("","_law_draw"),IG),
 (("","_law_data"),WJ),
 (("","_law_reset"),II),
 (("","_law_is_kept"),IJ),
 (("","_law_order"),IL),
 (("","_law_spans"),IM),
 (("","_law_tiled"),IP),
 (("","_law_line_right"),IQ),
 (("","_law_is_odd"),IS),
 (("","law"),IT)]
def gam:Nat->b7
 |0=>λU U U U=>none
 |n+1=>λc f args H=>(iN.lookup (c,f)).bind λir=>jA (gam n) ir args H
end
section
inductive bC {α:Type}(X:Cx)(cf:Cf)(s:Shared)(G:α->Cf->Shared->Prop)(x:α)(s':Shared):Prop
 |mk (aI:Cf) (st:Step cf s aI s') (sim:aU X aI s'.heap) (g:G x aI s'):bC X cf s G x s'
inductive IU (X:Cx)(cf:Cf)(h:Heap)(v:Value)(Q:PV->Prop):Prop
 |mk (pv:PV) (r:Rep X cf h pv v) (q:Q pv):IU X cf h v Q
inductive IV (X:Cx)(cf:Cf)(h:Heap)(vs:cz)(Q:au->Prop):Prop
 |mk (ps:au) (r:aO X cf h ps vs) (q:Q ps):IV X cf h vs Q
noncomputable def GV(X:Cx)(Q:eF)(v:Value)(cf:Cf)(s:Shared):Prop:=IU X cf s.heap v λpv=>Q pv cf.H
noncomputable def GB(Q:Bool->ak->Prop)(b:Bool)(cf:Cf)(_:Shared):Prop:=Q b cf.H
noncomputable def GL(X:Cx)(Q:au->ak->Prop)(vs:cz)(cf:Cf)(s:Shared):Prop:=IV X cf s.heap vs λps=>Q ps cf.H
theorem xw{X:Cx}{cf:Cf}{s:Shared}{Q:eF}{v:Value}{s':Shared}:Out X cf s Q v s'↔bC X cf s (GV X Q) v s':=
 ⟨λ⟨aI,pv,a,b,r,q⟩=>⟨aI,a,b,pv,r,q⟩,λ⟨aI,a,b,pv,r,q⟩=>⟨aI,pv,a,b,r,q⟩⟩
section
variable {X:Cx}{α:Type}{cf aI:Cf}{s s' s'':Shared}{G:α->Cf->Shared->Prop}{x:α}
theorem bC.now(S:aU X cf s.heap)(g:G x cf s):bC X cf s G x s:=⟨cf,Step.refl _ _,S,g⟩
theorem bC.tok{t:Nat}(S:aU X cf s.heap)(g:G x cf {s with toks:=t}):bC X cf s G x {s with toks:=t}:=⟨cf,(Step.refl _ _).toks t,S,g⟩
theorem bC.after(S:aU X cf s.heap)(st:Step cf s aI s')(y:bC X aI s' G x s''):bC X cf s G x s'':=
 let ⟨c,a,b,g⟩:=y;⟨c,st.trans S.own a,b,g⟩
theorem bC.mono{G':α->Cf->Shared->Prop}(h:∀c t,G x c t->G' x c t)(y:bC X cf s G x s'):bC X cf s G' x s':=let ⟨c,a,b,g⟩:=y;⟨c,a,b,h _ _ g⟩
end
noncomputable def c5(h h':Heap):Prop:=∀b o,h.get? b=some o->h'.get? b=some o
theorem Kept.grown{cf:Cf}{h h':Heap}(g:c5 h h'):Kept cf h cf h':=⟨λb o U e=>g b o e,λU U h U=>h,λU U h=>h⟩
theorem nu.mono{X:Cx}{cf aI:Cf}{h h':Heap}{p:Addr×Addr}(k:Kept cf h aI h')(h1:∀o,h.get? p.1=some o->h'.get? p.1=some o)(h2:∀o,h.get? p.2=some o->h'.get? p.2=some o):∀{ao:AO},nu X cf h p ao->nu X aI h' p ao
 |.l l,⟨e,vs,hl,hz,r⟩=>⟨e,vs,hl.at h1,hz,r.mono k l⟩
 |.i n f,⟨e,hs,g,hm,hz,hi⟩=>⟨e,hs,g,G5 hm h1,hz,hi⟩
 |.s ks l,⟨e,hs,vals,hm,hl,r⟩=>⟨e,hs,vals,G5 hm h1,hl,r.mono k l⟩
 |.n c ns l,⟨e,C,es,n,hc,e1,e2,hk,r⟩=>⟨e,C,es,n,hc,h1 _ e1,h2 _ e2,hk,r.mono k l⟩
theorem aU.grown{X:Cx}{cf:Cf}{h h':Heap}(S:aU X cf h)(g:c5 h h'):aU X cf h':=
 ⟨S.len,λn ao p e1 e2=>(S.rep n ao p e1 e2).mono (Kept.grown g) (g _)<|g _,S.own,S.inj,λb hb=>let ⟨o,e⟩:=S.here b hb;⟨o,g b o e⟩,λb o e=>⟨g b o (S.base b o e).1,(S.base b o e).2⟩⟩
theorem Step.grown{cf:Cf}{s:Shared}{h':Heap}{t:Nat}(g:c5 s.heap h'):Step cf s cf {s with heap:=h',toks:=t}:=
 ⟨I2 h' t rfl,λb o U e=>g b o e,λU U h U U=>h,λU h=>.inl h,λU h=>.inl h,λU U h=>h⟩
theorem bC.grown{X:Cx}{α:Type}{cf:Cf}{s:Shared}{G:α->Cf->Shared->Prop}{x:α}{h':Heap}{t:Nat}(S:aU X cf s.heap)(g:c5 s.heap h')(q:G x cf {s with heap:=h',toks:=t}):bC X cf s G x {s with heap:=h',toks:=t}:=
 ⟨cf,Step.grown g,S.grown g,q⟩
theorem c5.push(h:Heap)(o:Obj):c5 h (h.push o):=λU U e=>jq o e
theorem c5.trans{h h' h'':Heap}(x:c5 h h')(y:c5 h' h''):c5 h h'':=λb o e=>y b o<|x b o e
theorem aO.grown{X:Cx}{cf:Cf}{h h':Heap}{l:au}{vs:cz}(g:c5 h h')(r:aO X cf h l vs):aO X cf h' l vs:=r.mono (Kept.grown g) l
theorem rF{X:Cx}{cf:Cf}{h:Heap}(S:aU X cf h){a:Addr}(ha:h.objs.size<=a):¬cf.O a:=λhO=>by refine X1 (S.here a hO) λo e=>?_;exact absurd (fJ e)<|Nat.not_lt.mpr ha
theorem jB{h:Heap}{a:Addr}(ha:h.objs.size<=a):h.get? a=none:=by
 cases e:h.get? a with
 |none=>rfl
 |some o=>exact absurd (fJ e)<|Nat.not_lt.mpr ha
theorem aO.length{X:Cx}{cf:Cf}{h:Heap}:∀{l:au}{vs:cz},aO X cf h l vs->vs.length=l.length
 |[],vs,r=>by refine rR (show vs=[]from r) ?_;rfl
 |p::ps,vs,r=>by obtain⟨v,t,rfl,_,hs⟩:=r;exact rR i4<|rR i4<|rR hs.length rfl
theorem aO.gk{X:Cx}{cf:Cf}{h:Heap}:aO X cf h [] []:=rfl
theorem aO.fD{X:Cx}{cf:Cf}{h:Heap}{p:PV}{v:Value}{l:au}{vs:cz}(r:Rep X cf h p v)(t:aO X cf h l vs):aO X cf h (p::l) (v::vs):=⟨v,vs,rfl,r,t⟩
theorem aO.append{X:Cx}{cf:Cf}{h:Heap}:∀{l m:au}{vs ws:cz},aO X cf h l vs->aO X cf h m ws->aO X cf h (l++m) (vs++ws)
 |[],m,vs,ws,r,t=>by refine rR (show vs=[]from r) ?_;exact t
 |p::ps,m,vs,ws,r,t=>by obtain⟨v,u,rfl,hr,hs⟩:=r;exact aO.fD hr<|hs.append t
theorem aO.get{X:Cx}{cf:Cf}{h:Heap}:∀{l:au}{vs:cz}{k:Nat}{p:PV},aO X cf h l vs->l[k]?=some p->∃v,vs[k]?=some v/\Rep X cf h p v
 |[],vs,k,p,r,e=>by simp at e
 |q::ps,vs,k,p,r,e=>by
  obtain⟨v,u,rfl,hr,hs⟩:=r
  induction k using gD with
  |zero=>simp at e;subst e;exact aA v rfl hr
  |succ k=>exact hs.get<|by simpa using e
theorem aO.take{X:Cx}{cf:Cf}{h:Heap}:∀{l:au}{vs:cz}(k:Nat),aO X cf h l vs->aO X cf h (l.take k) (vs.take k)
 |[],vs,k,r=>by obtain rfl:vs=[]:=r;refine rR List.take_nil<|rR List.take_nil ?_;exact aO.gk
 |q::ps,vs,0,r=>aO.gk
 |q::ps,vs,k+1,r=>by obtain⟨v,u,rfl,hr,hs⟩:=r;exact aO.fD hr<|hs.take k
theorem aO.drop{X:Cx}{cf:Cf}{h:Heap}:∀{l:au}{vs:cz}(k:Nat),aO X cf h l vs->aO X cf h (l.drop k) (vs.drop k)
 |[],vs,k,r=>by obtain rfl:vs=[]:=r;refine rR List.drop_nil<|rR List.drop_nil ?_;exact aO.gk
 |q::ps,vs,0,r=>r
 |q::ps,vs,k+1,r=>by obtain⟨v,u,rfl,hr,hs⟩:=r;exact hs.drop k
theorem aO.set{X:Cx}{cf:Cf}{h:Heap}{p:PV}{v:Value}(r:Rep X cf h p v):∀{l:au}{vs:cz}(k:Nat),aO X cf h l vs->aO X cf h (l.set k p) (vs.set k v)
 |[],vs,k,t=>by obtain rfl:vs=[]:=t;exact aO.gk
 |q::ps,vs,0,t=>by obtain⟨w,u,rfl,hr,hs⟩:=t;exact aO.fD r hs
 |q::ps,vs,k+1,t=>by obtain⟨w,u,rfl,hr,hs⟩:=t;exact aO.fD hr<|hs.set r k
theorem aO.reverse{X:Cx}{cf:Cf}{h:Heap}:∀{l:au}{vs:cz},aO X cf h l vs->aO X cf h l.reverse vs.reverse
 |[],vs,t=>by obtain rfl:vs=[]:=t;exact aO.gk
 |q::ps,vs,t=>by
  obtain⟨w,u,rfl,hr,hs⟩:=t;refine rR pR<|rR pR ?_
  exact hs.reverse.append<|aO.fD hr aO.gk
theorem WK{X:Cx}{cf:Cf}{h:Heap}{l:au}{vs:dg}(S:aU X cf h)(r:aO X cf h l vs.toList)(hz:vs.size<=2^20){n:Nat}:Rep X cf (h.push {cls:=.type "list",data:=.seq vs n}) (.l l) (.ref h.objs.size):=by exact⟨_,vs,rfl,rF S<|bY _,⟨n,ik _ rfl⟩,hz,r.grown<|c5.push _ _⟩
theorem WL{X:Cx}{cf:Cf}{h:Heap}{l:au}{vs:dg}(S:aU X cf h)(r:aO X cf h l vs.toList)(hz:vs.size<=2^20){n:Nat}:Rep X cf (h.push {cls:=.type "tuple",data:=.seq vs n}) (.t l) (.ref h.objs.size):=by exact⟨_,vs,rfl,rF S<|bY _,t7 _ (ik _ rfl) rfl n rfl,hz,r.grown<|c5.push _ _⟩
noncomputable def eU(cf:Cf)(a b:Addr)(ao:AO):Cf:={ρ:=cf.ρ++[(a,b)],O:=λx=>cf.O x\/x=a\/x=b,H:=cf.H++[some ao]}
theorem IW{X:Cx}{cf:Cf}{h:Heap}(S:aU X cf h){a b:Addr}{ao:AO}{x:Addr}(o:Own (eU cf a b ao) x):Own cf x\/x=a\/x=b:=by
 obtain⟨n,bo,p,e1,e2,e3⟩:=o;have hl:=S.len;rcases q9 n cf.H.length with hn|hn|hn
 ·rw[show(eU cf a b ao).H=cf.H++[some ao]from rfl,iZ hn]at e1;rw[show(eU cf a b ao).ρ=cf.ρ++[(a,b)]from rfl,iZ<|hl▸hn]at e2;exact .inl ⟨n,bo,p,e1,e2,e3⟩
 ·rw[show(eU cf a b ao).ρ=cf.ρ++[(a,b)]from rfl,ku<|by refine rR hl ?_;exact A8 hn]at e2;have e:n-cf.ρ.length=0:=A9 hl hn;rw[e]at e2;simp at e2;subst e2;exact .inr e3
 ·rw[show(eU cf a b ao).H=cf.H++[some ao]from rfl,gO<|by simp;exact ua hn]at e1;exact nN e1
theorem xx{X:Cx}{cf:Cf}{s:Shared}{h':Heap}{t:Nat}{a b:Addr}{ao:AO}(S:aU X cf s.heap)(g:c5 s.heap h')(ha:s.heap.objs.size<=a)(hb:s.heap.objs.size<=b)
  (ea:∃o,h'.get? a=some o)(eb:∃o,h'.get? b=some o)(r:nu X (eU cf a b ao) h' (a,b) ao):
  Step cf s (eU cf a b ao) {s with heap:=h',toks:=t}/\aU X (eU cf a b ao) h'/\Rep X (eU cf a b ao) h' (.e cf.H.length) (.ref a)/\Kept cf s.heap (eU cf a b ao) h':=by
 have hl:=S.len;have na:=rF S ha;have nb:=rF S hb;have refs:∀(n:Nat)(p:Addr×Addr),cf.ρ[n]?=some p->(eU cf a b ao).ρ[n]?=some p:=λn p e=>by
  have hn:n<cf.ρ.length:=by
   rcases dm n cf.ρ.length with h|h
   ·exact h
   ·rw[gO h]at e;exact nN e
  show(cf.ρ++[(a,b)])[n]?=_;rw[iZ hn,e]
 have k:Kept cf s.heap (eU cf a b ao) h':=by
  refine⟨λx o U e=>g x o e,λx o hx e hO=>?_,refs⟩;clear ea eb r na nb refs;rcases hO with hO|rfl|rfl
  ·exact hx hO
  ·rw[jB ha]at e;exact nN e
  ·rw[jB hb]at e;exact nN e
 have split:∀(n:Nat)(bo:AO)(p:Addr×Addr),(eU cf a b ao).H[n]?=some (some bo)->(eU cf a b ao).ρ[n]?=some p->(cf.H[n]?=some (some bo)/\cf.ρ[n]?=some p/\n<cf.H.length)\/(n=cf.H.length/\bo=ao/\p=(a,b)):=λn bo p e1 e2=>by
  rcases q9 n cf.H.length with hn|hn|hn
  ·rw[show(eU cf a b ao).H=cf.H++[some ao]from rfl,iZ hn]at e1;rw[show(eU cf a b ao).ρ=cf.ρ++[(a,b)]from rfl,iZ<|hl▸hn]at e2;exact .inl ⟨e1,e2,hn⟩
  ·subst hn;rw[show(eU cf a b ao).H=cf.H++[some ao]from rfl,ku<|bY _]at e1;rw[show(eU cf a b ao).ρ=cf.ρ++[(a,b)]from rfl,<-hl,ku<|bY _]at e2;simp at e1 e2;exact .inr ⟨rfl,e1.symm,e2.symm⟩
  ·rw[show(eU cf a b ao).H=cf.H++[some ao]from rfl,gO<|by simp;exact ua hn]at e1;exact nN e1
 have IX:∀(n:Nat)(bo:AO)(p:Addr×Addr),cf.H[n]?=some (some bo)->cf.ρ[n]?=some p->p.1<s.heap.objs.size/\p.2<s.heap.objs.size:=λn bo p e1 e2=>by refine X1 (S.here _ (S.own p.1 ⟨n,bo,p,e1,e2,.inl rfl⟩)) λo1 q1=>?_;refine X1 (S.here _ (S.own p.2 ⟨n,bo,p,e1,e2,.inr rfl⟩)) λo2 q2=>?_;exact⟨fJ q1,fJ q2⟩
 refine⟨⟨I2 h' t rfl,λx o U e=>g x o e,λx o h U U=>.inl h,λx h=>?_,λx h=>?_,refs⟩,⟨?_,λn bo p e1 e2=>?_,λx h=>?_,λn m bo co p q e1 e2 e3 e4 hne=>?_,λx h=>?_,λx o e=>⟨g x o (S.base x o e).1,?_⟩⟩,?_,k⟩
 ·clear ea eb r na nb refs k split;rcases h with h|rfl|rfl
  ·exact .inl h
  ·exact .inr<|jB ha
  ·exact .inr<|jB hb
 ·clear ea eb r na nb refs k split;rcases IW S h with h|rfl|rfl
  ·exact .inl h
  ·exact .inr<|jB ha
  ·exact .inr<|jB hb
 ·show(cf.ρ++[(a,b)]).length=(cf.H++[some ao]).length;simp[hl]
 ·clear refs;rcases split n bo p e1 e2 with⟨e1,e2,_⟩|⟨_,rfl,rfl⟩
  ·exact(S.rep n bo p e1 e2).mono k (g _)<|g _
  ·exact r
 ·clear ha hb ea eb r na nb refs k split;rcases IW S h with h|rfl|rfl
  ·exact .inl<|S.own x h
  ·exact .inr<|.inl rfl
  ·exact .inr<|.inr rfl
 ·have oM:∀{x y:Nat},x<s.heap.objs.size->s.heap.objs.size<=y->x≠y:=λh1 h2=>gP<|oq h1 h2
  clear r refs k;rcases split n bo p e1 e3 with⟨f1,f2,_⟩|⟨rfl,rfl,rfl⟩<;>(clear e1 e3;rcases split m co q e2 e4 with⟨g1,g2,_⟩|⟨rfl,rfl,rfl⟩)
  ·exact S.inj n m bo co p q f1 g1 f2 g2 hne
  ·have l:=IX n bo p f1 f2;exact⟨oM l.1 ha,oM l.1 hb,oM l.2 ha,oM l.2 hb⟩
  ·have l:=IX m co q g1 g2;exact⟨(oM l.1 ha).symm,(oM l.2 ha).symm,(oM l.1 hb).symm,(oM l.2 hb).symm⟩
  ·exact absurd rfl hne
 ·clear ha hb r na nb refs k split;rcases h with h|rfl|rfl
  ·refine X1 (S.here x h) λo e=>?_;exact⟨o,g x o e⟩
  ·exact ea
  ·exact eb
 ·rintro(h|rfl|rfl)
  ·exact(S.base x o e).2 h
  ·have:=(S.base _ o e).1;rw[jB ha]at this;exact nN this
  ·have:=(S.base _ o e).1;rw[jB hb]at this;exact nN this
 ·refine⟨(a,b),?_,rfl⟩;show(cf.ρ++[(a,b)])[cf.H.length]?=_;rw[<-hl,ku<|bY _];simp
noncomputable def jc(cf:Cf)(n:Nat)(ao:AO):Cf:={cf with H:=cf.H.set n<|some ao}
theorem IY{cf:Cf}{n:Nat}{ao eV:AO}(hn:cf.H[n]?=some (some ao)){x:Addr}:Own (jc cf n eV) x↔Own cf x:=by
 have hlt:n<cf.H.length:=by
  rcases dm n cf.H.length with h|h
  ·exact h
  ·rw[gO h]at hn;exact nN hn
 constructor
 ·rintro⟨m,bo,p,e1,e2,e3⟩;by_cases h:n=m
  ·clear e1;subst h;exact⟨n,ao,p,hn,e2,e3⟩
  ·rw[show(jc cf n eV).H=cf.H.set n (some eV)from rfl,jr h]at e1;exact⟨m,bo,p,e1,e2,e3⟩
 ·rintro⟨m,bo,p,e1,e2,e3⟩;by_cases h:n=m
  ·clear e1;subst h;exact⟨n,eV,p,by rw[show(jc cf n eV).H=cf.H.set n (some eV)from rfl,jL hlt],e2,e3⟩
  ·exact⟨m,bo,p,by rw[show(jc cf n eV).H=cf.H.set n (some eV)from rfl,jr h];exact e1,e2,e3⟩
theorem xy{X:Cx}{cf:Cf}{h h':Heap}{n:Nat}{ao:AO}(eV:AO){p:Addr×Addr}(S:aU X cf h)(hn:cf.H[n]?=some (some ao))(hp:cf.ρ[n]?=some p)
  (k:∀b o,b≠p.1->b≠p.2->h.get? b=some o->h'.get? b=some o):Kept cf h (jc cf n eV) h':=
 ⟨λb o hb e=>k b o (λq=>hb<|q▸S.own p.1 ⟨n,ao,p,hn,hp,.inl rfl⟩) (λq=>hb<|q▸S.own p.2 ⟨n,ao,p,hn,hp,.inr rfl⟩) e,λU U h U=>h,λU U h=>h⟩
theorem nu.IZ{X:Cx}{cf:Cf}{h:Heap}{p:Addr×Addr}:∀{ao:AO},nu X cf h p ao->(∃o,h.get? p.1=some o)/\∃o,h.get? p.2=some o
 |.l l,⟨e,vs,hl,_,_⟩=>⟨oE hl,e▸oE hl⟩
 |.i n f,⟨e,_,g,hm,_,_⟩=>⟨ug hm,e▸ug hm⟩
 |.s ks l,⟨e,_,vals,hm,_,_⟩=>⟨ug hm,e▸ug hm⟩
 |.n c ns l,⟨_,C,es,n,_,e1,e2,_,_⟩=>⟨⟨_,e1⟩,⟨_,e2⟩⟩
theorem xA{X:Cx}{cf:Cf}{s:Shared}{h':Heap}{t n:Nat}{ao eV:AO}{p:Addr×Addr}(S:aU X cf s.heap)(hn:cf.H[n]?=some (some ao))(hp:cf.ρ[n]?=some p)
  (k:∀b o,b≠p.1->b≠p.2->s.heap.get? b=some o->h'.get? b=some o)(r:nu X (jc cf n eV) h' p eV):
  Step cf s (jc cf n eV) {s with heap:=h',toks:=t}/\aU X (jc cf n eV) h':=by
 have hlt:n<cf.H.length:=by
  rcases dm n cf.H.length with h|h
  ·exact h
  ·rw[gO h]at hn;exact nN hn
 have K:=xy eV S hn hp k;have o1:Own cf p.1:=⟨n,ao,p,hn,hp,.inl rfl⟩
 have o2:Own cf p.2:=⟨n,ao,p,hn,hp,.inr rfl⟩
 have back:∀(m:Nat)(bo:AO),(jc cf n eV).H[m]?=some (some bo)->(m=n/\bo=eV)\/(m≠n/\cf.H[m]?=some (some bo)):=λm bo e=>by
  by_cases h:n=m
  ·subst h;rw[show(jc cf n eV).H=cf.H.set n (some eV)from rfl,jL hlt]at e;cases e;exact .inl ⟨rfl,rfl⟩
  ·rw[show(jc cf n eV).H=cf.H.set n (some eV)from rfl,jr h]at e;exact .inr ⟨λq=>h q.symm,e⟩
 have old:∀(m:Nat)(bo:AO),(jc cf n eV).H[m]?=some (some bo)->∃co,cf.H[m]?=some (some co):=λm bo e=>by
  clear hp r hlt K;rcases back m bo e with⟨rfl,_⟩|⟨_,h⟩
  ·exact⟨_,hn⟩
  ·exact⟨_,h⟩
 refine⟨⟨I2 h' t rfl,λb o hb e=>k b o (λq=>hb<|q▸o1) (λq=>hb<|q▸o2) e,λb o h U U=>h,λb h=>.inl h,λb h=>.inl<|(IY hn).mp h,λU U h=>h⟩,
  ⟨?_,λm bo q e1 e2=>?_,λb h=>S.own b<|(IY hn).mp h,λm i bo co q u e1 e2 e3 e4 hne=>?_,λb h=>?_,λb o e=>?_⟩⟩
 ·show cf.ρ.length=(cf.H.set n<|some eV).length;refine rR i5 ?_;exact S.len
 ·clear hlt old;rcases back m bo e1 with⟨rfl,rfl⟩|⟨hne,e1⟩
  ·have xB:cf.ρ[m]?=some q:=e2;rw[hp]at xB;clear e2;obtain rfl:=aK xB;exact r
  ·have j:=S.inj m n bo ao q p e1 hn e2 hp hne;exact(S.rep m bo q e1 e2).mono K (λo e=>k _ o j.1 j.2.1 e) λo e=>k _ o j.2.2.1 j.2.2.2 e
 ·refine X1 (old m bo e1) λb1 f1=>?_;refine X1 (old i co e2) λb2 f2=>?_;exact S.inj m i b1 b2 q u f1 f2 e3 e4 hne
 ·by_cases q1:b=p.1
  ·refine rR q1 ?_;exact r.IZ.1
  ·by_cases q2:b=p.2
   ·refine rR q2 ?_;exact r.IZ.2
   ·refine X1 (S.here b h) λo e=>?_;exact⟨o,k b o q1 q2 e⟩
 ·have z:=S.base b o e;exact⟨k b o (λq=>z.2<|q▸S.own _ o1) (λq=>z.2<|q▸S.own _ o2) z.1,z.2⟩
def fM(X:Cx)(d:Nat)(aa:Env)(ai:b5)(ae:bF)(es:bL)(H:ak)(Q:au->ak->Prop):Prop:=
 ∀A cf s E pos,c7 d A->cf.H=H->aU X cf s.heap->cK X cf aa ai ae s.heap->wpAny (model X.prog X.w) A (spliced<|backTo pos<|starEach es aa) (bC X cf s<|GL X Q) E s
section
variable {X:Cx}{d:Nat}{aa:Env}{ai:b5}{ae:bF}{H:ak}
theorem AE.mono{e:Expr}{Q Q':eF}(h:AE X d aa ai ae e H Q)(m:∀p H,Q p H->Q' p H):AE X d aa ai ae e H Q':=
 λA cf s E a b c f=>bz (h A cf s E a b c f) (λU U y=>y.mono m) λU U y=>y
noncomputable def notStar(e:Expr):Bool:=!(Nat.beq e.ctorIdx 22)
theorem rG{e:Expr}(h:notStar e=true)(es:bL):starEach (e::es) aa=(false,eval e aa)::starEach es aa:=by
 induction e using Expr.casesOn<;>first|rfl|exact nB h
theorem BQ:∀{es:bL},es.all notStar=true->∀pos,(backTo pos<|starEach es aa).any (·.1)=false
 |[],_,_=>rfl
 |e::es,h,pos=>by rw[oj,cy]at h;rw[rG h.1];show(false||(backTo pos<|starEach es aa).any (·.1))=false;refine rR (BQ h.2 pos) ?_;rfl
theorem xC{Q:au->ak->Prop}(q:Q [] H):fM X d aa ai ae [] H Q:=by rintro A cf s E pos U rfl S R;exact Calls.spliced_nil<|bC.now S ⟨[],aO.gk,q⟩
theorem uw{e:Expr}{es:bL}{Q:au->ak->Prop}(hs:notStar e=true)(h:AE X d aa ai ae e H λv H'=>fM X d aa ai ae es H' λvs c8=>Q (v::vs) c8):
  fM X d aa ai ae (e::es) H Q:=by
 rintro A cf s E pos hA rfl S R;rw[rG hs];refine Calls.spliced_cons (bz (h A cf s E hA rfl S R) (λv s₁ y=>?_) λU U y=>y);obtain⟨aS,pv,st,S₁,r,q⟩:=y;refine bz (q A aS s₁ E pos hA rfl S₁<|R.step S st) (λvs s₂ z=>?_) λU U y=>y;obtain⟨gy,cU,S₂,ps,rs,q₂⟩:=z;exact⟨gy,st.trans S.own cU,S₂,pv::ps,aO.fD (r.mono<|cU.kept S₁.own) rs,q₂⟩
theorem BR{α:Type}{e1 e2:Expr}{P:PV->PV->ak->Prop}{G:α->Cf->Shared->Prop}{k:Value->Value->Sem α}
  (h:AE X d aa ai ae e1 H λv1 H'=>AE X d aa ai ae e2 H' λv2 c8=>P v1 v2 c8)
  (op:∀A cf s E v1 v2 p1 p2,c7 d A->aU X cf s.heap->cK X cf aa ai ae s.heap->Rep X cf s.heap p1 v1->Rep X cf s.heap p2 v2->P p1 p2 cf.H->wpAny (model X.prog X.w) A (k v1 v2) (bC X cf s G) E s)
  {A:Around}{cf:Cf}{s:Shared}{E:cJ}(hA:c7 d A)(hH:cf.H=H)(S:aU X cf s.heap)(R:cK X cf aa ai ae s.heap):
  wpAny (model X.prog X.w) A (eval e1 aa) (λv1 s₁=>wpAny (model X.prog X.w) A (eval e2 aa) (λv2 s₂=>wpAny (model X.prog X.w) A (k v1 v2) (bC X cf s G) E s₂) E s₁) E s:=by
 refine bz (h A cf s E hA hH S R) (λv s₁ y=>?_) λU U y=>y;obtain⟨aS,p1,st,S₁,r,q⟩:=y;have cI:=R.step S st;refine bz (q A aS s₁ E hA rfl S₁ cI) (λv2 s₂ y=>?_) λU U y=>y;obtain⟨gy,p2,cU,S₂,r₂,q₂⟩:=y;exact bz (op A gy s₂ E v v2 p1 p2 hA S₂ (cI.step S₁ cU) (r.mono<|cU.kept S₁.own) r₂ q₂) (λU U z=>z.after S<|st.trans S.own cU) λU U y=>y
theorem BS{α:Type}{e1:Expr}{P:eF}{G:α->Cf->Shared->Prop}{k:Value->Sem α}
  (h:AE X d aa ai ae e1 H P)
  (op:∀A cf s E v1 p1,c7 d A->aU X cf s.heap->cK X cf aa ai ae s.heap->Rep X cf s.heap p1 v1->P p1 cf.H->wpAny (model X.prog X.w) A (k v1) (bC X cf s G) E s)
  {A:Around}{cf:Cf}{s:Shared}{E:cJ}(hA:c7 d A)(hH:cf.H=H)(S:aU X cf s.heap)(R:cK X cf aa ai ae s.heap):
  wpAny (model X.prog X.w) A (eval e1 aa) (λv1 s₁=>wpAny (model X.prog X.w) A (k v1) (bC X cf s G) E s₁) E s:=by
 refine bz (h A cf s E hA hH S R) (λv s₁ y=>?_) λU U y=>y;obtain⟨aS,p1,st,S₁,r,q⟩:=y;exact bz (op A aS s₁ E v p1 hA S₁ (R.step S st) r q) (λU U z=>z.after S st) λU U y=>y
theorem fm{e:Expr}{Q:eF}(h:∀A cf s E,c7 d A->cf.H=H->aU X cf s.heap->cK X cf aa ai ae s.heap->wpAny (model X.prog X.w) A (eval e aa) (bC X cf s<|GV X Q) E s):AE X d aa ai ae e H Q:=
 λA cf s E a b c f=>bz (h A cf s E a b c f) (λU U y=>xw.mpr y) λU U y=>y
theorem I0{l r:Expr}{op:Operator}{pos:Pos}{P:PV->PV->ak->Prop}{Q:eF}(h:AE X d aa ai ae l H λv1 H'=>AE X d aa ai ae r H' λv2 c8=>P v1 v2 c8)
  (o:∀A cf s E v1 v2 p1 p2,c7 d A->aU X cf s.heap->cK X cf aa ai ae s.heap->Rep X cf s.heap p1 v1->Rep X cf s.heap p2 v2->P p1 p2 cf.H->wpAny (model X.prog X.w) A (binaryOp op v1 v2) (bC X cf s<|GV X Q) E s):
  AE X d aa ai ae (.BinOp l op r pos) H Q:=fm λA cf s E hA hH S R=>wpAny_BinOp<|BR h o hA hH S R
end
end
section
mutual
noncomputable def toPy:PV->PyData
 |.n=>.none
 |.b b=>.bool b
 |.i i=>.int i
 |.s s=>.str<|Sx s
 |.t l=>.tuple<|jC l
 |.l l=>.list<|jC l
 |.r _=>.none
 |.d _=>.none
 |.c _ _=>.none
 |.o _ _ _=>.none
 |.e _=>.none
noncomputable def jC:au->List PyData
 |[]=>[]
 |p::r=>toPy p::jC r
end
theorem I1(s:String):PyData.strOk (Sx s)=true:=by
 have e:(Sx s).cps.toList=s.toList.map Char.toNat:=by show((cpsOfBytes 0 0 s.toByteArray.data.toList).toArray).toList=_;refine rR nc ?_;rw[cpsOfBytes_string]
 unfold PyData.strOk;refine rL Array.all_toList<|rR e ?_
 rewrite[gj];intro x hx;refine aC (bV.mp hx) λc U aP=>?_;clear hx;subst aP;have hv:=c.valid;simp only[UInt32.isValidChar,Nat.isValidChar]at hv;have ht:c.toNat=c.val.toNat:=rfl;exact di<|by refine rR ht ?_;exact PJ hv
theorem rH{n:Nat}(ih:∀p,simple n p=true->(toPy p).canLay0=true/\(toPy p).depth<=n):∀l:au,l.all (simple n)=true->PyData.canLayAll0 (jC l)=true/\PyData.depthAll (jC l)<=n:=by
 intro l
 induction l with
 |nil=>exactλU=>⟨rfl,iF _⟩
 |cons p l hi=>
  intro h;refine U1 (k8.mp h) λh1 h2=>?_;exact⟨k8.mpr ⟨(ih p h1).1,(hi h2).1⟩,Nat.max_le.mpr ⟨(ih p h1).2,(hi h2).2⟩⟩
theorem rI:∀(n:Nat)(p:PV),simple n p=true->(toPy p).canLay0=true/\(toPy p).depth<=n:=by
 intro n
 induction n with
 |zero=>
  intro p h;cases iJ h with
  |none=>exact⟨rfl,iF _⟩
  |int i=>exact⟨rfl,iF _⟩
  |str s=>exact⟨I1 s,iF _⟩
  |tup l m e=>nomatch e
  |lst l m e=>nomatch e
 |succ n ih=>
  intro p h;cases iJ h with
  |none=>exact⟨rfl,iF _⟩
  |int i=>exact⟨rfl,iF _⟩
  |str s=>exact⟨I1 s,iF _⟩
  |tup l m e h=>obtain rfl:=ng e;exact⟨(rH ih l h).1,tR (rH ih l h).2⟩
  |lst l m e h=>obtain rfl:=ng e;exact⟨(rH ih l h).1,tR (rH ih l h).2⟩
theorem I4{n k:Nat}(ih:∀p q,simple n p=true->simple k q=true->(PyData.eqv (toPy p) (toPy q)=true↔p=q)):∀(l m:au),l.all (simple n)=true->m.all (simple k)=true->(PyData.eqvAll (jC l) (jC m)=true↔l=m):=by
 intro l
 induction l with
 |nil=>intro m U U;induction m using b9 with
  |nil=>exact⟨λU=>rfl,λU=>rfl⟩
  |cons q m=>exact⟨nofun,nofun⟩
 |cons p l hi=>
  intro m h1 h2
  induction m using b9 with
  |nil=>exact⟨nofun,nofun⟩
  |cons q m=>
   refine U1 (k8.mp h1) λa1 a2=>?_;refine U1 (k8.mp h2) λb1 b2=>?_;exact(k8.trans<|and_congr (ih p q a1 b1)<|hi m a2 b2).trans List.cons_eq_cons.symm
theorem BU:∀(n:Nat)(p q:PV)(k:Nat),simple n p=true->simple k q=true->(PyData.eqv (toPy p) (toPy q)=true↔p=q):=by
 intro n
 induction n with
 |zero=>
  intro p q k h1 h2;cases iJ h1 with
  |tup l m e=>nomatch e
  |lst l m e=>nomatch e
  |none=>cases iJ h2 with
   |none=>exact⟨λU=>rfl,λU=>rfl⟩
   |_=>exact⟨nofun,nofun⟩
  |int i=>cases iJ h2 with
   |int j=>exact gQ.trans ⟨congrArg _,PV.i.inj⟩
   |_=>exact⟨nofun,nofun⟩
  |str i=>cases iJ h2 with
   |str j=>exact gQ.trans ⟨λe=>congrArg _ (lq e),λe=>congrArg _ (PV.s.inj e)⟩
   |_=>exact⟨nofun,nofun⟩
 |succ n ih=>
  intro p q k h1 h2;cases iJ h1 with
  |none=>cases iJ h2 with
   |none=>exact⟨λU=>rfl,λU=>rfl⟩
   |_=>exact⟨nofun,nofun⟩
  |int i=>cases iJ h2 with
   |int j=>exact gQ.trans ⟨congrArg _,PV.i.inj⟩
   |_=>exact⟨nofun,nofun⟩
  |str i=>cases iJ h2 with
   |str j=>exact gQ.trans ⟨λe=>congrArg _ (lq e),λe=>congrArg _ (PV.s.inj e)⟩
   |_=>exact⟨nofun,nofun⟩
  |tup l m e h=>obtain rfl:=ng e;cases iJ h2 with
   |tup l' m' e h'=>exact(I4 (λp q a b=>ih p q m' a b) l l' h h').trans ⟨congrArg _,PV.t.inj⟩
   |_=>exact⟨nofun,nofun⟩
  |lst l m e h=>obtain rfl:=ng e;cases iJ h2 with
   |lst l' m' e h'=>exact(I4 (λp q a b=>ih p q m' a b) l l' h h').trans ⟨congrArg _,PV.l.inj⟩
   |_=>exact⟨nofun,nofun⟩
theorem BV{X:Cx}{cf:Cf}{h:Heap}{n:Nat}(ih:∀(p:PV) {v:Value},simple n p=true->Rep X cf h p v->∃as,Reads h v (toPy p) as):∀(l:au){vs:cz},l.all (simple n)=true->aO X cf h l vs->∃as,ReadsAll h vs (jC l) as:=by
 intro l
 induction l with
 |nil=>intro vs U r;obtain rfl:vs=[]:=r;exact⟨_,.nil⟩
 |cons p l hi=>
  intro vs hs r;obtain⟨v,t,rfl,r1,r2⟩:=r;refine U1 (k8.mp hs) λa1 a2=>?_;refine X1 (ih p a1 r1) λas q=>?_;refine X1 (hi a2 r2) λbs q2=>?_;exact⟨_,.cons q q2⟩
theorem xD{X:Cx}{cf:Cf}{h:Heap}:∀(n:Nat)(p:PV){v:Value},simple n p=true->Rep X cf h p v->∃as,Reads h v (toPy p) as:=by
 have none:∀{v:Value},Rep X cf h .n v->∃as,Reads h v .none as:=λ{v} r=>by obtain rfl:v=.none:=r;exact⟨_,.none⟩
 have int:∀{i:Int}{v:Value},Rep X cf h (.i i) v->∃as,Reads h v (.int i) as:=λr=>by(refine X1 r λt aN=>?_;clear r;subst aN);exact⟨_,.int _ _⟩
 have str:∀{i:String}{v:Value},Rep X cf h (.s i) v->∃as,Reads h v (.str<|Sx i) as:=λr=>by(refine X1 r λt aQ=>?_;clear r;subst aQ);exact⟨_,.str _ _⟩
 intro n
 induction n with
 |zero=>
  intro p v hs r;cases iJ hs with
  |none=>exact none r
  |int i=>exact int r
  |str s=>exact str r
  |tup l m e=>nomatch e
  |lst l m e=>nomatch e
 |succ n ih=>
  intro p v hs r;cases iJ hs with
  |none=>exact none r
  |int i=>exact int r
  |str s=>exact str r
  |tup l m e h=>
   obtain rfl:=ng e;obtain⟨a,vs,rfl,_,⟨o,e1,e2,m,e3⟩,_,rl⟩:=r;refine X1 (BV ih l h rl) λas q=>?_;exact⟨_,reads_tuple_at e1 e2 e3 q⟩
  |lst l m e h=>
   obtain rfl:=ng e;obtain⟨a,vs,rfl,_,hpl,_,rl⟩:=r;refine E6 hpl.isList λo e1 e2 m e3=>?_;refine X1 (BV ih l h rl) λas q=>?_;exact⟨_,reads_list_at e1 e2 e3 q⟩
theorem BW{X:Cx}{cf:Cf}{h:Heap}(n:Nat)(l:au){vs:cz}(a:l.all (simple n)=true)(b:aO X cf h l vs):∃as,ReadsAll h vs (jC l) as:=BV (xD n) l a b
set_option tactic.hygienic true in
theorem rJ{X:Cx}{cf:Cf}{h:Heap}{p:PV}{v:Value}{l:au}(S:aU X cf h)(r:Rep X cf h p v)(e:e_ cf.H p=some l):
  ∃a vs,v=.ref a/\(h.IsList a vs\/IsTup h a vs)/\vs.size<=2^20/\aO X cf h l vs.toList:=by
 induction p using d7 with
 |t m=>simp only[e_,Option.some.injEq]at e;subst e;obtain⟨a,vs,rfl,_,ht,hz,rl⟩:=r;exact fy a vs rfl (.inr ht) hz rl
 |l m=>simp only[e_,Option.some.injEq]at e;subst e;obtain⟨a,vs,rfl,_,ht,hz,rl⟩:=r;exact fy a vs rfl (.inl ht.isList) hz rl
 |e n=>
  simp only[e_]at e;split at e
  ·rename_i l' q;obtain rfl:=aK e;obtain⟨pp,e2,rfl⟩:=r;obtain⟨_,vs,hl,hz,rl⟩:=S.rep n _ pp q e2;exact fy pp.1 vs rfl (.inl hl.isList) hz rl
  ·exact nN e
 |_=>simp[e_]at e
set_option tactic.hygienic true in
theorem nD{X:Cx}{cf:Cf}{h:Heap}{p:PV}{v:Value}{l:au}(S:aU X cf h)(r:Rep X cf h p v)(e:fh cf.H p=some l):
  ∃a vs,v=.ref a/\h.PlainList a vs/\vs.size<=2^20/\aO X cf h l vs.toList:=by
 induction p using d7 with
 |l m=>simp only[fh,Option.some.injEq]at e;subst e;obtain⟨a,vs,rfl,_,ht,hz,rl⟩:=r;exact fy a vs rfl ht hz rl
 |e n=>
  simp only[fh]at e;split at e
  ·rename_i l' q;obtain rfl:=aK e;obtain⟨pp,e2,rfl⟩:=r;obtain⟨_,vs,hl,hz,rl⟩:=S.rep n _ pp q e2;exact fy pp.1 vs rfl hl hz rl
  ·exact nN e
 |_=>simp[fh]at e
set_option tactic.hygienic true in
theorem xE{X:Cx}{cf:Cf}{h:Heap}{p:PV}{v:Value}(S:aU X cf h)(r:Rep X cf h p v)(hs:simple 4 (view cf.H p)=true):∃as,Reads h v (toPy<|view cf.H p) as:=by
 induction p using d7 with
 |e n=>
  simp only[view]at hs⊢;split at hs
  ·rename_i l q;refine eJ (nD (p:=.e n) S r (l:=l)<|by simp[fh,q]) λa vs aR hpl U rl=>?_;clear r;subst aR;refine E6 hpl.isList λo e1 e2 m e3=>?_;refine X1 (BW 3 l hs rl) λas ra=>?_;exact⟨_,reads_list_at e1 e2 e3 ra⟩
  ·nomatch hs
 |_=>exact xD 4 _ hs r
noncomputable def gz:gw->CmpOp
 |.e=>.Eq|.n=>.NotEq|.l=>.Lt|.a=>.LtE|.g=>.Gt|.b=>.GtE|.i=>.In|.o=>.NotIn|.s=>.Is|.t=>.IsNot
theorem ux{X:Cx}{cf:Cf}{h:Heap}{p:PV}{v:Value}{f:Int->bK}(S:aU X cf h)(r:Rep X cf h p v)(e:p=.d f\/∃n,p=.e n/\∃m,cf.H[n]?=some (some<|.i m f)):
  ∃a g,v=.ref a/\(a==sysModules)=false/\h.MapOf (intKind X.prog X.w) a g/\wV f g:=by
 rcases e with rfl|⟨n,rfl,q⟩
 ·obtain⟨a,g,rfl,_,hs,hm,hi⟩:=r;exact fy a g rfl hs hm hi
 ·obtain⟨pp,e2,rfl⟩:=r;revert q;refine Y1 λm q=>?_;obtain⟨_,hs,kvs,hm,_,hi⟩:=S.rep n _ pp q e2;exact fy pp.1 _ rfl hs hm.mapOf hi
theorem uy{X:Cx}{cf:Cf}{h:Heap}{p:PV}{v:Value}{ks:aY}{l:au}(S:aU X cf h)(r:Rep X cf h p v)(e:p=.c ks l\/∃n,p=.e n/\cf.H[n]?=some (some<|.s ks l)):
  ∃a vals,v=.ref a/\(a==sysModules)=false/\h.MapOf (strKind X.prog X.w) a (kH ks vals)/\vals.length=ks.length/\aO X cf h l vals:=by
 rcases e with rfl|⟨n,rfl,q⟩
 ·obtain⟨a,vals,rfl,_,hs,hm,hl,rl⟩:=r;exact t8 a vals rfl hs hm hl rl
 ·obtain⟨pp,e2,rfl⟩:=r;obtain⟨_,hs,vals,hm,hl,rl⟩:=S.rep n _ pp q e2;have hm':=hm.mapOf;rw[show valueAt ((List.map Sx ks).zip vals)=kH ks vals from funext λx=>l_ _ x]at hm';exact t8 pp.1 vals rfl hs hm' hl rl
theorem I5{f:Int->bK}{g:Int->Option Value}(h:wV f g)(k:Int):(g k).isSome=(f k).isSome:=by
 have:=h k;cases e:f k with
 |none=>rw[e]at this;refine rR this ?_;rfl
 |some i=>rw[e]at this;refine X1 this λt q=>?_;refine rR q ?_;rfl
theorem BX:∀{ks:aY}{vals:cz}(x:String),vals.length=ks.length->(kH ks vals<|Sx x).isSome=ks.contains x
 |[],vals,x,_=>by simp[kH]
 |k::ks,[],x,h=>by simp at h
 |k::ks,v::vals,x,h=>by
  have ih:=BX (ks:=ks) (vals:=vals) x<|by simpa using h
  unfold kH at ih⊢;refine rR fK<|rR List.zip_cons_cons<|rR m8<|rR List.contains_cons ?_
  by_cases q:x=k
  ·clear h;subst q;simp
  ·have q1:(Sx x==Sx k)=false:=tV.mpr λe=>q<|lq e
   have q2:(x==k)=false:=tV.mpr q;refine rR q1<|rR q2 ?_
   rewrite[Bool.false_or];exact ih
theorem BY{n:Nat}{p:PV}(hp:simple n p=true):∀{l:au},l.all (simple n)=true->((jC l).any (λy=>PyData.eqv y<|toPy p)=true↔p∈l)
 |[],_=>by simp[show jC []=[]from rfl]
 |q::l,h=>by rw[oj,cy]at h;have a:=BU n q p n h.1 hp;have b:=BY hp h.2;rewrite[jC];refine rR qY ?_;rewrite[Bool.or_eq_true,a,b,eO];exact⟨λh=>h.imp Eq.symm id,λh=>h.imp Eq.symm id⟩
section
variable {X:Cx}{cf:Cf}{s:Shared}{A:Around}{d:Nat}{E:cJ}{v1 v2:Value}{p1 p2:PV}
theorem oO{P:Prop}[Decidable P]{b:Bool}(h:b=true↔P):b=decide P:=by
 by_cases q:P
 ·refine rR (di q) ?_;exact h.mpr q
 ·refine rR (dG q) ?_;exact Bool.eq_false_iff.mpr λe=>q<|h.mp e
inductive WM (p:PV)(v:Value):Prop
 |none (e:p=.n) (f:v=.none)
 |bool (b:Bool) (e:p=.b b) (f:v=.bool b)
 |other (e:p≠.n) (e':∀b,p≠.b b) (f:v≠.none) (f':∀b,v≠.bool b)
theorem I7{h:Heap}{cf:Cf}{p:PV}{v:Value}(r:Rep X cf h p v):WM p v:=by
 induction p using d7 with
 |n=>exact .none rfl r
 |b b=>exact .bool b rfl r
 |i i=>(refine X1 r λt aT=>?_;clear r;subst aT);exact .other nofun nofun nofun nofun
 |s i=>(refine X1 r λt aL=>?_;clear r;subst aL);exact .other nofun nofun nofun nofun
 |t l=>obtain⟨a,_,rfl,_⟩:=r;exact .other nofun nofun nofun nofun
 |l l=>obtain⟨a,_,rfl,_⟩:=r;exact .other nofun nofun nofun nofun
 |r l=>obtain⟨a,_,rfl,_⟩:=r;exact .other nofun nofun nofun nofun
 |d l=>obtain⟨a,_,rfl,_⟩:=r;exact .other nofun nofun nofun nofun
 |c k l=>obtain⟨a,_,rfl,_⟩:=r;exact .other nofun nofun nofun nofun
 |o c n l=>obtain⟨a,_,_,_,_,rfl,_⟩:=r;exact .other nofun nofun nofun nofun
 |e n=>obtain⟨a,_,rfl⟩:=r;exact .other nofun nofun nofun nofun
theorem I8{h:Heap}{cf:Cf}{p:PV}{v1 v2:Value}(r:Rep X cf h p v1)(h2:v2=.none\/∃b,v2=.bool b):PySem.plainIs v1 v2=true:=by
 have e:v1.ctorIdx≠9:=by
  induction p using d7 with
  |n=>obtain rfl:v1=.none:=r;exact(by decide:0≠9)
  |b b=>obtain rfl:v1=.bool b:=r;exact(by decide:3≠9)
  |i i=>(refine X1 r λt aM=>?_;clear r;subst aM);exact(by decide:4≠9)
  |s i=>(refine X1 r λt aP=>?_;clear r;subst aP);exact(by decide:6≠9)
  |t l=>obtain⟨a,_,rfl,_⟩:=r;exact(by decide:10≠9)
  |l l=>obtain⟨a,_,rfl,_⟩:=r;exact(by decide:10≠9)
  |r l=>obtain⟨a,_,rfl,_⟩:=r;exact(by decide:10≠9)
  |d l=>obtain⟨a,_,rfl,_⟩:=r;exact(by decide:10≠9)
  |c k l=>obtain⟨a,_,rfl,_⟩:=r;exact(by decide:10≠9)
  |o c n l=>obtain⟨a,_,_,_,_,rfl,_⟩:=r;exact(by decide:10≠9)
  |e n=>obtain⟨a,_,rfl⟩:=r;exact(by decide:10≠9)
 rcases h2 with rfl|⟨b,rfl⟩<;>(clear r;induction v1 using Value.casesOn)<;>first|rfl|exact absurd rfl e
theorem I9(r1:Rep X cf s.heap p1 v1)(r2:Rep X cf s.heap p2 v2)(h:p2=.n\/∃x,p2=.b x):PySem.plainIs v1 v2=true/\((v1==v2)=true↔p1=p2):=by
 rcases h with rfl|⟨b,rfl⟩
 ·obtain rfl:v2=.none:=r2;refine⟨I8 r1<|.inl rfl,gQ.trans ?_⟩;cases I7 r1 with
  |none e f=>exact⟨λU=>e,λU=>f⟩
  |bool b e f=>clear r1;subst e;subst f;exact⟨nofun,nofun⟩
  |other e _ f _=>exact⟨λq=>absurd q f,λq=>absurd q e⟩
 ·obtain rfl:v2=.bool b:=r2;refine⟨I8 r1<|.inr ⟨b,rfl⟩,gQ.trans ?_⟩;cases I7 r1 with
  |none e f=>clear r1;subst e;subst f;exact⟨nofun,nofun⟩
  |bool b e f=>clear r1;subst e;subst f;exact⟨λq=>congrArg _ (Value.bool.inj q),λq=>congrArg _ (PV.b.inj q)⟩
  |other _ e _ f=>exact⟨λq=>absurd q<|f b,λq=>absurd q<|e b⟩
theorem xF{p:PV}(h:simple 4 p=true):SeqAt.shaped (toPy p)=true:=k8.mpr ⟨(rI 4 p h).1,di<|eR (rI 4 p h).2<|by decide⟩
theorem I_{u x y c:Nat}(hu:u+64<c)(h:y<=2):u+1+min x y<c:=by have:=lV x y;exact PK hu h
open Classical in
theorem rK(hA:c7 d A)(S:aU X cf s.heap)(r1:Rep X cf s.heap p1 v1)(r2:Rep X cf s.heap p2 v2)(op:gw){Q:Bool->Prop}(h:mh cf.H op p1 p2 Q){R:cJ}
  (k:∀b t,Q b->R (.bool b) {s with toks:=t}):wpAny (model X.prog X.w) A (compareOp (gz op) v1 v2) R E s:=by
 have hu:A.units+64<cLine:=by have:=hA.units;exact PL this
 have hu1:A.units+1+64<cLine:=by have:=hA.units;exact PM this
 have kn:∀b,Q b->R (.bool b) s:=λb q=>k b s.toks q;unfold mh at h
 induction op using gw.casesOn<;>dsimp only at h<;>dsimp only[gz]
 ·refine U1 h λhc q=>?_;clear h;rcases hc with⟨x,y,rfl,rfl⟩|⟨h1,h2⟩
  ·subst r1;subst r2;refine PyProof.Rows.eq_bool<|kn _ ?_
   have e:(x==y)=decide (view cf.H (.b x)=view cf.H (.b y)):=oO<|by simp[view]
   refine rR e ?_;exact q
  ·refine X1 (xE S r1 h1) λas ra=>?_;refine X1 (xE S r2 h2) λbs rb=>?_;refine eq_dataH ra rb (xF h1) (xF h2) hu<|kn _ ?_
   refine rR (oO<|BU 4 _ _ 4 h1 h2) ?_;exact q
 ·refine U1 h λhc q=>?_;clear h;rcases hc with⟨x,y,rfl,rfl⟩|⟨h1,h2⟩
  ·subst r1;subst r2;refine PyProof.Rows.ne_bool<|kn _ ?_
   have e:(x==y)=decide (view cf.H (.b x)=view cf.H (.b y)):=oO<|by simp[view]
   show Q<|!(x==y)
   refine rR e ?_;exact q
  ·refine X1 (xE S r1 h1) λas ra=>?_;refine X1 (xE S r2 h2) λbs rb=>?_;refine ne_dataH ra rb (xF h1) (xF h2) hu<|kn _ ?_
   refine rR (oO<|BU 4 _ _ 4 h1 h2) ?_;exact q
 ·(refine d_ h λi j aN aQ q=>?_;clear h;subst aN;subst aQ)
  refine X1 r1 λt aR=>?_;clear r1;subst aR;(refine X1 r2 λu aT=>?_;clear r2;subst aT);refine PyProof.Rows.lt_int<|kn _ ?_
  simpa using q
 ·(refine d_ h λi j aL aM q=>?_;clear h;subst aL;subst aM)
  refine X1 r1 λt aP=>?_;clear r1;subst aP;(refine X1 r2 λu aN=>?_;clear r2;subst aN);refine PyProof.Rows.le_int<|kn _ ?_
  simpa using q
 ·(refine d_ h λi j aQ aR q=>?_;clear h;subst aQ;subst aR)
  refine X1 r1 λt aT=>?_;clear r1;subst aT;(refine X1 r2 λu aL=>?_;clear r2;subst aL);refine PyProof.Rows.gt_int<|kn _ ?_
  simpa using q
 ·(refine d_ h λi j aM aP q=>?_;clear h;subst aM;subst aP)
  refine X1 r1 λt aN=>?_;clear r1;subst aN;(refine X1 r2 λu aQ=>?_;clear r2;subst aQ);refine PyProof.Rows.ge_int<|kn _ ?_
  simpa using q
 ·rcases h with⟨l,hs,h1,h2,q⟩|⟨f,i,hf,rfl,q⟩|⟨ks,l,x,hf,rfl,q⟩
  ·(refine eJ (rJ S r2 hs) λa vs aR hl hz rl=>?_;clear r2;subst aR)
   refine X1 (xD 2 p1 h1 r1) λas ra=>?_;refine X1 (BW 2 l h2 rl) λbs rb=>?_;have l1:=rI 2 _ h1;have l2:=rH (rI 2) l h2;have room:=I_ (x:=PyData.depthAll<|jC l) hu l1.2;have e:=oO<|BY h1 h2
   rcases hl with⟨o,e1,e2,m,e3⟩|⟨o,e1,e2,m,e3⟩
   ·exact SeqAt.in_list_reads (reads_list_at e1 e2 e3 rb) ra l2.1 l1.1 room (by refine rR e ?_;exact kn _ q)
   ·exact SeqAt.in_tuple_reads (reads_tuple_at e1 e2 e3 rb) ra l2.1 l1.1 room (by refine rR e ?_;exact kn _ q)
  ·(refine eJ (ux S r2 hf) λa g aT hs hm hi=>?_;clear r2;subst aT)
   refine X1 r1 λt aL=>?_;clear r1;subst aL;exact wpAny_in_of (knd:=intKind X.prog X.w) (k:=i) (by simp[intKind,Value.isInt]) hs hm<|by rw[I5 hi];exact k _ _ q
  ·(refine pW (uy S r2 hf) λa vals aM hs hm hl rl=>?_;clear r2;subst aM)
   refine X1 r1 λt aP=>?_;clear r1;subst aP;exact wpAny_in_of (knd:=PySem.strKind X.prog X.w) (k:=Sx x) (by simp[PySem.strKind,Value.isStrOf]) hs hm<|by refine rR (BX x hl) ?_;exact k _ _ q
 ·rcases h with⟨l,hs,h1,h2,q⟩|⟨f,i,hf,rfl,q⟩|⟨ks,l,x,hf,rfl,q⟩
  ·(refine eJ (rJ S r2 hs) λa vs aN hl hz rl=>?_;clear r2;subst aN)
   refine X1 (xD 2 p1 h1 r1) λas ra=>?_;refine X1 (BW 2 l h2 rl) λbs rb=>?_;have l1:=rI 2 _ h1;have l2:=rH (rI 2) l h2;have room:=I_ (x:=PyData.depthAll<|jC l) hu l1.2;have e:=oO<|BY h1 h2
   rcases hl with⟨o,e1,e2,m,e3⟩|⟨o,e1,e2,m,e3⟩
   ·exact SeqAt.notIn_list_reads (reads_list_at e1 e2 e3 rb) ra l2.1 l1.1 room (by refine rR e ?_;exact kn _ q)
   ·exact SeqAt.notIn_tuple_reads (reads_tuple_at e1 e2 e3 rb) ra l2.1 l1.1 room (by refine rR e ?_;exact kn _ q)
  ·(refine eJ (ux S r2 hf) λa g aQ hs hm hi=>?_;clear r2;subst aQ)
   refine X1 r1 λt aR=>?_;clear r1;subst aR;exact wpAny_notIn_of (knd:=intKind X.prog X.w) (k:=i) (by simp[intKind,Value.isInt]) hs hm<|by rw[I5 hi];exact k _ _ q
  ·(refine pW (uy S r2 hf) λa vals aT hs hm hl rl=>?_;clear r2;subst aT)
   refine X1 r1 λt aL=>?_;clear r1;subst aL;exact wpAny_notIn_of (knd:=PySem.strKind X.prog X.w) (k:=Sx x) (by simp[PySem.strKind,Value.isStrOf]) hs hm<|by refine rR (BX x hl) ?_;exact k _ _ q
 ·refine U1 h λh2 q=>?_;refine U1 (I9 r1 r2 h2) λpl e=>?_;exact wpAny_is_plain pl<|kn _ (by refine rR (oO e) ?_;exact q)
 ·refine U1 h λh2 q=>?_;refine U1 (I9 r1 r2 h2) λpl e=>?_;exact wpAny_isNot_plain pl<|kn _ (by refine rR (oO e) ?_;exact q)
end
end
section
theorem iO{n:Nat}(h:n<=2^20):n<=sizeLine:=by refine rR sizeLine_eq ?_;exact PN h
section
variable {X:Cx}{cf:Cf}{s:Shared}{A:Around}{d:Nat}{E:cJ}{v v1 v2 v3:Value}{p p1 p2 p3:PV}{Q:eF}
theorem xG{l:au}{vs:dg}{n t:Nat}(S:aU X cf s.heap)(r:aO X cf s.heap l vs.toList)(hz:vs.size<=2^20)(q:Q (.l l) cf.H):
  bC X cf s (GV X Q) (.ref s.heap.objs.size) {s with heap:=s.heap.push {cls:=.type "list",data:=.seq vs n},toks:=t}:=
 bC.grown S (c5.push _ _) ⟨_,WK S r hz,q⟩
theorem WN{l:au}{vs:dg}{n t:Nat}(S:aU X cf s.heap)(r:aO X cf s.heap l vs.toList)(hz:vs.size<=2^20)(q:Q (.t l) cf.H):
  bC X cf s (GV X Q) (.ref s.heap.objs.size) {s with heap:=s.heap.push {cls:=.type "tuple",data:=.seq vs n},toks:=t}:=
 bC.grown S (c5.push _ _) ⟨_,WL S r hz,q⟩
theorem Ja{l:au}{vs:dg}{n t:Nat}(S:aU X cf s.heap)(r:aO X cf s.heap l vs.toList)(hz:vs.size<=2^20)(q:ly cf.H (.l l) Q):
  bC X cf s (GV X Q) (.ref s.heap.objs.size) {s with heap:=s.heap.push {cls:=.type "list",data:=.seq vs n},toks:=t}:=by
 have e:∃o,(s.heap.push {cls:=.type "list",data:=.seq vs n}).get? s.heap.objs.size=some o:=⟨_,ik _ rfl⟩
 have k:Kept cf s.heap (eU cf s.heap.objs.size s.heap.objs.size<|.l l) (s.heap.push {cls:=.type "list",data:=.seq vs n}):=by
  refine⟨λb o U e=>jq _ e,λb o hb e hO=>?_,λm p e=>?_⟩
  ·rcases hO with hO|rfl|rfl
   ·exact hb hO
   ·exact absurd (fJ e)<|q8 _
   ·exact absurd (fJ e)<|q8 _
  ·have hn:m<cf.ρ.length:=by
    rcases dm m cf.ρ.length with h|h
    ·exact h
    ·rw[gO h]at e;exact nN e
   show(cf.ρ++[_])[m]?=_;rw[iZ hn,e]
 have ok:=xx (t:=t) (ao:=.l l) S (c5.push s.heap {cls:=.type "list",data:=.seq vs n}) (bY _) (bY _) e e
  ⟨rfl,vs,⟨n,ik _ rfl⟩,hz,r.mono k l⟩
 exact⟨_,ok.1,ok.2.1,_,ok.2.2.1,q⟩
theorem gm{i:Int}{t:Tok}{h:Heap}:Rep X cf h (.i i) (.int i t):=⟨t,rfl⟩
theorem lA{b:Bool}{h:Heap}:Rep X cf h (.b b) (.bool b):=rfl
theorem kL{h:Heap}:Rep X cf h .n .none:=rfl
theorem BZ{x:String}{t:Tok}{h:Heap}:Rep X cf h (.s x) (.str (Sx x) t):=⟨t,rfl⟩
noncomputable def B0:lu->Operator
 |.a=>.Add|.s=>.Sub|.m=>.Mult|.f=>.FloorDiv|.o=>.Mod
theorem Jb{i j:Int}(hi:small i)(hj:small j):Builtin.divisionGoesByPylong i j=false:=by
 unfold Builtin.divisionGoesByPylong;have hd:∀n:Int,small n->(if n==0 then 0 else n.natAbs.log2/30+1)<=300:=λn hn=>by
  split
  ·exact PO
  ·have h1:n.natAbs<2^40:=by unfold small at hn;exact GA hn
   have h2:n.natAbs.log2<40:=by
    by_cases h0:n.natAbs=0
    ·refine rR h0 ?_;decide
    ·exact(Nat.log2_lt h0).mpr h1
   exact PR h2
 dsimp only;refine rR (dG<|by have:=hd j hj;exact PS this) ?_;rw[Bool.false_and]
set_option tactic.hygienic true in
theorem WO{i j:Int}(hi:small i)(hj:small j):IntMulOk i j:=by
 unfold IntMulOk;have h1:i.natAbs<2^40:=by unfold small at hi;exact GA hi
 have e:decide (Builtin.Int.intBits i>shortFactorBits)=false:=by
  apply dG;unfold Builtin.Int.intBits shortFactorBits;split
  ·exact PT
  ·rename_i h0;have h2:i.natAbs.log2<40:=(Nat.log2_lt<|by simpa using h0).mpr h1;exact PU h2
 refine rR e ?_;simp
theorem WQ(hA:c7 d A)(S:aU X cf s.heap)(r1:Rep X cf s.heap p1 v1)(r2:Rep X cf s.heap p2 v2)(op:lu)(h:w7 cf.H op p1 p2 λv=>Q v cf.H):
  wpAny (model X.prog X.w) A (binaryOp (B0 op) v1 v2) (bC X cf s<|GV X Q) E s:=by
 unfold w7 at h
 induction op using lu.casesOn<;>dsimp only at h<;>dsimp only[B0]
 ·rcases h with⟨i,j,rfl,rfl,q⟩|⟨l,r,hl,hr,hz,q⟩
  ·(refine X1 r1 λt aM=>?_;clear r1;subst aM);(refine X1 r2 λu aP=>?_;clear r2;subst aP)
   exact PyProof.Rows.add_int<|bC.tok S ⟨_,gm,q⟩
  ·(refine eJ (nD S r1 hl) λa vs aN aQ hza rl=>?_;clear r1;subst aN;revert aQ;refine Y1 λn ha=>?_)
   refine eJ (nD S r2 hr) λb ws aR aT hzb rr=>?_;clear r2;subst aR;revert aT;refine Y1 λm hb=>?_;have e1:vs.size=l.length:=by have:=rl.length;simpa using this
   have e2:ws.size=r.length:=by have:=rr.length;simpa using this
   exact PySem.P.add_list (items:=vs) (items2:=ws) ha hb (xG S (by refine rR Array.toList_append ?_;exact rl.append rr) (by refine rR Array.size_append<|rR e1<|rR e2 ?_;exact hz) q)<|by refine rR e1<|rR e2 ?_;exact iO hz
 ·(refine d_ h λi j aL aM q=>?_;clear h;subst aL;subst aM)
  refine X1 r1 λt aP=>?_;clear r1;subst aP;(refine X1 r2 λu aN=>?_;clear r2;subst aN);exact PyProof.Rows.sub_int'<|bC.tok S ⟨_,gm,q⟩
 ·(refine pW h λi j aQ aR hi hj q=>?_;clear h;subst aQ;subst aR)
  refine X1 r1 λt aT=>?_;clear r1;subst aT;(refine X1 r2 λu aL=>?_;clear r2;subst aL);exact PyProof.Rows.mul_int (bC.tok S ⟨_,gm,q⟩)<|WO hi hj
 ·(refine E8 h λi j aM aP hi hj h0 q=>?_;clear h;subst aM;subst aP)
  refine X1 r1 λt aN=>?_;clear r1;subst aN;(refine X1 r2 λu aQ=>?_;clear r2;subst aQ);refine PyProof.Rows.floordiv_int (Ne.symm<|Int.ne_of_lt h0) (bC.tok S ⟨_,gm,?_⟩)<|.inl<|Jb hi hj
  refine rR (Int.fdiv_eq_ediv_of_nonneg _ (Int.le_of_lt h0)) ?_;exact q
 ·(refine eJ h λi j aR aT h0 q=>?_;clear h;subst aR;subst aT)
  refine X1 r1 λt aL=>?_;clear r1;subst aL;(refine X1 r2 λu aM=>?_;clear r2;subst aM);refine PyProof.Rows.mod_int' (Ne.symm<|Int.ne_of_lt h0)<|bC.tok S ⟨_,gm,?_⟩
  refine rR (Int.fmod_eq_emod_of_nonneg _ (Int.le_of_lt h0)) ?_;exact q
set_option tactic.hygienic true in
theorem B3{k:Int}{n j:Nat}(h:gx k n=some j):seqIndex? k n=some j/\j<n/\((0<=k/\j=k.toNat)\/(k<0/\-(n:Int)<=k/\j=(k+n).toNat)):=by
 unfold gx at h;split at h
 ·split at h
  ·obtain rfl:=aK h;refine⟨?_,by(first|lia|omega),.inl ⟨by(first|lia|omega),rfl⟩⟩;rename_i h1 h2;have h0:¬k<0:=UI h1;unfold seqIndex?;simp only[h0,if_false];exact rR (bw<|by simp only[Bool.and_eq_true,decide_eq_true_eq];exact VI h1 h2) rfl
  ·exact nN h
 ·split at h
  ·obtain rfl:=aK h;exact⟨seqIndex_neg (by(first|lia|omega))<|by(first|lia|omega),by(first|lia|omega),.inr ⟨by(first|lia|omega),by(first|lia|omega),rfl⟩⟩
  ·exact nN h
theorem WR{a:Addr}{vs:dg}{k:Int}{t:Tok}{j:Nat}{x:Value}{R:cJ}(hl:s.heap.IsList a vs\/IsTup s.heap a vs)(hk:small k)(hj:gx k vs.size=some j)(hx:vs[j]?=some x)(q:R x s):
  wpAny (model X.prog X.w) A (getItem (.ref a)<|.int k t) R E s:=by
 refine U2 (B3 hj) λe hlt hc=>?_;unfold small at hk;rcases hl with hl|hl
 ·clear hj e hlt;rcases hc with⟨h0,rfl⟩|⟨h0,h1,rfl⟩
  ·exact wpAny_getItem_list hl h0 (Ah hk) hx q
  ·exact wpAny_getItem_list_neg hl h0 h1 (Ai hk) hx q
 ·exact PyProof.Rows.getItem_tuple hl (Ai hk) (Ah hk) e hx q
theorem B4:∀{ks:aY}{l:au}{vals:cz}{h:Heap}(x:String){p:PV},aO X cf h l vals->fW x ks l=some p->∃v,kH ks vals (Sx x)=some v/\Rep X cf h p v
 |[],l,vals,h,x,p,r,e=>by simp[fW]at e
 |k::ks,[],vals,h,x,p,r,e=>by simp[fW]at e
 |k::ks,q::l,vals,h,x,p,r,e=>by
  obtain⟨v,t,rfl,r1,r2⟩:=r;unfold fW at e;unfold kH;refine rR fK<|rR List.zip_cons_cons<|rR m8 ?_
  by_cases hk:k=x
  ·subst hk;rw[bw rfl]at e;obtain rfl:=aK e;exact aA v (by simp) r1
  ·rw[bO hk]at e;have q1:(Sx x==Sx k)=false:=tV.mpr λe=>hk (lq e).symm;refine rR q1 ?_;exact B4 x r2 e
theorem Jc:∀{ks:aY}{l:au}{vals:cz}{h:Heap}(x:String),aO X cf h l vals->l.length=ks.length->fW x ks l=none->kH ks vals (Sx x)=none
 |[],l,vals,h,x,r,hl,e=>by simp[kH]
 |k::ks,[],vals,h,x,r,hl,e=>by simp at hl
 |k::ks,q::l,vals,h,x,r,hl,e=>by
  obtain⟨v,t,rfl,r1,r2⟩:=r;unfold fW at e;unfold kH;refine rR fK<|rR List.zip_cons_cons<|rR m8 ?_
  by_cases hk:k=x
  ·rw[bw hk]at e;exact sN e
  ·rw[bO hk]at e;have q1:(Sx x==Sx k)=false:=tV.mpr λe=>hk (lq e).symm;refine rR q1 ?_;exact Jc x r2 (by simpa using hl) e
theorem Jd{k:Int}{n j:Nat}(h:gx k n=some j)(hn:n<=2^20):small k:=by
 obtain⟨_,h1,⟨h2,_⟩|⟨h2,h3,_⟩⟩:=B3 h
 ·have hk:k<n:=by
   unfold gx at h;rw[bw h2]at h;split at h
   ·assumption
   ·exact nN h
  exact⟨UJ h2,VJ hn hk⟩
 ·exact⟨VK hn h3,UK h2⟩
theorem WS{value slice:Expr}(S:aU X cf s.heap)(r1:Rep X cf s.heap p1 v1)(r2:Rep X cf s.heap p2 v2)(h:Am cf.H p1 p2 λv=>Q v cf.H)
  (hs:subscripted slice false v1 v2=operate [v1,v2] (getItem v1 v2)):
  wpAny (model X.prog X.w) A (subscriptTail value slice v1 v2) (bC X cf s<|GV X Q) E s:=by
 rcases h with⟨l,k,j,pv,hl,rfl,hj,hv,q⟩|⟨f,k,i,hf,rfl,hv,q⟩|⟨ks,l,x,pv,hf,rfl,hv,q⟩
 ·(refine eJ (rJ S r1 hl) λa vs aP hc hz rl=>?_;clear r1;subst aP)
  refine X1 r2 λt aN=>?_;clear r2;subst aN;refine aC (rl.get hv) λx hx rx=>?_;have e1:vs.size=l.length:=by have:=rl.length;simpa using this
  have hk:small k:=Jd hj<|FJ hz e1
  have g:=WR (X:=X) (A:=A) (E:=E) (t:=t) hc hk (by refine rR e1 ?_;exact hj) (by rw[<-qT];exact hx) (R:=bC X cf s<|GV X Q)<|bC.now S ⟨pv,rx,q⟩
  rcases hc with hc|hc
  ·exact tail_any hc.typeIs slot_list_getitem.lookup g hs
  ·exact tail_any (T:="tuple") (by refine c_ hc λo e c U=>?_;exact aA o e c) PySem.F.slot_tuple_getitem.lookup g hs
 ·(refine eJ (ux S r1 hf) λa g aQ hs' hm hi=>?_;clear r1;subst aQ)
  refine X1 r2 λt aR=>?_;clear r2;subst aR;have:=hi k;rw[hv]at this;refine X1 this λu hu=>?_;exact tail_any hm.typeIs slot_dict_getitem.lookup (wpAny_getItem_of (knd:=PySem.intKind X.prog X.w) (k:=k) (by simp[PySem.intKind,Value.isInt]) hm hu<|bC.tok S ⟨_,gm,q⟩) hs
 ·(refine pW (uy S r1 hf) λa vals aT hs' hm hlen rl=>?_;clear r1;subst aT)
  refine X1 r2 λt aL=>?_;clear r2;subst aL;refine aC (B4 x rl hv) λv e rv=>?_;exact tail_any hm.typeIs slot_dict_getitem.lookup (wpAny_getItem_of (knd:=PySem.strKind X.prog X.w) (k:=Sx x) (by simp[PySem.strKind,Value.isStrOf]) hm e<|bC.tok S ⟨_,rv,q⟩) hs
end
end
section
noncomputable def jD:Expr->Bool
 |.Call f a k _=>!(f.ctorIdx.beq 23&&a.isEmpty&&k.isEmpty)
 |_=>true
theorem Je{o:Expr}{attr:PySem.Str}{aa:Env}{whole:Sem Value}(h:jD o=true):attributeBase o attr aa whole=whole:=by
 induction o using Expr.casesOn with
 |Call f as ks p=>
  induction f using Expr.casesOn with
  |Name i q=>
   induction as using b9 with
   |nil=>induction ks using b9 with
    |nil=>exact nB h
    |cons a r=>rfl
   |cons a r=>rfl
  |_=>rfl
 |_=>rfl
theorem WT{o:Expr}{attr:PySem.Str}{aa:Env}{pos:Pos}(h:jD o=true):eval (.Attribute o attr pos) aa=(do
   let v<-eval o aa
   standAt pos.atName
   let r<-holding [v] (getAttr v attr true)
   letTemporaryGo o v r
   pure r):=by
 show(do
   let v<-attributeBase o attr aa (eval o aa)
   standAt pos.atName
   let r<-holding [v] (getAttr v attr true)
   letTemporaryGo o v r
   pure r)=_
 exact rR (Je h) rfl
theorem WU{args:bL}{aa:Env}{pos:Pos}(hst:args.all notStar=true)(hl:args.length<30):methodCallForm (args.length+([]:List Keyword).length) (backTo pos<|starEach args aa) (backToKw pos<|keywordEach [] aa)=true:=by
 have e:(backTo pos<|starEach args aa).all (λx=>!x.1)=true:=by
  have:=BQ (aa:=aa) hst pos;rw[gj];intro x hx;cases q:x.1 with
  |false=>rfl
  |true=>rw[List.any_eq_true.mpr<|aA x hx q]at this;exact tB this
 unfold methodCallForm;refine rR e ?_;show(true&&true&&decide (args.length+0+0<30))=true;simpa using hl
theorem WV{o:Expr}{name:PySem.Str}{aa:Env}{args:bL}{apos pos:Pos}(h:jD o=true)(hst:args.all notStar=true)(hl:args.length<30)(hp:apos.endLine=pos.line):
  eval (.Call (.Attribute o name apos) args [] pos) aa=(do
   let ov<-eval o aa
   standAt apos.atName
   let (f,first)<-holding [ov] (getMethod ov name<|do return (<-importBound o aa).getD true)
   callWith pos f first (backTo pos<|starEach args aa) []):=by
 show(do
   let ov<-attributeBase o name aa (eval o aa)
   standAt apos.atName
   methodCall o name apos pos aa ov (args.length+([]:List Keyword).length) (backTo pos<|starEach args aa) (backToKw pos<|keywordEach [] aa))=_
 refine rR (Je h) ?_;unfold methodCall;refine rR (WU hst hl) ?_;unfold calleeOf methodCallPos;simp only[hp,if_true,Bool.not_true,Bool.false_or,beq_self_eq_true,pure_bind];rfl
section
variable {X:Cx}{d:Nat}{aa:Env}{ai:b5}{ae:bF}{H:ak}{Q:eF}
theorem WW{value slice:Expr}{pos:Pos}(h:AE X d aa ai ae value H λv1 H'=>AE X d aa ai ae slice H' λv2 c8=>Am c8 v1 v2 λv=>Q v c8)
  (hs:∀o i,subscripted slice false o i=operate [o,i] (getItem o i)):AE X d aa ai ae (.Subscript value slice pos) H Q:=
 fm λA cf s E hA hH S R=>Subscript_<|BR h (λA cf s E v1 v2 p1 p2 hA S R r1 r2 q=>WS S r1 r2 q<|hs v1 v2) hA hH S R
set_option tactic.hygienic true in
theorem Jf{cf:Cf}{h:Heap}{p:PV}{v:Value}{c:String}{ns:aY}{l:au}(S:aU X cf h)(r:Rep X cf h p v)(e:fieldsOf cf.H p=some (c,ns,l)):
  ∃a d C es n,v=.ref a/\jQ X.K c=some C/\h.get? a=some (instObj C d)/\h.get? d=some (dictOf es n)/\jy ns es/\aO X cf h l (es.map (·.val)):=by
 induction p using d7 with
 |o c' ns' l'=>
  simp only[fieldsOf,Option.some.injEq,Prod.mk.injEq]at e;refine U2 e λaM aP aN=>?_;subst aM;clear e;subst aP;subst aN;obtain⟨a,d,C,es,n,rfl,_,_,hc,e1,e2,hk,rl⟩:=r;exact Fp a d C es n rfl hc e1 e2 hk rl
 |e m=>
  simp only[fieldsOf]at e;split at e
  ·rename_i c' ns' l' q;cases e;obtain⟨pp,e2,rfl⟩:=r;obtain⟨_,C,es,n,hc,e1,e2,hk,rl⟩:=S.rep m _ pp q e2;exact Fp pp.1 pp.2 C es n rfl hc e1 e2 hk rl
  ·exact nN e
 |_=>simp[fieldsOf]at e
theorem xH{es:List DictEntry}(h:jy [] es):es=[]:=by
 refine aC h λts e hl=>?_
 induction es using b9 with
 |nil=>rfl
 |cons x r=>simp at e
theorem uz{n:String}{ns:aY}{es:List DictEntry}(h:jy (n::ns) es):∃x r t,es=x::r/\x.key=.str (Sx n) t/\jy ns r:=by
 refine aC h λts e hl=>?_
 induction es using b9 with
 |nil=>induction ts using b9 with
  |nil=>simp at hl
  |cons t ts=>simp at e
 |cons x r=>
  induction ts using b9 with
  |nil=>simp at hl
  |cons t ts=>
   simp only[List.map_cons,List.zip_cons_cons,List.cons.injEq]at e;exact PD x r t rfl e.1 ts e.2<|by simpa using hl
theorem Jg:∀{ns:aY}{es:List DictEntry},jy ns es->es.any (·.refKey)=false
 |[],es,h=>by refine rR (xH h) ?_;rfl
 |n::ns,es,h=>by
  refine tZ (uz h) λx r t aQ hk hr=>?_;clear h;subst aQ;refine rR qY<|rR (Jg hr) ?_
  rewrite[Bool.or_false];unfold DictEntry.refKey;exact rR hk rfl
theorem xJ{a b:String}{t:Tok}:(Value.str (Sx a) t).isStr (Sx b)=decide (a=b):=by
 show(Sx a==Sx b)=_;by_cases h:a=b
 ·subst h;simp
 ·refine rR (dG h) ?_;exact tV.mpr λe=>h<|lq e
set_option tactic.hygienic true in
theorem B5{cf:Cf}{h:Heap}:∀{ns:aY}{es:List DictEntry}{l:au}{x:String}{p:PV},jy ns es->aO X cf h l (es.map (·.val))->fW x ns l=some p->
  ∃v,getL (Sx x) es=some (some v)/\Rep X cf h p v
 |[],es,l,x,p,hk,r,e=>by simp[fW]at e
 |n::ns,es,[],x,p,hk,r,e=>by simp[fW]at e
 |n::ns,es,q::l,x,p,hk,r,e=>by
  refine tZ (uz hk) λen er t aR h1 h2=>?_;clear hk;subst aR;simp only[List.map_cons,aO]at r;obtain⟨v,u,e1,r1,r2⟩:=r;refine U1 (qZ e1) λaT aL=>?_;clear e1;subst aT;subst aL;unfold fW at e;unfold getL;rw[List.find?_cons];have hs:en.key.isStr (Sx x)=decide (n=x):=by refine rR h1 ?_;exact xJ
  by_cases hx:n=x
  ·rw[bw hx]at e;obtain rfl:=aK e;refine rR hs<|rR (di hx) ?_
   exact aA _ rfl r1
  ·rw[bO hx]at e;refine aC (B5 h2 r2 e) λv g rv=>?_;refine rR hs<|rR (dG hx) ?_
   refine aA v ?_ rv;unfold getL at g;dsimp only;split at g
   ·rename_i e' he';refine rR he' ?_;exact g
   ·split at g<;>cases g
theorem Jh:∀{ns:aY}{es:List DictEntry}{x:String},jy ns es->ns.contains x=false->getL (Sx x) es=some none
 |ns,es,x,hk,e=>by
  have h:es.find? (·.key.isStr (Sx x))=none:=by
   induction ns generalizing es with
   |nil=>refine rR (xH hk) ?_;rfl
   |cons n ns ih=>
    refine tZ (uz hk) λen er t aM h1 h2=>?_;clear hk;subst aM;rw[List.contains_cons,Bool.or_eq_false_iff]at e;have hs:en.key.isStr (Sx x)=decide (n=x):=by refine rR h1 ?_;exact xJ
    rw[List.find?_cons,hs,dG<|by have:=e.1;simp at this;exactλq=>this q.symm];exact ih er h2 e.2
  unfold getL;refine rR h ?_;show(if es.any (·.refKey)=true then _ else _)=_;refine rR (Jg hk) ?_;rfl
theorem WX{cf:Cf}{h:Heap}:∀{p:PV}{v:Value},Rep X cf h p v->handedIn v=true:=by
 intro p v r
 induction p using d7 with
 |n=>obtain rfl:v=.none:=r;rfl
 |b b=>obtain rfl:v=.bool b:=r;rfl
 |i i=>(refine X1 r λt aP=>?_;clear r;subst aP);rfl
 |s i=>(refine X1 r λt aN=>?_;clear r;subst aN);rfl
 |t l=>obtain⟨a,_,rfl,_⟩:=r;rfl
 |l l=>obtain⟨a,_,rfl,_⟩:=r;rfl
 |r l=>obtain⟨a,_,rfl,_⟩:=r;rfl
 |d l=>obtain⟨a,_,rfl,_⟩:=r;rfl
 |c k l=>obtain⟨a,_,rfl,_⟩:=r;rfl
 |o c n l=>obtain⟨a,_,_,_,_,rfl,_⟩:=r;rfl
 |e n=>obtain⟨a,_,rfl⟩:=r;rfl
theorem qd{cf:Cf}{h:Heap}(T:eK X)(S:aU X cf h):X.K.In h:=λa o e=>(S.base a o<|T.wZ a o e).1
theorem o_attr{cf:Cf}{s:Shared}{A:Around}{E:cJ}{p:PV}{v:Value}{c:String}{ns:aY}{l:au}{x:String}{pv:PV}(T:eK X)(S:aU X cf s.heap)(r:Rep X cf s.heap p v)
  (hf:fieldsOf cf.H p=some (c,ns,l))(ho:w9 X c x)(hl:fW x ns l=some pv)(q:Q pv cf.H):wpAny (model X.prog X.w) A (getAttr v (Sx x) true) (bC X cf s<|GV X Q) E s:=by
 refine Fc (Jf S r hf) λa dd C es n aQ hc e1 e2 hk rl=>?_;clear r;subst aQ;refine pW ho λC' attr hc' hg hh ha hn=>?_;rw[hc]at hc';obtain rfl:=aK hc';refine aC (B5 hk rl hl) λv g rv=>?_;exact get_value (qd T S) (⟨e1,rfl,rfl,e2⟩:InstAt s.heap a (instObj C dd) C<|some<|dictOf es n) (plainGet_of hg).1 (findObj_own hh ha hn<|by rw[lookIn_dict];exact g) (WX rv)<|bC.tok S ⟨_,rv,q⟩
theorem WY{value:Expr}{x:String}{pos:Pos}(T:eK X)(WZ:jD value=true)
  (h:AE X d aa ai ae value H λva H'=>∃c ns l v,fieldsOf H' va=some (c,ns,l)/\w9 X c x/\fW x ns l=some v/\Q v H'):AE X d aa ai ae (.Attribute value (Sx x) pos) H Q:=
 fm λA cf s E hA hH S R=>Attribute_any_ (BS h (λA cf s E v1 p1 hA S R r1 q=>by
  revert q;refine Px λc ns l v hf ho hl q=>?_
  exact o_attr T S r1 hf ho hl q) hA hH S R)<|WT WZ
end
end
section
section
variable {X:Cx}{d:Nat}{aa:Env}{ai:b5}{ae:bF}{H:ak}{Q:eF}
 {cf:Cf}{s:Shared}{A:Around}{E:cJ}
theorem W0{α:Type}{l:List α}{n:Nat}{x:α}(h:l[n]?=some x):n<l.length:=by
 rcases dm n l.length with h'|h'
 ·exact h'
 ·rw[gO h']at h;exact nN h
theorem xK{n:Nat}{l l':au}{h':Heap}{vs':dg}{a:Addr}{t:Nat}(S:aU X cf s.heap)(hn:cf.H[n]?=some (some<|.l l))(r:Rep X cf s.heap (.e n)<|.ref a)
  (hl:h'.PlainList a vs')(hs:Heap.SameBut a s.heap h')(hz:vs'.size<=2^20)(rl:aO X cf s.heap l' vs'.toList):
  Step cf s (jc cf n<|.l l') {s with heap:=h',toks:=t}/\aU X (jc cf n<|.l l') h'/\Kept cf s.heap (jc cf n<|.l l') h':=by
 obtain⟨p,e2,e⟩:=r;obtain rfl:=Value.ref.inj e;obtain⟨e1,_⟩:=S.rep n _ p hn e2;have k:∀b o,b≠p.1->b≠p.2->s.heap.get? b=some o->h'.get? b=some o:=λb o h1 U e=>hs.extBut b o h1 e;have K:=xy (.l l') S hn e2 k;have z:=xA (t:=t) (eV:=.l l') S hn e2 k ⟨e1,vs',hl,hz,rl.mono K l'⟩;exact⟨z.1,z.2,K⟩
theorem rM{n:Nat}{l:au}{v:Value}(S:aU X cf s.heap)(hn:cf.H[n]?=some (some<|.l l))(r:Rep X cf s.heap (.e n) v):
  ∃a vs m,v=.ref a/\PySem.IsL s.heap a vs m/\vs.size<=2^20/\aO X cf s.heap l vs.toList:=by
 refine eJ (nD (l:=l) S r<|by simp[fh,hn]) λa vs aR aT hz rl=>?_;clear r;subst aR;revert aT;refine Y1 λm e=>?_;exact lY a vs m rfl e hz rl
theorem B6{name:PySem.Str}{id:String}{a:Addr}{vs:dg}{m:Nat}{pl:Sem Bool}{R:Value×cz->Shared->Prop}(hl:PySem.IsL s.heap a vs m)(slot:Slot "list" name id)
  (hty:typeOf (.builtin id)=pure (.type "method_descriptor"))(h:R (.builtin id,[.ref a]) s):wpAny (model X.prog X.w) A (getMethod (.ref a) name pl) R E s:=
 getMethod_builtin (aA _ hl rfl) PySem.F.plainAttrs_list slot hty (λb e=>by obtain rfl:=Value.ref.inj e;exact aA _ hl rfl) h
theorem rN{o:Expr}{name:PySem.Str}{args:bL}{apos pos:Pos}{P:eF}(h1:jD o=true)(h2:args.all notStar=true)(h3:args.length<30)(h4:apos.endLine=pos.line)
  (h:AE X d aa ai ae o H P)
  (k:∀A cf s E v p,c7 d A->aU X cf s.heap->cK X cf aa ai ae s.heap->Rep X cf s.heap p v->P p cf.H->
   wpAny (model X.prog X.w) A (getMethod v name<|do return (<-importBound o aa).getD true) (λfx s₂=>wpAny (model X.prog X.w) A (callWith pos fx.1 fx.2 (backTo pos<|starEach args aa) []) (bC X cf s<|GV X Q) E s₂) E s):
  AE X d aa ai ae (.Call (.Attribute o name apos) args [] pos) H Q:=by
 refine fm λA cf s E hA hH S R=>MethodCall_ (pl:=(do return (<-importBound o aa).getD true)) ?_<|WV h1 h2 h3 h4
 refine bz (h A cf s E hA hH S R) (λv s₁ y=>?_) λU U y=>y;obtain⟨aS,p1,st,S₁,r,q⟩:=y;exact bz (k A aS s₁ E v p1 hA S₁ (R.step S st) r q) (λfx s₂ z=>bz z (λU U y=>y.after S st) λU U y=>y) λU U y=>y
theorem mq{f:Value}{first:cz}{args:bL}{pos:Pos}{R:cJ}{P:Heap->Prop}(hst:args.all notStar=true)
  (hk:∀h,P h->∃k,(k=Keeper.frame\/k=Keeper.machine\/k=Keeper.boundFrame)/\Looks (model X.prog X.w) h (keeperOf f) k)
  (h:wpAny (model X.prog X.w) A (spliced<|backTo pos<|starEach args aa) (λvs s₁=>P s₁.heap/\wpAny (model X.prog X.w) A (call f (first++vs) []) R E s₁) E s):
  wpAny (model X.prog X.w) A (callWith pos f first (backTo pos<|starEach args aa) []) R E s:=by
 refine callWith_of (P:=P) (by rw[BQ hst];rfl) hk ?_
 induction args using b9 with
 |nil=>exactλΓ p hΓ=>evalArgs_nil3 (h Γ p hΓ) Γ p hΓ
 |cons e es=>
  rw[oj,cy]at hst;rw[rG hst.1]at h⊢;exact Calls.evalArgs_plain h
theorem oQ{id:String}(h:Heap)(_:True):∃k,(k=Keeper.frame\/k=Keeper.machine\/k=Keeper.boundFrame)/\Looks (model X.prog X.w) h (keeperOf<|.builtin id) k:=aA .machine (.inr<|.inl rfl)<|Looks.of_pure rfl
theorem B7{T:String}(h:Heap)(_:True):∃k,(k=Keeper.frame\/k=Keeper.machine\/k=Keeper.boundFrame)/\Looks (model X.prog X.w) h (keeperOf<|.type T) k:=aA .machine (.inr<|.inl rfl)<|Looks.of_pure rfl
theorem B8{a:Expr}{P:eF}(h2:notStar a=true)(h:AE X d aa ai ae a H P):fM X d aa ai ae [a] H (λvs H'=>∃v,vs=[v]/\P v H'):=
 uw h2 (h.mono λv H' q=>xC<|aA v rfl q)
theorem rO{h:Heap}{p:PV}{vs:cz}(r:aO X cf h [p] vs):∃v,vs=[v]/\Rep X cf h p v:=by obtain⟨v,t,rfl,hr,rfl⟩:=r;exact aA v rfl hr
theorem xM{h:Heap}{p q:PV}{vs:cz}(r:aO X cf h [p,q] vs):∃v u,vs=[v,u]/\Rep X cf h p v/\Rep X cf h q u:=by obtain⟨v,t,rfl,hr,u,t',rfl,hr',rfl⟩:=r;exact fg v u rfl hr hr'
theorem Ji{aI:Cf}{s':Shared}{n:Nat}{a:Addr}(S:aU X cf s.heap)(st:Step cf s aI s')(r:Rep X cf s.heap (.e n)<|.ref a):Rep X aI s'.heap (.e n) (.ref a):=r.mono (st.kept S.own) _
theorem W2{o a:Expr}{apos pos:Pos}(h1:jD o=true)(h2:notStar a=true)(h4:apos.endLine=pos.line)
  (h:AE X d aa ai ae o H λva H'=>∃n l0,va=.e n/\H'[n]?=some (some<|.l l0)/\AE X d aa ai ae a H' (λvb c8=>∃l,c8[n]?=some (some<|.l l)/\l.length<2^20/\Q .n (c8.set n<|some<|.l<|l++[vb]))):
  AE X d aa ai ae (.Call (.Attribute o "append" apos) [a] [] pos) H Q:=by
 refine rN h1 (by simp[h2]) (by show 1<30;exact zZ) h4 h λA cf s E v p hA S R r q=>?_;refine d_ q λn l0 aL hn ha=>?_;clear q;subst aL;refine kE (rM S hn r) λad W3 m0 aM B9 U U=>?_;subst aM;refine B6 B9 slot_list_append PySem.F.type_list_append ?_;refine mq (P:=λU=>True) (by simp[h2]) oQ ?_;refine bz (B8 h2 ha A cf s E pos hA rfl S R) (λvs s₁ y=>?_) λU U y=>y;obtain⟨aS,st,S₁,ps,rs,v,rfl,l,hn1,hz,q⟩:=y;refine aC (rO rs) λx aP rx=>?_;clear rs;subst aP;refine⟨trivial,?_⟩;have r1:=Ji S st r;refine kE (rM S₁ hn1 r1) λB_ rP m1 e hl1 hz1 nF=>?_;obtain rfl:=Value.ref.inj e;have e1:rP.size=l.length:=by have:=nF.length;simpa using this
 refine wpAny_list_append_plain (hsz:=iO hz1) ⟨m1,hl1⟩ λh' hp hs=>?_;refine U2 (xK (t:=s₁.toks) (l':=l++[v]) S₁ hn1 r1 hp hs (by(rewrite[Array.size_push];refine rR e1 ?_);exact PW hz)<|by refine rR Array.toList_push ?_;exact nF.append<|aO.fD rx aO.gk) λst2 S2 K2=>?_;exact⟨_,st.trans S.own st2,S2,.n,kL,q⟩
theorem W4{o a:Expr}{apos pos:Pos}(h1:jD o=true)(h2:notStar a=true)(h4:apos.endLine=pos.line)
  (h:AE X d aa ai ae o H λva H'=>∃n l0,va=.e n/\H'[n]?=some (some<|.l l0)/\AE X d aa ai ae a H' (λvb c8=>∃l r,c8[n]?=some (some<|.l l)/\fh c8 vb=some r/\l.length+r.length<=2^20/\Q .n (c8.set n<|some<|.l<|l++r))):
  AE X d aa ai ae (.Call (.Attribute o "extend" apos) [a] [] pos) H Q:=by
 refine rN h1 (by simp[h2]) (by show 1<30;exact zZ) h4 h λA cf s E v p hA S R r q=>?_;refine d_ q λn l0 aN hn ha=>?_;clear q;subst aN;refine kE (rM S hn r) λad W3 m0 aQ B9 U U=>?_;subst aQ;refine B6 B9 PySem.F.slot_list_extend PySem.F.type_list_extend ?_;refine mq (P:=λU=>True) (by simp[h2]) oQ ?_;refine bz (B8 h2 ha A cf s E pos hA rfl S R) (λvs s₁ y=>?_) λU U y=>y;obtain⟨aS,st,S₁,ps,rs,v,rfl,l,r',hn1,hlr,hz,q⟩:=y;refine aC (rO rs) λx aR rx=>?_;clear rs;subst aR;refine⟨trivial,?_⟩;have r1:=Ji S st r;refine kE (rM S₁ hn1 r1) λB_ rP m1 e hl1 hz1 nF=>?_;obtain rfl:=Value.ref.inj e;have e1:rP.size=l.length:=by have:=nF.length;simpa using this
 refine eJ (nD S₁ rx hlr) λb ws aT aL hz2 rQ=>?_;clear rx;subst aT;revert aL;refine Y1 λm2 hl2=>?_;have e2:ws.size=r'.length:=by have:=rQ.length;simpa using this
 have Ca:rP.size+ws.size<=2^20:=by refine rR e1<|rR e2 ?_;exact hz
 refine call_meets PySem.F.slot_list_extend (aA _ hl1 rfl) PySem.F.entry_list_extend (PySem.F.args_list_extend_2 _ _) (PySem.AutoSeq1.list_extend_list_list_0 ad rP m1 b ws m2 (extend_door<|iO Ca) (iO hz1)<|Nat.le_succ_of_le<|iO Ca) ⟨hl1,hl2,?_⟩;have hp:(s₁.heap.update ad (Obj.mapSeq λx=>x++ws)).PlainList ad (rP++ws):=⟨_,PySem.IsL.update hl1 λx=>x++ws⟩
 refine U2 (xK (t:=s₁.toks) (l':=l++r') S₁ hn1 r1 hp (Heap.SameBut.update ..) (by refine rR Array.size_append ?_;exact Ca)<|by refine rR Array.toList_append ?_;exact nF.append rQ) λst2 S2 K2=>?_;exact⟨_,st.trans S.own st2,S2,.n,kL,q⟩
theorem W5{o:Expr}{apos pos:Pos}(h1:jD o=true)(h4:apos.endLine=pos.line)
  (h:AE X d aa ai ae o H λva H'=>∃n l v,va=.e n/\H'[n]?=some (some<|.l<|l++[v])/\Q v (H'.set n<|some<|.l l)):
  AE X d aa ai ae (.Call (.Attribute o "pop" apos) [] [] pos) H Q:=by
 refine rN h1 rfl (by show 0<30;exact PX) h4 h λA cf s E v p hA S R r q=>?_;revert q;refine Pw λn l pv aM hn q=>?_;subst aM;refine kE (rM S hn r) λad vs m aP hl hz rl=>?_;subst aP;refine B6 hl PySem.F.slot_list_pop PySem.F.type_list_pop ?_;refine mq (P:=λU=>True) rfl oQ<|Calls.spliced_nil ⟨trivial,?_⟩
 have e1:vs.size=l.length+1:=by have:=rl.length;simpa using this
 refine aC (rl.get (k:=l.length) (p:=pv)<|by simp) λx hx rx=>?_;have hx':vs[vs.size-1]?=some x:=by rw[e1,Nat.add_sub_cancel,<-qT];exact hx
 refine call_meets PySem.F.slot_list_pop (aA _ hl rfl) PySem.F.entry_list_pop (PySem.F.args_list_pop_1 _) (PySem.MeetsSeq.list_pop_last ad vs m x hx'<|iO hz) ⟨hl,?_⟩;have ev:vs.eraseIdxIfInBounds (vs.size-1)=(vs.toList.take l.length).toArray:=by
  refine rR e1 ?_;rewrite[Nat.add_sub_cancel];unfold Array.eraseIdxIfInBounds;refine rR (dif_pos<|PY e1) ?_;apply Array.toList_inj.mp;refine rR Array.toList_eraseIdx<|rR nc ?_
  have:vs.toList.length=l.length+1:=by simpa using e1
  rewrite[List.eraseIdx_eq_take_drop_succ];refine rR (List.drop_of_length_le<|PZ this) ?_;rw[pM]
 have hp:(s.heap.update ad (Obj.mapSeq λxs=>xs.eraseIdxIfInBounds<|vs.size-1)).PlainList ad (vs.toList.take l.length).toArray:=⟨_,ev▸PySem.IsL.update hl (λxs=>xs.eraseIdxIfInBounds<|vs.size-1)⟩
 have uA:aO X cf s.heap l (vs.toList.take l.length):=by have:=rl.take l.length;rwa[List.take_left]at this
 refine U2 (xK (t:=s.toks) (l':=l) S hn r hp (Heap.SameBut.update ..) (by refine rR om<|rR gU ?_;exact P0 hz e1)<|by refine rR nc ?_;exact uA) λst2 S2 K2=>?_;exact⟨_,st2,S2,pv,rx.mono K2,q⟩
theorem Jj{Kt:Type}[DecidableEq Kt]{knd:PySem.KeyKind X.prog X.w Kt}{f:Kt->Option Value}{name:PySem.Str}{id:String}{a:Addr}{pl:Sem Bool}{R:Value×cz->Shared->Prop}(hm:s.heap.MapOf knd a f)(slot:Slot "dict" name id)
  (hty:typeOf (.builtin id)=pure (.type "method_descriptor"))(h:R (.builtin id,[.ref a]) s):wpAny (model X.prog X.w) A (getMethod (.ref a) name pl) R E s:=
 getMethod_builtin hm.typeIs PySem.F.plainAttrs_dict slot hty hm.noDict h
theorem W6{o a:Expr}{apos pos:Pos}(h1:jD o=true)(h2:notStar a=true)(h4:apos.endLine=pos.line)
  (h:AE X d aa ai ae o H λvd H'=>∃ks l,vd=.c ks l/\AE X d aa ai ae a H' (λvk c8=>∃x,vk=.s x/\Q ((fW x ks l).getD .n) c8)):
  AE X d aa ai ae (.Call (.Attribute o "get" apos) [a] [] pos) H Q:=by
 refine rN h1 (by simp[h2]) (by show 1<30;exact zZ) h4 h λA cf s E v p hA S R r q=>?_;refine gG q λks l aN ha=>?_;clear q;subst aN;refine pW (uy S r<|.inl rfl) λad vals aQ hs hm hl rl=>?_;subst aQ;refine Jj hm wm PySem.F.type_dict_get ?_;refine mq (P:=λU=>True) (by simp[h2]) oQ ?_;refine bz (B8 h2 ha A cf s E pos hA rfl S R) (λvs s₁ y=>?_) λU U y=>y;obtain⟨aS,st,S₁,ps,rs,v,rfl,x,rfl,q⟩:=y;refine aC (rO rs) λy aR rx=>?_;clear rs;subst aR;refine⟨trivial,?_⟩;refine pW (uy S₁ (r.mono<|st.kept S.own)<|.inl rfl) λB_ vals' e hs' hm' hl' uA=>?_;obtain rfl:=Value.ref.inj e;refine X1 rx λt aT=>?_;clear rx;subst aT;refine call_meetsIn wm hm'.typeIs PySem.F.entry_dict_get (PySem.F.args_dict_get_2 _ _) (meets_dict_get (PySem.strKind X.prog X.w) (k:=Sx x) ad (by simp[PySem.strKind,Value.isStrOf]) hs')<|aA _ hm' ?_
 refine bC.after S st<|bC.tok S₁ ⟨_,?_,q⟩
 cases e:fW x ks l with
 |none=>refine rR (Jc x uA (by rw[<-uA.length];exact hl') e) ?_;exact kL
 |some p=>refine aC (B4 x uA e) λv e2 rv=>?_;refine rR e2 ?_;exact rv
theorem W7{o a b:Expr}{apos pos:Pos}(h1:jD o=true)(h2:notStar a=true)(h3:notStar b=true)(h4:apos.endLine=pos.line)
  (h:AE X d aa ai ae o H λvd H'=>∃f,vd=.d f/\AE X d aa ai ae a H' (λvk c8=>AE X d aa ai ae b c8 λvv H3=>∃i j,vk=.i i/\vv=.i j/\Q (.i<|(f i).getD j) H3)):
  AE X d aa ai ae (.Call (.Attribute o "get" apos) [a,b] [] pos) H Q:=by
 refine rN h1 (by simp[h2,h3]) (by show 2<30;exact P1) h4 h λA cf s E v p hA S R r q=>?_;refine aC q λf aL ha=>?_;clear q;subst aL;refine eJ (ux S r<|.inl rfl) λad g aM hs hm hi=>?_;subst aM;refine Jj hm wm PySem.F.type_dict_get ?_;refine mq (P:=λU=>True) (by simp[h2,h3]) oQ ?_;have hes:fM X d aa ai ae [a,b] cf.H (λvs H'=>∃i j,vs=[.i i,.i j]/\Q (.i<|(f i).getD j) H'):=
  uw h2 (ha.mono λv H' q=>uw h3 (q.mono λv2 H2 q2=>xC<|by obtain⟨i,j,rfl,rfl,q⟩:=q2;exact gR i j rfl q))
 refine bz (hes A cf s E pos hA rfl S R) (λvs s₁ y=>?_) λU U y=>y;obtain⟨aS,st,S₁,ps,rs,i,j,rfl,q⟩:=y;refine d_ (xM rs) λx y aP rx ry=>?_;subst aP;refine⟨trivial,?_⟩;refine eJ (ux S₁ (r.mono<|st.kept S.own)<|.inl rfl) λB_ g' e hs' hm' hi'=>?_;obtain rfl:=Value.ref.inj e;refine X1 rx λt aN=>?_;clear rx;clear rs;subst aN;refine X1 ry λu aQ=>?_;clear ry;subst aQ;refine call_meetsIn wm hm'.typeIs PySem.F.entry_dict_get (PySem.F.args_dict_get_3 _ _ _) (meets_dict_get_default (PySem.intKind X.prog X.w) (k:=i) ad (by simp[PySem.intKind,Value.isInt]) hs' _)<|aA _ hm' ?_
 refine bC.after S st<|bC.tok S₁ ⟨_,?_,q⟩
 have:=hi' i;cases e:f i with
 |none=>rw[e]at this;refine rR this ?_;exact gm
 |some k=>rw[e]at this;refine X1 this λw e2=>?_;refine rR e2 ?_;exact gm
end
end
section
def AT(X:Cx)(d:Nat)(aa:Env)(ai:b5)(ae:bF)(e:Expr)(H:ak)(Q:Bool->ak->Prop):Prop:=
 ∀A cf s E,c7 d A->cf.H=H->aU X cf s.heap->cK X cf aa ai ae s.heap->wpAny (model X.prog X.w) A (PySem.isTrue e aa<|eval e aa) (bC X cf s<|GB Q) E s
section
variable {X:Cx}{d:Nat}{aa:Env}{ai:b5}{ae:bF}{H:ak}{Q:eF}
theorem AT.mono{e:Expr}{Q Q':Bool->ak->Prop}(h:AT X d aa ai ae e H Q)(m:∀p H,Q p H->Q' p H):AT X d aa ai ae e H Q':=
 λA cf s E a b c f=>bz (h A cf s E a b c f) (λU U y=>y.mono λU U q=>m _ _ q) λU U y=>y
theorem fM.mono{es:bL}{Q Q':au->ak->Prop}(h:fM X d aa ai ae es H Q)(m:∀p H,Q p H->Q' p H):fM X d aa ai ae es H Q':=
 λA cf s E pos a b c f=>bz (h A cf s E pos a b c f) (λU U y=>y.mono λU U ⟨ps,r,q⟩=>⟨ps,r,m _ _ q⟩) λU U y=>y
theorem Jk{k:Nat}{pos:Pos}(q:Q .n H):AE X d aa ai ae (.Constant .none k pos) H Q:=fm λA cf s E U hH S U=>by subst hH;exact PySem.wpAny_Constant_none<|bC.now S ⟨.n,kL,q⟩
theorem W8{b:Bool}{k:Nat}{pos:Pos}(q:Q (.b b) H):AE X d aa ai ae (.Constant (.bool b) k pos) H Q:=fm λA cf s E U hH S U=>by subst hH;exact PySem.wpAny_Constant_bool<|bC.now S ⟨.b b,lA,q⟩
theorem W9{i:Int}{k:Nat}{pos:Pos}(q:Q (.i i) H):AE X d aa ai ae (.Constant (.int i) k pos) H Q:=fm λA cf s E U hH S U=>by subst hH;exact PySem.wpAny_Constant_int<|bC.tok S ⟨.i i,gm,q⟩
theorem W_{x:String}{k:Nat}{pos:Pos}(q:Q (.s x) H):AE X d aa ai ae (.Constant (.str<|Sx x) k pos) H Q:=fm λA cf s E U hH S U=>by subst hH;exact PySem.wpAny_Constant_str<|bC.tok S ⟨.s x,BZ,q⟩
def Cb(X:Cx)(x:String)(p:PV):Prop:=∃v,nsIn X.K mainGlobals (Sx x)=some (some v)/\∀cf h,aU X cf h->Rep X cf h p v
theorem Jl{x:String}{v:Value}{pos:Pos}(T:eK X)(e:nsIn X.K mainGlobals (Sx x)=some (some v))(hx:aa.kindOf (Sx x)=some .globalImplicit)(hd:(Sx x==("__debug__":Str))=false)
  {A:Around}{cf:Cf}{s:Shared}{E R:cJ}(S:aU X cf s.heap)(R₀:cK X cf aa ai ae s.heap)(h:R v s):wpAny (model X.prog X.w) A (eval (.Name (Sx x) pos) aa) R E s:=by
 refine X4 T.mg λp loose mg mb TR=>?_;have xN:=TR.keeps λb o e=>(S.base b o e).1;have hv:=mg_of T.wZ TR.g e;refine Calls.Name_function_global R₀.kind hx (Calls.loadGlobal_global (mg:=mg) ?_ hv h) hd;refine rR R₀.glob ?_;exact xN.g
theorem Xa{x:String}{p:PV}{pos:Pos}(T:eK X)(g:Cb X x p)(hx:aa.kindOf (Sx x)=some .globalImplicit)(hd:(Sx x==("__debug__":Str))=false)(q:Q p H):
  AE X d aa ai ae (.Name (Sx x) pos) H Q:=fm λA cf s E U hH S R=>by
 subst hH;refine aC g λv e r=>?_;exact Jl T e hx hd S R<|bC.now S ⟨p,r cf _ S,q⟩
theorem Xb{es:bL}{k:Nat}{pos:Pos}(h:fM X d aa ai ae es H λvs H'=>vs.length<=2^20/\Q (.t vs) H'):AE X d aa ai ae (.Tuple es k pos) H Q:=by refine fm λA cf s E hA hH S R=>PySem.wpAny_Tuple ?_;refine bz (h A cf s E pos hA hH S R) (λvs s₁ y=>?_) λU U y=>y;obtain⟨aS,st,S₁,ps,rs,hl,q⟩:=y;have e:=rs.length;refine⟨iO<|e▸hl,bC.after S st ?_⟩;exact WN (t:=s₁.toks) S₁ (by refine rR nc ?_;exact rs) (by refine rR om<|rR e ?_;exact hl) q
theorem Jm{es:bL}{pos:Pos}(h:fM X d aa ai ae es H λvs H'=>vs.length<=2^20/\Q (.l vs) H'):AE X d aa ai ae (.List es pos) H Q:=by refine fm λA cf s E hA hH S R=>PySem.wpAny_List ?_;refine bz (h A cf s E pos hA hH S R) (λvs s₁ y=>?_) λU U y=>y;obtain⟨aS,st,S₁,ps,rs,hl,q⟩:=y;have e:=rs.length;refine⟨iO<|e▸hl,bC.after S st ?_⟩;exact xG (t:=s₁.toks) S₁ (by refine rR nc ?_;exact rs) (by refine rR om<|rR e ?_;exact hl) q
theorem Xc{es:bL}{pos:Pos}(h:fM X d aa ai ae es H λvs H'=>vs.length<=2^20/\ly H' (.l vs) Q):AE X d aa ai ae (.List es pos) H Q:=by refine fm λA cf s E hA hH S R=>PySem.wpAny_List ?_;refine bz (h A cf s E pos hA hH S R) (λvs s₁ y=>?_) λU U y=>y;obtain⟨aS,st,S₁,ps,rs,hl,q⟩:=y;have e:=rs.length;refine⟨iO<|e▸hl,bC.after S st ?_⟩;exact Ja (t:=s₁.toks) S₁ (by refine rR nc ?_;exact rs) (by refine rR om<|rR e ?_;exact hl) q
theorem Xd{e:Expr}{pos:Pos}(h:AE X d aa ai ae e H λv H'=>∃i,v=.i i/\Q (.i<|-i) H'):AE X d aa ai ae (.UnaryOp .USub e pos) H Q:=
 fm λA cf s E hA hH S R=>UnaryOp_ (BS h (λA cf s E v p hA S R r q=>by
  revert q;refine rg λi aR q=>?_;subst aR;refine X1 r λt aT=>?_;clear r;subst aT
  exact PyProof.Rows.neg_int<|bC.tok S ⟨_,gm,q⟩) hA hH S R)
theorem Xe{e:Expr}{pos:Pos}(h:AE X d aa ai ae e H λv H'=>∃b,v=.b b/\Q (.b<|!b) H'):AE X d aa ai ae (.UnaryOp .Not e pos) H Q:=
 fm λA cf s E hA hH S R=>UnaryOp_ (BS h (λA cf s E v p hA S R r q=>by
  revert q;refine rg λb aL q=>?_;subst aL;subst r
  exact not_of<|pV<|bC.now S ⟨_,lA,q⟩) hA hH S R)
theorem Xf{A:Around}{cf:Cf}{s:Shared}{E:cJ}{v1 v2:Value}{p1 p2:PV}(hA:c7 d A)(S:aU X cf s.heap)(r1:Rep X cf s.heap p1 v1)(r2:Rep X cf s.heap p2 v2)(op:gw)(h:mh cf.H op p1 p2 λb=>Q (.b b) cf.H):
  wpAny (model X.prog X.w) A (compareOp (gz op) v1 v2) (bC X cf s<|GV X Q) E s:=
 rK hA S r1 r2 op h λb t q=>bC.tok S ⟨_,lA,q⟩
theorem Xg{l r:Expr}{op:gw}{pos:Pos}(hm:behindInMarks (gz op) r=false)
  (h:AE X d aa ai ae l H λv1 H'=>AE X d aa ai ae r H' λv2 c8=>mh c8 op v1 v2 λb=>Q (.b b) c8):
  AE X d aa ai ae (.Compare l [gz op] [r] pos) H Q:=
 fm λA cf s E hA hH S R=>wpAny_Compare1 (BR h (λA cf s E v1 v2 p1 p2 hA S R r1 r2 q=>Xf hA S r1 r2 op q) hA hH S R) hm
theorem Xh{l r:Expr}{op:gw}{pos:Pos}{Q:Bool->ak->Prop}(hm:behindInMarks (gz op) r=false)
  (h:AE X d aa ai ae l H λv1 H'=>AE X d aa ai ae r H' λv2 c8=>mh c8 op v1 v2 λb=>Q b c8):
  AT X d aa ai ae (.Compare l [gz op] [r] pos) H Q:=by
 intro A cf s E hA hH S R;refine wpAny_isTrue_Compare1 ?_ hm;refine bz (h A cf s E hA hH S R) (λv s₁ y=>?_) λU U y=>y;obtain⟨aS,p1,st,S₁,r1,q⟩:=y;have cI:=R.step S st;refine bz (q A aS s₁ E hA rfl S₁ cI) (λv2 s₂ y=>?_) λU U y=>y;obtain⟨gy,p2,cU,S₂,r₂,q₂⟩:=y;refine rK hA S₂ (r1.mono<|cU.kept S₁.own) r₂ op q₂ λb t q=>pV ?_;exact⟨gy,(st.trans S.own cU).toks t,S₂,q⟩
theorem Jo{e:Expr}{Q:Bool->ak->Prop}(he:PySem.isTrue e aa (eval e aa)=(do let v<-eval e aa;standAt e.pos;holding [v] (truthy v)))
  (h:AE X d aa ai ae e H λv H'=>∃b,v=.b b/\Q b H'):AT X d aa ai ae e H Q:=by
 intro A cf s E hA hH S R;refine isTrue_plain (bz (h A cf s E hA hH S R) (λv s₁ y=>?_) λU U y=>y) he;obtain⟨aS,p,st,S₁,r,b,rfl,q⟩:=y;subst r;exact pV ⟨aS,st,S₁,q⟩
theorem Xi{e:Expr}{pos:Pos}{Q:Bool->ak->Prop}(h:AT X d aa ai ae e H λb H'=>Q (!b) H'):AT X d aa ai ae (.UnaryOp .Not e pos) H Q:=
 λA cf s E hA hH S R=>isTrue_not (bz (h A cf s E hA hH S R) (λb s₁ ⟨c,st,si,g⟩=>⟨c,st,si,g⟩) λU U y=>y)
theorem AT.use{α:Type}{e:Expr}{P:Bool->ak->Prop}{G:α->Cf->Shared->Prop}{k:Bool->Sem α}(h:AT X d aa ai ae e H P){A:Around}{cf:Cf}{s:Shared}{E:cJ}
  (hA:c7 d A)(hH:cf.H=H)(S:aU X cf s.heap)(R₀:cK X cf aa ai ae s.heap)
  (op:∀aS s₁ b,aU X aS s₁.heap->cK X aS aa ai ae s₁.heap->P b aS.H->wpAny (model X.prog X.w) A (k b) (bC X aS s₁ G) E s₁):
  wpAny (model X.prog X.w) A (PySem.isTrue e aa<|eval e aa) (λb s₁=>wpAny (model X.prog X.w) A (k b) (bC X cf s G) E s₁) E s:=
 bz (h A cf s E hA hH S R₀) (λb s₁ ⟨aS,st,S₁,q⟩=>bz (op aS s₁ b S₁ (R₀.step S st) q) (λU U z=>z.after S st) λU U y=>y) λU U y=>y
theorem Xj{t a b:Expr}{pos:Pos}(h:AT X d aa ai ae t H λc H'=>(c=true->AE X d aa ai ae a H' Q)/\(c=false->AE X d aa ai ae b H' Q)):AE X d aa ai ae (.IfExp t a b pos) H Q:=
 fm λA cf s E hA hH S R=>IfExp_ (by
  have z:=h.use (k:=λc=>if c then eval a aa else eval b aa) (G:=GV X Q) (E:=E) hA hH S R (λaS s₁ c S₁ cI q=>by
   induction c using cP with
   |true=>exact bz (q.1 rfl A aS s₁ E hA rfl S₁ cI) (λU U y=>xw.mp y) λU U y=>y
   |false=>exact bz (q.2 rfl A aS s₁ E hA rfl S₁ cI) (λU U y=>xw.mp y) λU U y=>y)
  exact bz z (λc s₁ y=>by induction c using cP<;>exact y) λU U y=>y)
theorem Xk{t a b:Expr}{pos:Pos}{Q:Bool->ak->Prop}(h:AT X d aa ai ae t H λc H'=>(c=true->AT X d aa ai ae a H' Q)/\(c=false->AT X d aa ai ae b H' Q)):AT X d aa ai ae (.IfExp t a b pos) H Q:=
 λA cf s E hA hH S R=>isTrue_IfExp (by
  have z:=h.use (k:=λc=>if c then PySem.isTrue a aa (eval a aa)else PySem.isTrue b aa (eval b aa)) (G:=GB Q) (E:=E) hA hH S R (λaS s₁ c S₁ cI q=>by
   induction c using cP with
   |true=>exact q.1 rfl A aS s₁ E hA rfl S₁ cI
   |false=>exact q.2 rfl A aS s₁ E hA rfl S₁ cI)
  exact bz z (λc s₁ y=>by induction c using cP<;>exact y) λU U y=>y)
noncomputable def iP(cA:Bool):BoolOp:=if cA then .And else .Or
theorem Xl{cA:Bool}{e:Expr}{pos:Pos}(h:AE X d aa ai ae e H Q):AE X d aa ai ae (.BoolOp (iP cA) [e] pos) H Q:=
 λA cf s E hA hH S R=>BoolOp_one<|h A cf s E hA hH S R
theorem Xm{cA:Bool}{e e₂:Expr}{r:bL}{pos:Pos}
  (h:AE X d aa ai ae e H λv H'=>∃b,v=.b b/\(b=cA->AE X d aa ai ae (.BoolOp (iP cA) (e₂::r) pos) H' Q)/\(b=(!cA)->Q v H')):
  AE X d aa ai ae (.BoolOp (iP cA) (e::e₂::r) pos) H Q:=by
 refine fm λA cf s E hA hH S R=>?_;have z:wpAny (model X.prog X.w) A (eval e aa) (λv s₁=>wpAny (model X.prog X.w) A (truthy v) (λc s₂=>if c=cA then wpAny (model X.prog X.w) A (eval (.BoolOp (iP cA) (e₂::r) pos) aa) (bC X cf s<|GV X Q) E s₂ else bC X cf s (GV X Q) v s₂) E s₁) E s:=by
  refine bz (h A cf s E hA hH S R) (λv s₁ y=>?_) λU U y=>y;obtain⟨aS,p,st,S₁,rr,b,rfl,q1,q2⟩:=y;have r':=rr;subst rr;refine pV ?_;by_cases hb:b=cA
  ·refine rR (bw hb) ?_;exact bz (q1 hb A aS s₁ E hA rfl S₁<|R.step S st) (λU U y=>(xw.mp y).after S st) λU U y=>y
  ·refine rR (bO hb) ?_;exact⟨aS,st,S₁,_,r',q2 (by clear r';induction b using cP<;>(clear h q1 q2;induction cA using cP)<;>first|rfl|exact absurd rfl hb)⟩
 induction cA using cP with
 |true=>exact BoolOp_and (bz z (λv s₁ y=>bz y (λc s₂ x=>by induction c using cP<;>simpa[iP]using x) λU U y=>y) λU U y=>y)
 |false=>exact BoolOp_or (bz z (λv s₁ y=>bz y (λc s₂ x=>by induction c using cP<;>simpa[iP]using x) λU U y=>y) λU U y=>y)
theorem Xn{cA:Bool}{pos:Pos}{Q:Bool->ak->Prop}(q:Q cA H):AT X d aa ai ae (.BoolOp (iP cA) [] pos) H Q:=by
 intro A cf s E hA hH S R;subst hH
 induction cA using cP with
 |true=>exact isTrue_and_nil<|bC.now S q
 |false=>exact isTrue_or_nil<|bC.now S q
theorem Xp{cA:Bool}{e:Expr}{r:bL}{pos:Pos}{Q:Bool->ak->Prop}
  (h:AT X d aa ai ae e H λb H'=>(b=cA->AT X d aa ai ae (.BoolOp (iP cA) r pos) H' Q)/\(b=(!cA)->Q b H')):
  AT X d aa ai ae (.BoolOp (iP cA) (e::r) pos) H Q:=by
 intro A cf s E hA hH S R;have z:wpAny (model X.prog X.w) A (PySem.isTrue e aa<|eval e aa) (λc s₂=>if c=cA then wpAny (model X.prog X.w) A (PySem.isTrue (.BoolOp (iP cA) r pos) aa<|eval (.BoolOp (iP cA) (e::r) pos) aa) (bC X cf s<|GB Q) E s₂ else bC X cf s (GB Q) c s₂) E s:=by
  refine bz (h A cf s E hA hH S R) (λb s₁ y=>?_) λU U y=>y;obtain⟨aS,st,S₁,q1,q2⟩:=y;by_cases hb:b=cA
  ·refine rR (bw hb) ?_;exact bz (q1 hb A aS s₁ E hA rfl S₁<|R.step S st) (λU U y=>y.after S st) λU U y=>y
  ·refine rR (bO hb) ?_;exact⟨aS,st,S₁,q2 (by induction b using cP<;>(clear h q1 q2;induction cA using cP)<;>first|rfl|exact absurd rfl hb)⟩
 induction cA using cP with
 |true=>exact isTrue_and (bz z (λc s₂ x=>by induction c using cP<;>simpa[iP]using x) λU U y=>y)
 |false=>exact isTrue_or (bz z (λc s₂ x=>by induction c using cP<;>simpa[iP]using x) λU U y=>y)
end
end
section
section
variable {X:Cx}{d:Nat}{aa:Env}{ai:b5}{ae:bF}{H:ak}{Q:eF}
theorem Xq{l r₁ r₂:Expr}{o1 o2:gw}{pos:Pos}(hm:lastMarks [gz o1,gz o2] [r₁,r₂]=false)
  (h:AE X d aa ai ae l H (λv1 H1=>AE X d aa ai ae r₁ H1 (λv2 H2=>mh H2 o1 v1 v2 (λt=>
   (t=true->AE X d aa ai ae r₂ H2 (λv3 H3=>mh H3 o2 v2 v3 λb=>Q (.b b) H3))/\(t=false->Q (.b false) H2))))):
  AE X d aa ai ae (.Compare l [gz o1,gz o2] [r₁,r₂] pos) H Q:=by
 refine fm λA cf s E hA hH S R=>Compare_chain ?_ hm;refine bz (h A cf s E hA hH S R) (λv1 s₁ y=>?_) λU U y=>y;obtain⟨aS,p1,st,S₁,r1,q⟩:=y;have cI:=R.step S st;refine chain_link (bz (q A aS s₁ E hA rfl S₁ cI) (λv2 s₂ y=>?_) λU U y=>y);obtain⟨gy,p2,cU,S₂,uB,q₂⟩:=y;have fN:=cI.step S₁ cU;have T₂:=st.trans S.own cU;refine rK hA S₂ (r1.mono<|cU.kept S₁.own) uB o1 q₂ λb t qb=>pV ?_
 induction b using cP with
 |false=>exact⟨gy,T₂.toks t,S₂,.b false,lA,qb.2 rfl⟩
 |true=>
  refine rR (bw rfl) ?_;refine chain_last (bz (qb.1 rfl A gy {s₂ with toks:=t} E hA rfl S₂ fN) (λv3 s₃ y=>?_) λU U y=>y);obtain⟨mu,p3,fO,fE,r3,q₃⟩:=y;have Cc:Rep X mu s₃.heap p2 v2:=uB.mono<|fO.kept S₂.own
  refine rK hA fE Cc r3 o2 q₃ λb t' qb=>⟨mu,((T₂.toks t).trans S.own fO).toks t',fE,.b b,lA,qb⟩
theorem Xr{l r₁ r₂:Expr}{o1 o2:gw}{pos:Pos}{Q:Bool->ak->Prop}(hm:lastMarks [gz o1,gz o2] [r₁,r₂]=false)
  (h:AE X d aa ai ae l H (λv1 H1=>AE X d aa ai ae r₁ H1 (λv2 H2=>mh H2 o1 v1 v2 (λt=>
   (t=true->AE X d aa ai ae r₂ H2 (λv3 H3=>mh H3 o2 v2 v3 λb=>Q b H3))/\(t=false->Q false H2))))):
  AT X d aa ai ae (.Compare l [gz o1,gz o2] [r₁,r₂] pos) H Q:=by
 intro A cf s E hA hH S R;refine isTrue_chain ?_ hm;refine bz (h A cf s E hA hH S R) (λv1 s₁ y=>?_) λU U y=>y;obtain⟨aS,p1,st,S₁,r1,q⟩:=y;have cI:=R.step S st;refine test_link (bz (q A aS s₁ E hA rfl S₁ cI) (λv2 s₂ y=>?_) λU U y=>y);obtain⟨gy,p2,cU,S₂,uB,q₂⟩:=y;have fN:=cI.step S₁ cU;have T₂:=st.trans S.own cU;refine rK hA S₂ (r1.mono<|cU.kept S₁.own) uB o1 q₂ λb t qb=>pV ?_
 induction b using cP with
 |false=>exact⟨gy,T₂.toks t,S₂,qb.2 rfl⟩
 |true=>
  refine rR (bw rfl) ?_;refine test_last (bz (qb.1 rfl A gy {s₂ with toks:=t} E hA rfl S₂ fN) (λv3 s₃ y=>?_) λU U y=>y);obtain⟨mu,p3,fO,fE,r3,q₃⟩:=y;have Cc:Rep X mu s₃.heap p2 v2:=uB.mono<|fO.kept S₂.own
  refine rK hA fE Cc r3 o2 q₃ λb t' qb=>pV ⟨mu,((T₂.toks t).trans S.own fO).toks t',fE,qb⟩
noncomputable def AP(X:Cx)(d:Nat)(aa:Env)(ai:b5)(ae:bF)(e:Option Expr)(H:ak)(Q:eF):Prop:=
 ∀A cf s E,c7 d A->cf.H=H->aU X cf s.heap->cK X cf aa ai ae s.heap->wpAny (model X.prog X.w) A (evalPart e aa) (Out X cf s Q) E s
theorem Xs(q:Q .n H):AP X d aa ai ae none H Q:=λA cf s E U hH S U=>by subst hH;exact wpAny_evalPart_none<|Out.now S kL q
theorem Xu{e:Expr}(h:AE X d aa ai ae e H Q):AP X d aa ai ae (some e) H Q:=λA cf s E hA hH S R=>wpAny_evalPart_some<|h A cf s E hA hH S R
theorem Xv(k:Int)(n:Nat):clipAt n k=cutAt k n:=by have h:=clipAt_cast n k;unfold cutAt;split at h<;>split<;>(first|lia|omega)
theorem part_of{cf:Cf}{h:Heap}{p:PV}{v:Value}(r:Rep X cf h p v){n dflt i:Nat}(hp:(p=.n/\i=dflt)\/∃k,p=.i k/\small k/\i=cutAt k n):
  ∃o:bK,IsPart v o/\o.elim dflt (clipAt n)=i:=by
 rcases hp with⟨rfl,rfl⟩|⟨k,rfl,_,rfl⟩
 ·subst r;exact aA none .none rfl
 ·(refine X1 r λt aM=>?_;clear r;subst aM)
  exact aA (some k) (.int k t)<|Xv k n
theorem Xw{value:Expr}{lo hi:Option Expr}{p pos:Pos}(h:AE X d aa ai ae value H λv1 H1=>AP X d aa ai ae lo H1 λv2 H2=>AP X d aa ai ae hi H2 λv3 H3=>G7 H3 v1 v2 v3 λv=>Q v H3):
  AE X d aa ai ae (.Subscript value (.Slice lo hi none p) pos) H Q:=by
 refine fm λA cf s E hA hH S R=>Subscript_ ?_;refine bz (h A cf s E hA hH S R) (λv1 s₁ y=>?_) λU U y=>y;obtain⟨aS,p1,st,S₁,r1,q⟩:=y;have cI:=R.step S st;refine wpAny_Slice (bz (q A aS s₁ E hA rfl S₁ cI) (λv2 s₂ y=>?_) λU U y=>y);obtain⟨gy,p2,cU,S₂,r2,q₂⟩:=y;have fN:=cI.step S₁ cU;have r1':=r1.mono<|cU.kept S₁.own
 refine bz (q₂ A gy s₂ E hA rfl S₂ fN) (λv3 s₃ y=>?_) λU U y=>y;obtain⟨mu,p3,fO,fE,r3,l,i,j,hl,hi',hj,q₃⟩:=y;have Jp:=r1'.mono<|fO.kept S₂.own
 have r2':=r2.mono<|fO.kept S₂.own
 have Xx:=(st.trans S.own cU).trans S.own fO;rw[evalPart_none];refine cF ?_;obtain⟨a,vs,rfl,hpl,hz,rl⟩:∃a vs,v1=.ref a/\s₃.heap.IsList a vs/\vs.size<=2^20/\aO X mu s₃.heap l vs.toList:=by
  clear r1 q q₂ r1';rcases hl with hl|rfl
  ·refine eJ (nD fE Jp hl) λa vs e hpl hz rl=>?_;exact fy a vs e hpl.isList hz rl
  ·obtain⟨a,vs,e,_,hpl,hz,rl⟩:=Jp;exact fy a vs e hpl hz rl
 have e1:vs.size=l.length:=by have:=rl.length;simpa using this
 refine aC (part_of (n:=vs.size) r2'<|by refine rR e1 ?_;exact hi') λol pl el=>?_;refine aC (part_of (n:=vs.size) (dflt:=vs.size) r3<|by refine rR e1 ?_;exact hj) λou pu eu=>?_;have hl':s₃.heap.IsList a vs:=hpl;refine tail_any (hl'.push _).typeIs slot_list_getitem.lookup (wpAny_getItem_list_slice (hl'.push _) (Heap.IsSliceOf.new ..) pl pu .none (by simp) ?_<|iO hz) rfl;have rr:aO X mu s₃.heap ((l.take j).drop i) (slicePick vs ol ou none).toList:=by
  rewrite[slicePick_plain];refine rR el<|rR eu<|rR nc<|rR List.drop_take ?_
  exact(rl.drop i).take<|j-i
 have hz':(slicePick vs ol ou none).size<=2^20:=by
  have:=rr.length;rw[qU]at this;refine rR this<|rR pO<|rR gU ?_
  exact P4 hz e1
 have g:=c5.push s₃.heap {cls:=.type "slice",data:=.fields #[v2,v3,.none]};have jE:aU X mu ({s₃ with heap:=s₃.heap.push {cls:=.type "slice",data:=.fields #[v2,v3,.none]}}:Shared).heap:=fE.grown g;have o:=xG (t:=s₃.toks) (Q:=Q) (n:=0) jE (rr.grown g) hz' q₃;exact(o.after fE<|Step.grown g).after S Xx
theorem Xy{value:Expr}{p pos p1 p2:Pos}{k:Nat}(h:AE X d aa ai ae value H λv1 H1=>∃l,fh H1 v1=some l/\Q (.l l.reverse) H1):
  AE X d aa ai ae (.Subscript value (.Slice none none (some<|.UnaryOp .USub (.Constant (.int 1) k p1) p2) p) pos) H Q:=by
 refine fm λA cf s E hA hH S R=>Subscript_ ?_;refine bz (h A cf s E hA hH S R) (λv1 s₁ y=>?_) λU U y=>y;obtain⟨aS,p1,st,S₁,r1,l,hl,q⟩:=y;refine wpAny_Slice<|wpAny_evalPart_none<|wpAny_evalPart_none<|wpAny_evalPart_some<|UnaryOp_<|PySem.wpAny_Constant_int<|PyProof.Rows.neg_int ?_
 refine eJ (nD S₁ r1 hl) λa vs aP hpl hz rl=>?_;clear r1;subst aP;have e1:vs.size=l.length:=by have:=rl.length;simpa using this
 have hl':s₁.heap.IsList a vs:=hpl.isList;refine tail_any (hl'.push _).typeIs slot_list_getitem.lookup (wpAny_getItem_list_slice (hl'.push _) (Heap.IsSliceOf.new ..) .none .none (.int _ _) (by decide) ?_<|iO hz) rfl;rw[krv_pick];have g:=c5.push s₁.heap {cls:=.type "slice",data:=.fields #[.none,.none,.int (-1)<|s₁.toks+1]};have jE:aU X aS ({s₁ with heap:=s₁.heap.push {cls:=.type "slice",data:=.fields #[.none,.none,.int (-1)<|s₁.toks+1]}}:Shared).heap:=S₁.grown g;have o:=xG (t:=s₁.toks+1+1) (Q:=Q) (n:=0) (vs:=vs.toList.reverse.toArray) jE (by refine rR nc ?_;exact rl.reverse.grown g) (by refine rR om<|rR List.length_reverse<|rR qU ?_;exact hz) q;exact(o.after S₁<|Step.grown g).after S st
end
end
section
section
variable {X:Cx}{d:Nat}{aa:Env}{ai:b5}{ae:bF}{H:ak}{Q:eF}
noncomputable def gp(X:Cx)(f:String)(v:Value):Prop:=nsIn X.K mainGlobals (Sx f)=some none/\bootBuiltins (Sx f)=some v/\Sx f≠Sx "__name__"
theorem uC{f:String}{v:Value}{pos:Pos}(T:eK X)(e:gp X f v)(hx:aa.kindOf (Sx f)=some .globalImplicit)(hd:(Sx f==("__debug__":Str))=false)
  {A:Around}{cf:Cf}{s:Shared}{E R:cJ}(S:aU X cf s.heap)(R₀:cK X cf aa ai ae s.heap)(h:R v s):wpAny (model X.prog X.w) A (eval (.Name (Sx f) pos) aa) R E s:=by
 refine X4 T.mg λp loose mg mb TR=>?_;have xN:=TR.keeps λb o e=>(S.base b o e).1;have hv:=mg_none_of T.wZ TR.g e.1;refine Calls.Name_function_global R₀.kind hx (Calls.loadGlobal_builtin (mg:=mg) (mb:=mb) ?_ hv ?_ ?_ h) hd
 ·refine rR R₀.glob ?_;exact xN.g
 ·refine rR R₀.blt ?_;exact xN.b
 ·refine rR (TR.builtins _ e.2.2) ?_;exact e.2.1
theorem Jq{f:String}{p pos:Pos}{args:bL}{v:Value}{P:au->ak->Prop}(h2:args.all notStar=true)
  (ld:∀{A:Around} {cf:Cf} {s:Shared} {E:cJ} {R:cJ},aU X cf s.heap->cK X cf aa ai ae s.heap->R v s->wpAny (model X.prog X.w) A (eval (.Name (Sx f) p) aa) R E s)
  (hk:∀cf h,aU X cf h->∃k,(k=Keeper.frame\/k=Keeper.machine\/k=Keeper.boundFrame)/\Looks (model X.prog X.w) h (keeperOf v) k)
  (h:fM X d aa ai ae args H P)
  (op:∀A cf s E vs ps,c7 d A->aU X cf s.heap->aO X cf s.heap ps vs->P ps cf.H->wpAny (model X.prog X.w) A (call v vs []) (bC X cf s<|GV X Q) E s):
  AE X d aa ai ae (.Call (.Name (Sx f) p) args [] pos) H Q:=by
 refine fm λA cf s E hA hH S R=>?_;rw[arm_eval_Call_Name'];refine a_<|ld S R ?_
 show wpAny _ A (callWith pos v [] (backTo pos<|starEach args aa) []) _ E s;refine mq (P:=λh=>∃cf,aU X cf h) h2 (λh ⟨cf,S⟩=>hk cf h S) ?_;refine bz (h A cf s E pos hA hH S R) (λvs s₁ y=>?_) λU U y=>y;obtain⟨aS,st,S₁,ps,rs,q⟩:=y;exact⟨⟨aS,S₁⟩,bz (op A aS s₁ E vs ps hA S₁ rs q) (λU U z=>z.after S st) λU U y=>y⟩
theorem Jr{f:String}{p pos:Pos}{args:bL}{v:Value}{P:au->ak->Prop}(T:eK X)(e:gp X f v)(hv:(∃id,v=.builtin id)\/∃t,v=.type t)(hx:aa.kindOf (Sx f)=some .globalImplicit)
  (hd:(Sx f==("__debug__":Str))=false)(h2:args.all notStar=true)(h:fM X d aa ai ae args H P)
  (op:∀A cf s E vs ps,c7 d A->aU X cf s.heap->aO X cf s.heap ps vs->P ps cf.H->wpAny (model X.prog X.w) A (call v vs []) (bC X cf s<|GV X Q) E s):
  AE X d aa ai ae (.Call (.Name (Sx f) p) args [] pos) H Q:=by
 refine Jq h2 (λS R h=>uC T e hx hd S R h) (λcf h S=>?_) h op;clear e op;rcases hv with⟨id,rfl⟩|⟨t,rfl⟩
 ·exact oQ h trivial
 ·exact B7 h trivial
end
section
variable {X:Cx}{d:Nat}{A:Around}{cf:Cf}{s:Shared}{E:cJ}{Q:eF}{v:Value}{p:PV}
theorem Xz{l:au}(S:aU X cf s.heap)(r:Rep X cf s.heap p v)(hl:e_ cf.H p=some l)(q:Q (.i l.length) cf.H):wpAny (model X.prog X.w) A (call (.builtin "len") [v] []) (bC X cf s<|GV X Q) E s:=by
 refine eJ (rJ S r hl) λa vs aN hc hz rl=>?_;clear r;subst aN;have e1:vs.size=l.length:=by have:=rl.length;simpa using this
 have hfit:(vs.size:Int)<2^63:=by have:vs.size<=2^20:=hz;exact P5 hz
 have fin:bC X cf s (GV X Q) (.int vs.size<|s.toks+1) {s with toks:=s.toks+1+1}:=bC.tok S ⟨.i l.length,by refine rR e1 ?_;exact gm,q⟩;rcases hc with hc|hc
 ·exact Calls.call_len_list hc hfit fin
 ·exact PyProof.Rows.len_tuple hc hfit fin
theorem XA{h':Heap}{a:Addr}{l:au}{vs:dg}(S:aU X cf s.heap)(g:c5 s.heap h')(ha:s.heap.objs.size<=a)(hl:h'.PlainList a vs)(hz:vs.size<=2^20)(r:aO X cf s.heap l vs.toList):
  Rep X cf h' (.l l) (.ref a):=by
 exact⟨a,vs,rfl,rF S ha,hl,hz,r.grown g⟩
theorem XC{h':Heap}{a:Addr}{l:au}{vs:dg}{t:Nat}(S:aU X cf s.heap)(g:c5 s.heap h')(ha:s.heap.objs.size<=a)(hl:h'.PlainList a vs)(hz:vs.size<=2^20)(r:aO X cf s.heap l vs.toList)
  (q:ly cf.H (.l l) Q):bC X cf s (GV X Q) (.ref a) {s with heap:=h',toks:=t}:=by
 have e:=oE hl;have k:Kept cf s.heap (eU cf a a<|.l l) h':=by
  refine⟨λb o U e=>g b o e,λb o hb ee hO=>?_,λm p e=>?_⟩
  ·have hne:b≠a:=λq=>by rw[q,jB ha]at ee;exact nN ee
   rcases hO with hO|hO|hO
   ·exact hb hO
   ·exact hne hO
   ·exact hne hO
  ·have hn:m<cf.ρ.length:=by
    rcases dm m cf.ρ.length with h|h
    ·exact h
    ·rw[gO h]at e;exact nN e
   show(cf.ρ++[_])[m]?=_;rw[iZ hn,e]
 have ok:=xx (t:=t) (ao:=.l l) S g ha ha e e ⟨rfl,vs,hl,hz,r.mono k l⟩;exact⟨_,ok.1,ok.2.1,_,ok.2.2.1,q⟩
theorem Js{a:Addr}{vs:dg}(hc:s.heap.IsList a vs\/IsTup s.heap a vs):∃(T:String)(o:Obj)(n:Nat),(T="list"\/T="tuple")/\s.heap.get? a=some o/\o.cls=.type T/\o.data=.seq vs n:=by
 rcases hc with⟨o,e,c,n,dd⟩|⟨o,e,c,n,dd⟩
 ·exact lY ("list") o n (.inl rfl) e c dd
 ·exact lY ("tuple") o n (.inr rfl) e c dd
theorem XD{l:au}(S:aU X cf s.heap)(r:Rep X cf s.heap p v)(hl:e_ cf.H p=some l)(q:Q (.l l) cf.H):wpAny (model X.prog X.w) A (call (.type "list") [v] []) (bC X cf s<|GV X Q) E s:=by
 refine eJ (rJ S r hl) λa vs aQ hc hz rl=>?_;clear r;subst aQ;refine kE (Js hc) λT o n hT ho hcl hd=>?_;refine call_list_seq a hT ho hcl hd (λh' c' hk hg=>?_)<|iO hz
 exact bC.grown (t:=s.toks) S hk ⟨.l l,XA S hk (bY _) ⟨c',hg⟩ hz rl,q⟩
theorem XE{l:au}(S:aU X cf s.heap)(r:Rep X cf s.heap p v)(hl:e_ cf.H p=some l)(q:ly cf.H (.l l) Q):wpAny (model X.prog X.w) A (call (.type "list") [v] []) (bC X cf s<|GV X Q) E s:=by
 refine eJ (rJ S r hl) λa vs aR hc hz rl=>?_;clear r;subst aR;refine kE (Js hc) λT o n hT ho hcl hd=>?_;refine call_list_seq a hT ho hcl hd (λh' c' hk hg=>?_)<|iO hz
 exact XC (t:=s.toks) S hk (bY _) ⟨c',hg⟩ hz rl q
theorem Cd{h:Heap}:∀{l:au}{ns:bk}{vs:cz},intsOf l=some ns->aO X cf h l vs->IntsAre vs ns
 |[],ns,vs,e,r=>by obtain rfl:=aK e;subst r;exact .nil
 |p::ps,ns,vs,e,r=>by
  obtain⟨v,t,rfl,hr,hs⟩:=r
  induction p using d7 with
  |i i=>
   simp only[intsOf,Option.map_eq_some_iff]at e;refine aC e λms e1 aT=>?_;clear e;subst aT;refine X1 hr λu aL=>?_;clear hr;subst aL;exact .cons _ _ (Cd e1 hs)
  |_=>simp[intsOf]at e
theorem Ce{h:Heap}:∀{ns:bk}{vs:cz},IntsAre vs ns->aO X cf h (ns.map PV.i) vs
 |[],vs,r=>by refine rR r.nil_inv ?_;exact aO.gk
 |n::ns,vs,r=>by refine gG r.cons_inv λt vs' aM r'=>?_;clear r;subst aM;exact aO.fD gm<|Ce r'
theorem XF{l:au}{ns:bk}(S:aU X cf s.heap)(r:Rep X cf s.heap p v)(hl:fh cf.H p=some l)(hn:intsOf l=some ns)(h64:ns.length<64)(q:Q (.l<|(sortedZ ns).map .i) cf.H):
  wpAny (model X.prog X.w) A (call (.builtin "sorted") [v] []) (bC X cf s<|GV X Q) E s:=by
 refine eJ (nD S r hl) λa vs aP hpl hz rl=>?_;clear r;subst aP;have hI:=Cd hn rl;have hl':s.heap.IsList a vs.toList.toArray:=by refine rR Array.toArray_toList ?_;exact hpl.isList
 refine PyProof.Rows.sorted_ints hl' hI (by refine rR hI.length ?_;exact h64) λout ns' h1 h2 h3=>?_;have e:ns'=sortedZ ns:=by
  have p1:(sortedZ ns).Perm ns:=List.mergeSort_perm ns _;have p2:(sortedZ ns).Pairwise (·<=·):=by have:=List.pairwise_mergeSort (le:=λa b:Int=>decide<|a<=b) (λa b c=>by simp;exact UL) (λa b=>by simp;exact GC) ns;simpa[sortedZ]using this
  exact List.Perm.eq_of_pairwise (λa b U U h1 h2=>GD h1 h2) h3 p2<|h2.trans p1.symm
 clear h3;subst e;refine X1 (sortedAll_at s.heap vs.toList out) λc hc=>?_;have g:c5 s.heap (sortedAll s.heap vs.toList out):=λb o e=>sortedAll_old e;have hz':out.size<=2^20:=by have e1:=h1.length;have e2:=h2.length_eq;have e3:=hI.length;rw[qU]at e1 e3;exact P6 h64 e1 e2
 have rr:Rep X cf (sortedAll s.heap vs.toList out) (.l<|(sortedZ ns).map .i) (.ref<|s.heap.objs.size+1):=by exact⟨_,out,rfl,rF S<|Nat.le_succ _,⟨c,hc⟩,hz',Ce h1⟩
 exact bC.grown (t:=s.toks) S g ⟨_,rr,q⟩
theorem XG{i j:Int}{t u:Tok}(hA:c7 d A)(S:aU X cf s.heap)(q:Q (.i<|min i j) cf.H):wpAny (model X.prog X.w) A (call (.builtin "min") [.int i t,.int j u] []) (bC X cf s<|GV X Q) E s:=
 min_two_ints hA.hh λh' tk hk=>bC.grown (t:=tk) S hk ⟨.i<|min i j,by
  by_cases h:j<i
  ·refine rR (bw h)<|rR (Int.min_eq_right<|Int.le_of_lt h) ?_;exact gm
  ·refine rR (bO h)<|rR (Int.min_eq_left<|GF h) ?_;exact gm,q⟩
theorem XH{i j:Int}{t u:Tok}(hA:c7 d A)(S:aU X cf s.heap)(q:Q (.i<|max i j) cf.H):wpAny (model X.prog X.w) A (call (.builtin "max") [.int i t,.int j u] []) (bC X cf s<|GV X Q) E s:=
 max_two_ints hA.hh λh' tk hk=>bC.grown (t:=tk) S hk ⟨.i<|max i j,by
  by_cases h:j>i
  ·refine rR (bw h)<|rR (Int.max_eq_right<|Int.le_of_lt h) ?_;exact gm
  ·refine rR (bO h)<|rR (Int.max_eq_left<|UM h) ?_;exact gm,q⟩
theorem Jt(f:Nat->Int):∀k,argBest (λi j=>decide<|f i<f j) k<=k/\∀i,i<=k->f (argBest (λi j=>decide<|f i<f j) k)<=f i
 |0=>⟨bY _,λi hi=>by refine rR (Nat.le_zero.mp hi) ?_;exact k_ _⟩
 |k+1=>by
  refine U1 (Jt f k) λh1 h2=>?_;simp only[argBest];by_cases h:f (k+1)<f (argBest (λi j=>decide<|f i<f j) k)
  ·refine rR (bw<|by simpa using h) ?_;refine⟨bY _,λi hi=>?_⟩;rcases dm i (k+1)with h'|h'
   ·have:=h2 i<|FN h';exact GG h this
   ·refine rR (eI hi h') ?_;exact k_ _
  ·refine rR (bO<|by simpa using h) ?_;refine⟨l8 h1,λi hi=>?_⟩;rcases dm i (k+1)with h'|h'
   ·exact h2 i<|FN h'
   ·refine rR (eI hi h') ?_;exact GF h
theorem Ju:∀(ns:bk)(n:Int),ns.foldl min n<=n/\(∀x∈ns,ns.foldl min n<=x)/\(ns.foldl min n=n\/ns.foldl min n∈ns)
 |[],n=>⟨k_ _,λx h=>(by cases h),Or.inl rfl⟩
 |m::ns,n=>by
  refine U2 (Ju ns<|min n m) λh1 h2 h3=>?_;refine rR pN ?_;refine⟨GH h1,λx hx=>?_,?_⟩
  ·clear h3;rcases eO.mp hx with rfl|hx
   ·exact GI h1
   ·exact h2 x hx
  ·rcases h3 with h3|h3
   ·refine rR h3 ?_;by_cases h:n<=m
    ·left;exact UN h
    ·right;refine rR (show min n m=m from UO h) ?_;exact cR
   ·exact .inr<|dh _ h3
theorem Jv:∀{vs:cz}{ns:bk},IntsAre vs ns->∃ps:List<|Int×Tok,vs=ps.map (λp=>Value.int p.1 p.2)/\ps.map (·.1)=ns
 |_,[],r=>aA [] (by refine rR r.nil_inv ?_;rfl) rfl
 |_,n::ns,r=>by refine gG r.cons_inv λt vs' aN r'=>?_;subst aN;refine aC (Jv r') λps aQ aR=>?_;clear r' r;subst aQ;subst aR;exact aA ((n,t)::ps) rfl rfl
theorem XI{l:au}{n:Int}{ns:bk}(hA:c7 d A)(S:aU X cf s.heap)(r:Rep X cf s.heap p v)(hl:fh cf.H p=some l)(hn:intsOf l=some (n::ns))(q:Q (.i<|ns.foldl min n) cf.H):
  wpAny (model X.prog X.w) A (call (.builtin "min") [v] []) (bC X cf s<|GV X Q) E s:=by
 refine eJ (nD S r hl) λa vs aT hpl hz rl=>?_;clear r;subst aT;have hI:=Cd hn rl;refine aC (Jv hI) λps e1 e2=>?_;have ev:vs=intItems ps.toArray:=by apply Array.toList_inj.mp;refine rR e1 ?_;simp[intItems]
 have hsz:ps.length=ns.length+1:=by have:=congrArg List.length e2;simpa using this
 refine min_intList (xs:=ps.toArray) hA.hh (by refine rL ev ?_;exact hpl.isList) (by refine rR om ?_;exact P7 hsz) λv h' tk hv hk=>?_;refine X1 (intItems_at hv) λt aL=>?_;clear hv;subst aL;refine U1 (Jt (numAt ps.toArray)<|ps.toArray.size-1) λb1 b2=>?_;have at':∀i,i<ps.length->(n::ns)[i]?=some (numAt ps.toArray i):=λi hi=>by rw[<-e2,cQ];simp[numAt,List.getElem?_eq_getElem hi]
 have e:numAt ps.toArray (argBest (λi j=>decide<|numAt ps.toArray i<numAt ps.toArray j)<|ps.toArray.size-1)=ns.foldl min n:=by
  rw[om]at b1 b2⊢;refine U2 (Ju ns n) λf1 f2 f3=>?_;have all:∀x∈n::ns,ns.foldl min n<=x:=λx hx=>by
   clear hn q hI e2 at' f3;rcases eO.mp hx with rfl|hx
   ·exact f1
   ·exact f2 x hx
  have mem:ns.foldl min n∈n::ns:=by
   rcases f3 with f3|f3
   ·refine rR f3 ?_;exact cR
   ·exact dh _ f3
  obtain⟨i,hi,hi'⟩:=List.mem_iff_getElem.mp mem;have hi2:i<ps.length:=by refine rR hsz ?_;simpa using hi
  have g1:=b2 i<|FO hi2
  have g2:=at' i hi2;rw[eE hi,hi']at g2;have g2:=aK g2;have g3:=at' _ (show argBest (λi j=>decide<|numAt ps.toArray i<numAt ps.toArray j) (ps.length-1)<ps.length from P8 hsz b1);have g4:=all _ (dY g3);exact UP g1 g2 g4
 refine rR e ?_;exact bC.grown (t:=tk) S hk ⟨_,gm,q⟩
theorem XJ{b:Bool}(S:aU X cf s.heap)(r:Rep X cf s.heap p v)(h:(∃c,p=.b c/\b=true)\/((p=.n\/(∃i,p=.i i)\/∃x,p=.s x)/\b=false))(q:Q (.b b) cf.H):
  wpAny (model X.prog X.w) A (call (.builtin "isinstance") [v,.type "bool"] []) (bC X cf s<|GV X Q) E s:=by
 rcases h with⟨c,rfl,rfl⟩|⟨rfl|⟨i,rfl⟩|⟨x,rfl⟩,rfl⟩
 ·obtain rfl:v=.bool c:=r;exact IsiPair.bool_bool<|bC.now S ⟨_,lA,q⟩
 ·obtain rfl:v=.none:=r;exact IsiPair.NoneType_bool<|bC.tok S ⟨_,lA,q⟩
 ·(refine X1 r λt aM=>?_;clear r;subst aM);exact IsiPair.int_bool<|bC.tok S ⟨_,lA,q⟩
 ·(refine X1 r λt aP=>?_;clear r;subst aP);exact IsiPair.str_bool<|bC.tok S ⟨_,lA,q⟩
end
end
section
theorem band{a b:Bool}(h:(a&&b)=true):a=true/\b=true:=by induction a using cP<;>induction b using cP<;>first|exact⟨rfl,rfl⟩|exact nB h
theorem dz{c:Bool}{f:c=true->Bool}(h:(if h:c=true then f h else false)=true):c=true:=by induction c using cP<;>first|rfl|exact nB h
noncomputable def Jw(k:Nat)(e:Stmt):Bool:=Nat.beq e.ctorIdx k
noncomputable def xO(q:BoolOp->bL->Bool)(e:Expr):Bool:=if h:Nat.beq e.ctorIdx 0=true then Expr.BoolOp.elim (motive_1:=λU=>Bool) e (b_ h) (λo l U=>q o l)else false
@[elab_as_elim] theorem Jx{q:BoolOp->bL->Bool}{M:Expr->Prop}(e:Expr)(h:xO q e=true)(K:∀o l p,q o l=true->M (.BoolOp o l p)):M e:=
 Expr.BoolOp.elim (motive_1:=λe=>xO q e=true->M e) e (b_<|dz h) (λo l p h=>K o l p h) h
theorem XK{q e}(h:xO q e=true):Expr.ctorIdx e=0:=b_<|dz h
noncomputable def uD(q:Expr->Operator->Expr->Bool)(e:Expr):Bool:=if h:Nat.beq e.ctorIdx 2=true then Expr.BinOp.elim (motive_1:=λU=>Bool) e (b_ h) (λl o r U=>q l o r)else false
@[elab_as_elim] theorem Jy{q:Expr->Operator->Expr->Bool}{M:Expr->Prop}(e:Expr)(h:uD q e=true)(K:∀l o r p,q l o r=true->M (.BinOp l o r p)):M e:=
 Expr.BinOp.elim (motive_1:=λe=>uD q e=true->M e) e (b_<|dz h) (λl o r p h=>K l o r p h) h
theorem XM{q e}(h:uD q e=true):Expr.ctorIdx e=2:=b_<|dz h
noncomputable def rS(q:UnaryOp->Expr->Bool)(e:Expr):Bool:=if h:Nat.beq e.ctorIdx 3=true then Expr.UnaryOp.elim (motive_1:=λU=>Bool) e (b_ h) (λo x U=>q o x)else false
@[elab_as_elim] theorem uE{q:UnaryOp->Expr->Bool}{M:Expr->Prop}(e:Expr)(h:rS q e=true)(K:∀o x p,q o x=true->M (.UnaryOp o x p)):M e:=
 Expr.UnaryOp.elim (motive_1:=λe=>rS q e=true->M e) e (b_<|dz h) (λo x p h=>K o x p h) h
theorem XN{q e}(h:rS q e=true):Expr.ctorIdx e=3:=b_<|dz h
noncomputable def xP(q:Expr->Expr->Expr->Bool)(e:Expr):Bool:=if h:Nat.beq e.ctorIdx 5=true then Expr.IfExp.elim (motive_1:=λU=>Bool) e (b_ h) (λt a b U=>q t a b)else false
@[elab_as_elim] theorem Jz{q:Expr->Expr->Expr->Bool}{M:Expr->Prop}(e:Expr)(h:xP q e=true)(K:∀t a b p,q t a b=true->M (.IfExp t a b p)):M e:=
 Expr.IfExp.elim (motive_1:=λe=>xP q e=true->M e) e (b_<|dz h) (λt a b p h=>K t a b p h) h
theorem XO{q e}(h:xP q e=true):Expr.ctorIdx e=5:=b_<|dz h
noncomputable def rT(q:(List<|Option Expr)->bL->Bool)(e:Expr):Bool:=if h:Nat.beq e.ctorIdx 6=true then Expr.Dict.elim (motive_1:=λU=>Bool) e (b_ h) (λk v U=>q k v)else false
@[elab_as_elim] theorem Cg{q:(List<|Option Expr)->bL->Bool}{M:Expr->Prop}(e:Expr)(h:rT q e=true)(K:∀k v p,q k v=true->M (.Dict k v p)):M e:=
 Expr.Dict.elim (motive_1:=λe=>rT q e=true->M e) e (b_<|dz h) (λk v p h=>K k v p h) h
theorem XQ{q e}(h:rT q e=true):Expr.ctorIdx e=6:=b_<|dz h
noncomputable def xQ(q:Expr->(List Comprehension)->Scope->Bool)(e:Expr):Bool:=if h:Nat.beq e.ctorIdx 8=true then Expr.ListComp.elim (motive_1:=λU=>Bool) e (b_ h) (λt g s U=>q t g s)else false
@[elab_as_elim] theorem JA{q:Expr->(List Comprehension)->Scope->Bool}{M:Expr->Prop}(e:Expr)(h:xQ q e=true)(K:∀t g s p,q t g s=true->M (.ListComp t g s p)):M e:=
 Expr.ListComp.elim (motive_1:=λe=>xQ q e=true->M e) e (b_<|dz h) (λt g s p h=>K t g s p h) h
theorem XR{q e}(h:xQ q e=true):Expr.ctorIdx e=8:=b_<|dz h
noncomputable def uF(q:Expr->(List CmpOp)->bL->Bool)(e:Expr):Bool:=if h:Nat.beq e.ctorIdx 15=true then Expr.Compare.elim (motive_1:=λU=>Bool) e (b_ h) (λl o r U=>q l o r)else false
@[elab_as_elim] theorem xR{q:Expr->(List CmpOp)->bL->Bool}{M:Expr->Prop}(e:Expr)(h:uF q e=true)(K:∀l o r p,q l o r=true->M (.Compare l o r p)):M e:=
 Expr.Compare.elim (motive_1:=λe=>uF q e=true->M e) e (b_<|dz h) (λl o r p h=>K l o r p h) h
theorem XS{q e}(h:uF q e=true):Expr.ctorIdx e=15:=b_<|dz h
noncomputable def uG(q:Expr->bL->(List Keyword)->Pos->Bool)(e:Expr):Bool:=if h:Nat.beq e.ctorIdx 16=true then Expr.Call.elim (motive_1:=λU=>Bool) e (b_ h) (λf a k p=>q f a k p)else false
@[elab_as_elim] theorem JB{q:Expr->bL->(List Keyword)->Pos->Bool}{M:Expr->Prop}(e:Expr)(h:uG q e=true)(K:∀f a k p,q f a k p=true->M (.Call f a k p)):M e:=
 Expr.Call.elim (motive_1:=λe=>uG q e=true->M e) e (b_<|dz h) (λf a k p h=>K f a k p h) h
theorem XT{q e}(h:uG q e=true):Expr.ctorIdx e=16:=b_<|dz h
noncomputable def oR(q:Const->Bool)(e:Expr):Bool:=if h:Nat.beq e.ctorIdx 19=true then Expr.Constant.elim (motive_1:=λU=>Bool) e (b_ h) (λc U U=>q c)else false
@[elab_as_elim] theorem uH{q:Const->Bool}{M:Expr->Prop}(e:Expr)(h:oR q e=true)(K:∀c k p,q c=true->M (.Constant c k p)):M e:=
 Expr.Constant.elim (motive_1:=λe=>oR q e=true->M e) e (b_<|dz h) (λc k p h=>K c k p h) h
theorem XU{q e}(h:oR q e=true):Expr.ctorIdx e=19:=b_<|dz h
noncomputable def rU(q:Expr->PySem.Str->Pos->Bool)(e:Expr):Bool:=if h:Nat.beq e.ctorIdx 20=true then Expr.Attribute.elim (motive_1:=λU=>Bool) e (b_ h) (λv y p=>q v y p)else false
@[elab_as_elim] theorem Ci{q:Expr->PySem.Str->Pos->Bool}{M:Expr->Prop}(e:Expr)(h:rU q e=true)(K:∀v y p,q v y p=true->M (.Attribute v y p)):M e:=
 Expr.Attribute.elim (motive_1:=λe=>rU q e=true->M e) e (b_<|dz h) (λv y p h=>K v y p h) h
theorem XW{q e}(h:rU q e=true):Expr.ctorIdx e=20:=b_<|dz h
noncomputable def qe(q:Expr->Expr->Bool)(e:Expr):Bool:=if h:Nat.beq e.ctorIdx 21=true then Expr.Subscript.elim (motive_1:=λU=>Bool) e (b_ h) (λv s U=>q v s)else false
@[elab_as_elim] theorem xS{q:Expr->Expr->Bool}{M:Expr->Prop}(e:Expr)(h:qe q e=true)(K:∀v s p,q v s=true->M (.Subscript v s p)):M e:=
 Expr.Subscript.elim (motive_1:=λe=>qe q e=true->M e) e (b_<|dz h) (λv s p h=>K v s p h) h
theorem XX{q e}(h:qe q e=true):Expr.ctorIdx e=21:=b_<|dz h
noncomputable def mw(q:PySem.Str->Bool)(e:Expr):Bool:=if h:Nat.beq e.ctorIdx 23=true then Expr.Name.elim (motive_1:=λU=>Bool) e (b_ h) (λy U=>q y)else false
@[elab_as_elim] theorem qf{q:PySem.Str->Bool}{M:Expr->Prop}(e:Expr)(h:mw q e=true)(K:∀y p,q y=true->M (.Name y p)):M e:=
 Expr.Name.elim (motive_1:=λe=>mw q e=true->M e) e (b_<|dz h) (λy p h=>K y p h) h
theorem XY{q e}(h:mw q e=true):Expr.ctorIdx e=23:=b_<|dz h
noncomputable def rV(q:bL->Bool)(e:Expr):Bool:=if h:Nat.beq e.ctorIdx 24=true then Expr.List.elim (motive_1:=λU=>Bool) e (b_ h) (λl U=>q l)else false
@[elab_as_elim] theorem Cj{q:bL->Bool}{M:Expr->Prop}(e:Expr)(h:rV q e=true)(K:∀l p,q l=true->M (.List l p)):M e:=
 Expr.List.elim (motive_1:=λe=>rV q e=true->M e) e (b_<|dz h) (λl p h=>K l p h) h
theorem XZ{q e}(h:rV q e=true):Expr.ctorIdx e=24:=b_<|dz h
noncomputable def rW(q:bL->Bool)(e:Expr):Bool:=if h:Nat.beq e.ctorIdx 25=true then Expr.Tuple.elim (motive_1:=λU=>Bool) e (b_ h) (λl U U=>q l)else false
@[elab_as_elim] theorem Ck{q:bL->Bool}{M:Expr->Prop}(e:Expr)(h:rW q e=true)(K:∀l k p,q l=true->M (.Tuple l k p)):M e:=
 Expr.Tuple.elim (motive_1:=λe=>rW q e=true->M e) e (b_<|dz h) (λl k p h=>K l k p h) h
theorem X0{q e}(h:rW q e=true):Expr.ctorIdx e=25:=b_<|dz h
noncomputable def xT(q:(Option Expr)->(Option Expr)->(Option Expr)->Bool)(e:Expr):Bool:=if h:Nat.beq e.ctorIdx 26=true then Expr.Slice.elim (motive_1:=λU=>Bool) e (b_ h) (λa b c U=>q a b c)else false
@[elab_as_elim] theorem JC{q:(Option Expr)->(Option Expr)->(Option Expr)->Bool}{M:Expr->Prop}(e:Expr)(h:xT q e=true)(K:∀a b c p,q a b c=true->M (.Slice a b c p)):M e:=
 Expr.Slice.elim (motive_1:=λe=>xT q e=true->M e) e (b_<|dz h) (λa b c p h=>K a b c p h) h
noncomputable def Cm(q:(Option Expr)->Bool)(e:Stmt):Bool:=if h:Nat.beq e.ctorIdx 3=true then Stmt.Return.elim (motive_2:=λU=>Bool) e (b_ h) (λv U=>q v)else false
@[elab_as_elim] theorem X5{q:(Option Expr)->Bool}{M:Stmt->Prop}(e:Stmt)(h:Cm q e=true)(K:∀v p,q v=true->M (.Return v p)):M e:=
 Stmt.Return.elim (motive_2:=λe=>Cm q e=true->M e) e (b_<|dz h) (λv p h=>K v p h) h
noncomputable def rX(q:bL->Expr->Bool)(e:Stmt):Bool:=if h:Nat.beq e.ctorIdx 5=true then Stmt.Assign.elim (motive_2:=λU=>Bool) e (b_ h) (λt v U=>q t v)else false
@[elab_as_elim] theorem xU{q:bL->Expr->Bool}{M:Stmt->Prop}(e:Stmt)(h:rX q e=true)(K:∀t v p,q t v=true->M (.Assign t v p)):M e:=
 Stmt.Assign.elim (motive_2:=λe=>rX q e=true->M e) e (b_<|dz h) (λt v p h=>K t v p h) h
noncomputable def Cn(q:Expr->Expr->(List Stmt)->(List Stmt)->Bool)(e:Stmt):Bool:=if h:Nat.beq e.ctorIdx 9=true then Stmt.For.elim (motive_2:=λU=>Bool) e (b_ h) (λt i b c U=>q t i b c)else false
@[elab_as_elim] theorem X7{q:Expr->Expr->(List Stmt)->(List Stmt)->Bool}{M:Stmt->Prop}(e:Stmt)(h:Cn q e=true)(K:∀t i b c p,q t i b c=true->M (.For t i b c p)):M e:=
 Stmt.For.elim (motive_2:=λe=>Cn q e=true->M e) e (b_<|dz h) (λt i b c p h=>K t i b c p h) h
noncomputable def Co(q:Expr->(List Stmt)->(List Stmt)->Bool)(e:Stmt):Bool:=if h:Nat.beq e.ctorIdx 11=true then Stmt.While.elim (motive_2:=λU=>Bool) e (b_ h) (λt b c U=>q t b c)else false
@[elab_as_elim] theorem X8{q:Expr->(List Stmt)->(List Stmt)->Bool}{M:Stmt->Prop}(e:Stmt)(h:Co q e=true)(K:∀t b c p,q t b c=true->M (.While t b c p)):M e:=
 Stmt.While.elim (motive_2:=λe=>Co q e=true->M e) e (b_<|dz h) (λt b c p h=>K t b c p h) h
noncomputable def Cp(q:Expr->(List Stmt)->(List Stmt)->Bool)(e:Stmt):Bool:=if h:Nat.beq e.ctorIdx 12=true then Stmt.If.elim (motive_2:=λU=>Bool) e (b_ h) (λt b c U=>q t b c)else false
@[elab_as_elim] theorem X9{q:Expr->(List Stmt)->(List Stmt)->Bool}{M:Stmt->Prop}(e:Stmt)(h:Cp q e=true)(K:∀t b c p,q t b c=true->M (.If t b c p)):M e:=
 Stmt.If.elim (motive_2:=λe=>Cp q e=true->M e) e (b_<|dz h) (λt b c p h=>K t b c p h) h
noncomputable def Cq(q:Expr->Bool)(e:Stmt):Bool:=if h:Nat.beq e.ctorIdx 24=true then Stmt.Expr.elim (motive_2:=λU=>Bool) e (b_ h) (λv U=>q v)else false
@[elab_as_elim] theorem X_{q:Expr->Bool}{M:Stmt->Prop}(e:Stmt)(h:Cq q e=true)(K:∀v p,q v=true->M (.Expr v p)):M e:=
 Stmt.Expr.elim (motive_2:=λe=>Cq q e=true->M e) e (b_<|dz h) (λv p h=>K v p h) h
noncomputable def l1{α:Type}(q:α->Bool)(l:List α):Bool:=match l with
 |[]=>false
 |x::r=>r.isEmpty&&q x
@[elab_as_elim] theorem jF{α:Type}{M:List α->Prop}(l:List α)(h:l.isEmpty=true)(K:M []):M l:=by
 induction l using b9
 ·exact K
 ·exact nB h
@[elab_as_elim] theorem iz{α:Type}{q:α->Bool}{M:List α->Prop}(l:List α)(h:l1 q l=true)(K:∀x,q x=true->M [x]):M l:=by
 induction l using b9 with
 |nil=>exact nB h
 |cons x r=>exact jF (M:=λr=>M<|x::r) r (band h).1<|K x (band h).2
noncomputable def oS{α:Type}(q:α->Bool)(l:Option α):Bool:=match l with
 |none=>false
 |some x=>q x
@[elab_as_elim] theorem Cr{α:Type}{M:Option α->Prop}(l:Option α)(h:l.isNone=true)(K:M none):M l:=by
 induction l using e9
 ·exact K
 ·exact nB h
@[elab_as_elim] theorem JD{α:Type}{q:α->Bool}{M:Option α->Prop}(l:Option α)(h:oS q l=true)(K:∀x,q x=true->M (some x)):M l:=by
 induction l using e9
 ·exact nB h
 ·exact K _ h
def l2{α:Type}(q:α->α->Bool)(l:List α):Bool:=match l with
 |[]=>false
 |x::r=>l1 (q x) r
@[elab_as_elim] theorem rY{α:Type}{q:α->α->Bool}{M:List α->Prop}(l:List α)(h:l2 q l=true)(K:∀x y,q x y=true->M [x,y]):M l:=by
 induction l using b9 with
 |nil=>exact nB h
 |cons x r=>exact iz (M:=λr=>M<|x::r) r h<|K x
def oT(q:PySem.Str->bL->Bool)(e:Expr):Bool:=uG (λf a k U=>k.isEmpty&&mw (λy=>q y a) f) e
@[elab_as_elim] theorem oU{q:PySem.Str->bL->Bool}{M:Expr->Prop}(e:Expr)(h:oT q e=true)(K:∀y p a p',q y a=true->M (.Call (.Name y p) a [] p')):M e:=
 JB e h λf a k p' h=>jF (M:=λk=>M<|.Call f a k p') k (band h).1 (qf (M:=λf=>M<|.Call f a [] p') f (band h).2 λy p h=>K y p a p' h)
def qg(q:Expr->PySem.Str->bL->Bool)(e:Expr):Bool:=uG (λf a k p=>k.isEmpty&&rU (λv y p'=>jD v&&decide (p'.endLine=p.line)&&q v y a) f) e
@[elab_as_elim] theorem rZ{q:Expr->PySem.Str->bL->Bool}{M:Expr->Prop}(e:Expr)(h:qg q e=true)(K:∀v y p' a p,jD v=true->p'.endLine=p.line->q v y a=true->M (.Call (.Attribute v y p') a [] p)):M e:=
 JB e h λf a k p h=>jF (M:=λk=>M<|.Call f a k p) k (band h).1 (Ci (M:=λf=>M<|.Call f a [] p) f (band h).2 λv y p' h=>K v y p' a p (band (band h).1).1 (cG (band (band h).1).2) (band h).2)
noncomputable def lC{α:Type}(q:α->List α->Bool)(l:List α):Bool:=match l with
 |[]=>false
 |x::r=>q x r
@[elab_as_elim] theorem xV{α:Type}{q:α->List α->Bool}{M:List α->Prop}(l:List α)(h:lC q l=true)(K:∀x r,q x r=true->M (x::r)):M l:=by
 induction l using b9 with
 |nil=>exact nB h
 |cons x r=>exact K x r h
noncomputable def xW(q:Addr->Bool)(v:Value):Bool:=if h:Nat.beq v.ctorIdx 10=true then Value.ref.elim (motive:=λU=>Bool) v (b_ h) q else false
@[elab_as_elim] theorem JE{q:Addr->Bool}{M:Value->Prop}(v:Value)(h:xW q v=true)(K:∀a,q a=true->M (.ref a)):M v:=
 Value.ref.elim (motive:=λv=>xW q v=true->M v) v (b_<|dz h) K h
noncomputable def vInt(q:Int->Bool)(v:Value):Bool:=if h:Nat.beq v.ctorIdx 4=true then Value.int.elim (motive:=λU=>Bool) v (b_ h) (λi U=>q i)else false
@[elab_as_elim] theorem Yb{q:Int->Bool}{M:Value->Prop}(v:Value)(h:vInt q v=true)(K:∀i t,q i=true->M (.int i t)):M v:=
 Value.int.elim (motive:=λv=>vInt q v=true->M v) v (b_<|dz h) K h
noncomputable def vStr(q:PySem.Str->Bool)(v:Value):Bool:=if h:Nat.beq v.ctorIdx 6=true then Value.str.elim (motive:=λU=>Bool) v (b_ h) (λi U=>q i)else false
@[elab_as_elim] theorem Yc{q:PySem.Str->Bool}{M:Value->Prop}(v:Value)(h:vStr q v=true)(K:∀i t,q i=true->M (.str i t)):M v:=
 Value.str.elim (motive:=λv=>vStr q v=true->M v) v (b_<|dz h) K h
noncomputable def xX(q:dg->Bool)(d:Data):Bool:=if h:Nat.beq d.ctorIdx (Data.seq #[] 0).ctorIdx=true then Data.seq.elim (motive:=λU=>Bool) d (b_ h) (λi U=>q i)else false
@[elab_as_elim] theorem JF{q:dg->Bool}{M:Data->Prop}(v:Data)(h:xX q v=true)(K:∀i t,q i=true->M (.seq i t)):M v:=
 Data.seq.elim (motive:=λv=>xX q v=true->M v) v (b_<|dz h) K h
noncomputable def Cs(q:FuncData->Bool)(d:Data):Bool:=if h:Nat.beq d.ctorIdx 7=true then Data.func.elim (motive:=λU=>Bool) d (b_ h) q else false
@[elab_as_elim] theorem Yd{q:FuncData->Bool}{M:Data->Prop}(v:Data)(h:Cs q v=true)(K:∀i,q i=true->M (.func i)):M v:=
 Data.func.elim (motive:=λv=>Cs q v=true->M v) v (b_<|dz h) K h
end
section
noncomputable def constOf:PV->Option Const
 |.n=>some .none
 |.b b=>some<|.bool b
 |.i b=>some<|.int b
 |.s b=>some<|.str<|Sx b
 |.t _=>none
 |.l _=>none
 |.r _=>none
 |.d _=>none
 |.c _ _=>none
 |.o _ _ _=>none
 |.e _=>none
def qh(c:Const)(p:PV):Bool:=decide<|constOf p=some c
section
variable {X:Cx}{d:Nat}{aa:Env}{ai:b5}{ae:bF}{H:ak}{Q:eF}
theorem Ye{c:Const}{p:PV}{k:Nat}{pos:Pos}(h:qh c p=true)(q:Q p H):AE X d aa ai ae (.Constant c k pos) H Q:=by
 have h:=cG h
 induction p using d7 with
 |n=>obtain rfl:=aK h;exact Jk q
 |b b=>obtain rfl:=aK h;exact W8 q
 |i b=>obtain rfl:=aK h;exact W9 q
 |s b=>obtain rfl:=aK h;exact W_ q
 |_=>nomatch h
theorem Yg{c:Const}{p:PV}{k:Nat}{pos:Pos}{M:Model}{A:Around}{s:Shared}{E R:cJ}(h:qh c p=true)(q:∀v t,(∀cf h,Rep X cf h p v)->R v {s with toks:=t}):
  wpAny M A (eval (.Constant c k pos) aa) R E s:=by
 have h:=cG h
 induction p using d7 with
 |n=>obtain rfl:=aK h;exact PySem.wpAny_Constant_none (q _ s.toks λU U=>kL)
 |b b=>obtain rfl:=aK h;exact PySem.wpAny_Constant_bool (q _ s.toks λU U=>lA)
 |i b=>obtain rfl:=aK h;exact PySem.wpAny_Constant_int (q _ _ λU U=>gm)
 |s b=>obtain rfl:=aK h;exact PySem.wpAny_Constant_str (q _ _ λU U=>BZ)
 |_=>nomatch h
theorem cell_out{cf:Cf}{s:Shared}{h':Heap}{a:Addr}{t:Nat}{ao:AO}(S:aU X cf s.heap)(g:c5 s.heap h')(ha:s.heap.objs.size<=a)(e:∃o,h'.get? a=some o)
  (r:Kept cf s.heap (eU cf a a ao) h'->nu X (eU cf a a ao) h' (a,a) ao)(q:ly cf.H ao Q):bC X cf s (GV X Q) (.ref a) {s with heap:=h',toks:=t}:=by
 have k:Kept cf s.heap (eU cf a a ao) h':=by
  refine⟨λb o U e=>g b o e,λb o hb ee hO=>?_,λm p e=>?_⟩
  ·have hne:b≠a:=λq=>by rw[q,jB ha]at ee;exact nN ee
   rcases hO with hO|hO|hO
   ·exact hb hO
   ·exact hne hO
   ·exact hne hO
  ·have hn:m<cf.ρ.length:=by
    rcases dm m cf.ρ.length with h|h
    ·exact h
    ·rw[gO h]at e;exact nN e
   show(cf.ρ++[_])[m]?=_;rw[iZ hn,e]
 have ok:=xx (t:=t) (ao:=ao) S g ha ha e e<|r k
 exact⟨_,ok.1,ok.2.1,_,ok.2.2.1,q⟩
theorem not_modules{cf:Cf}{h:Heap}{a:Addr}(T:eK X)(S:aU X cf h)(ha:h.objs.size<=a):(a==sysModules)=false:=by
 refine X4 T.mg λp loose mg mb TR=>?_;refine tY TR.g λo U U e U=>?_;have h1:@LT.lt Nat _ mainGlobals h.objs.size:=fJ (S.base _ _ e).1;have h2:@LE.le Nat _ sysModules mainGlobals:=by decide
 have:a≠sysModules:=λe=>by have h3:@LE.le Nat _ h.objs.size sysModules:=e▸ha;exact absurd (oq h1<|eR h3 h2)<|q8 _
 simpa using this
theorem Yh{pos:Pos}(T:eK X)(q:ly H (.i 0 λU=>none) Q):AE X d aa ai ae (.Dict [] [] pos) H Q:=fm λA cf s E U hH S U=>by
 subst hH;refine wpAny_Dict_empty<|cell_out (t:=s.toks) S (c5.push _ _) (bY _) ⟨_,ik _ rfl⟩ (λk=>?_) q
 exact⟨rfl,not_modules T S<|bY _,[],Heap.DictOf.new _,bY _,λk=>rfl⟩
theorem Yi{pos:Pos}(T:eK X)(q:ly H (.s [] []) Q):AE X d aa ai ae (.Dict [] [] pos) H Q:=fm λA cf s E U hH S U=>by
 subst hH;refine wpAny_Dict_empty<|cell_out (t:=s.toks) S (c5.push _ _) (bY _) ⟨_,ik _ rfl⟩ (λk=>?_) q
 exact⟨rfl,not_modules T S<|bY _,[],Heap.DictOf.new _,rfl,aO.gk⟩
def litOk:List (Option Expr)->bL->aY->au->Bool
 |[],vs,ks,ps=>vs.isEmpty&&ks.isEmpty&&ps.isEmpty
 |e::es,vs,ks,ps=>lC (λv vs=>lC (λk ks=>lC (λp ps=>oS (oR λc=>decide<|c=.str (Sx k)) e&&oR (λc=>qh c p) v&&litOk es vs ks ps) ps) ks) vs
inductive r5:List (Option Expr)->bL->aY->au->Prop
 |nil:r5 [] [] [] []
 |cons {a b c a' b' es vs k ks p ps} (h:qh c p=true) (t:r5 es vs ks ps):r5 (some (.Constant (.str<|Sx k) a b)::es) (.Constant c a' b'::vs) (k::ks)<|p::ps
theorem Yj:∀(es:List<|Option Expr){vs:bL}{ks:aY}{ps:au},litOk es vs ks ps=true->r5 es vs ks ps:=by
 intro es
 induction es with
 |nil=>exactλh=>jF _ (band (band h).1).1 (jF _ (band (band h).1).2 (jF _ (band h).2 .nil))
 |cons e es ih=>exactλ{vs ks ps} h=>xV vs h λv vs h=>xV ks h λk ks h=>xV ps h λp ps h=>JD e (band (band h).1).1 λx q=>uH x q λc U U q=>cG q▸uH v (band (band h).1).2 λU U U q=>.cons q<|ih (band h).2
theorem Yk{es:List<|Option Expr}{vs:bL}{ks:aY}{ps:au}(h:r5 es vs ks ps):es.all (·.isSome)=true/\es.length=vs.length/\es.length=ks.length:=by
 induction h with
 |nil=>exact⟨rfl,rfl,rfl⟩
 |cons _ _ ih=>exact⟨ih.1,congrArg _ ih.2.1,congrArg _ ih.2.2⟩
theorem Yl{pos:Pos}{A:Around}{E:cJ}{keys:List<|Option Expr}{values:bL}{ks:aY}{ps:au}(h:r5 keys values ks ps):∀{s:Shared}{R:List (Value×Value)->Shared->Prop},
  (∀(vs:List<|Value×Value) t,Carries (strKind X.prog X.w) vs ((ks.map Sx).zip (vs.map (·.2)))->vs.length=ks.length->(∀cf h,aO X cf h ps (vs.map (·.2)))->R vs {s with toks:=t})->
  wpAny (model X.prog X.w) A (evalPairs<|pairTrees keys values aa pos) R E s:=by
 induction h with
 |nil=>exactλq=>pairTrees_nil_walk (q [] _ trivial rfl λU U=>aO.gk)
 |@cons _ _ _ _ _ _ _ k _ _ _ h4 _ ih=>
  intro s R q;refine pairTrees_cons_walk<|PySem.wpAny_Constant_str (Yg (X:=X) h4 λv t rv=>ih λvs t' hc hl hr=>?_)
  exact q ((.str (Sx k) s.toks,v)::vs) t' ⟨by simp[PySem.strKind,Value.isStrOf],rfl,hc⟩ (congrArg _ hl) λcf h=>aO.fD (rv cf h)<|hr cf h
theorem Ym{keys:List<|Option Expr}{values:bL}{ks:aY}{ps:au}{pos:Pos}(T:eK X)(h:litOk keys values ks ps=true)(h0:ks≠[])(Ct:ks.length<=15)(hn:ks.Nodup)(q:ly H (.s ks ps) Q):
  AE X d aa ai ae (.Dict keys values pos) H Q:=fm λA cf s E U hH S U=>by
 subst hH;have h:=Yj keys h;refine U2 (Yk h) λs1 s2 s3=>?_;refine wpAny_Dict_walk (knd:=strKind X.prog X.w) s1 s2 (λe=>h0<|List.length_eq_zero_iff.mp<|by refine rL s3<|rR e ?_;rfl) (by refine rR s3 ?_;exact Ct) ?_;refine Yl h λvs t hc hl hr=>cM _ hc (Heap.DictOf.new _) (λh' hd hb=>?_);have g:c5 s.heap h':=λb o e=>(hb.2 b<|gP<|fJ e).trans<|jq _ e
 have hnd:(((ks.map Sx).zip (vs.map (·.2))).map (·.1)).Nodup:=by refine rR (List.map_fst_zip<|by simp[hl]) ?_;exact pQ.mpr (hn.imp λh e=>h<|lq e)
 rw[merged_nil_of_nodup _ hnd]at hd;exact cell_out (t:=t+vs.length) (ao:=.s ks ps) S g (bY _) (ug hd) (λk=>⟨rfl,not_modules T S<|bY _,vs.map (·.2),hd,by simp[hl],hr _ _⟩) q
theorem Yn{A:Around}{cf:Cf}{s:Shared}{E:cJ}{v1 v2:Value}{k:Int}(S:aU X cf s.heap)(r1:Rep X cf s.heap (.l [.n]) v1)(r2:Rep X cf s.heap (.i k) v2)(h0:0<=k)(hk:k<=2^20)
  (q:ly cf.H (.l<|List.replicate k.toNat .n) Q):wpAny (model X.prog X.w) A (binaryOp .Mult v1 v2) (bC X cf s<|GV X Q) E s:=by
 obtain⟨a,vs,rfl,_,⟨n,hl⟩,hz,rl⟩:=r1;refine X1 r2 λt aN=>?_;clear r2;subst aN;have ev:vs=#[Value.none]:=by apply Array.toList_inj.mp;obtain⟨v,rfl',hv⟩:=rO rl;exact rR rfl' (rR hv rfl)
 clear hz rl;subst ev;have hT:s.TypeIs (.ref a) "list":=aA _ hl rfl;refine wpAny_binaryOp_repeat_ref (T:="list") (U:="int") (by decide) hT (λs'=>typeIs_int s' k t) noFill_list_mul F.fills_int_mul F.slot_int_rmul repeat_list F.slot_int_index.lookup
  (call_meets F.slot_int_rmul (typeIs_int s k t) F.entry_int_rmul (F.args_int_rmul_2 _ _) (int___rmul___int_list k t a _ n)
   ⟨hl,rfl,hT,call_meets F.slot_list_mul hT F.entry_list_mul (F.args_list_mul_2 _ _)
    (AutoListH.list___mul___list_int_3 a _ n k t (by simp[Builtin.List.listFitsIndex];exact UQ h0 hk) (by simp;exact UR hk) (by simp[Builtin.List.listTooLong,sizeLine];exact US hk))
    ⟨hl,?_⟩⟩)
 have e:(List.foldl (λx1 x2=>x1++x2) #[] (List.replicate (if(#[Value.none]:dg).isEmpty=true then 0 else k.toNat) #[Value.none])).toList=List.replicate k.toNat Value.none:=by
  refine rR (bO<|by simp) ?_;have g:∀(m:Nat)(acc:dg),(List.foldl (λx1 x2=>x1++x2) acc<|List.replicate m #[Value.none]).toList=acc.toList++List.replicate m Value.none:=λm=>by
   induction m with
   |zero=>intro acc;simp
   |succ m ih=>intro acc;(refine rR List.replicate_succ<|rR pN ?_;rewrite[ih];refine rR Array.toList_append<|rR List.replicate_succ ?_);simp
  rw[g];rfl
 have rr:∀(m:Nat)(h:Heap),aO X cf h (List.replicate m .n) (List.replicate m Value.none):=λm h=>by
  induction m with
  |zero=>exact aO.gk
  |succ m ih=>refine rR List.replicate_succ<|rR List.replicate_succ ?_;exact aO.fD kL ih
 refine Ja (t:=s.toks) (n:=0) S (by refine rR e ?_;exact rr _ _) ?_ q;have:=congrArg List.length e;rw[List.length_replicate,qU]at this;refine rR this ?_;exact UT hk
theorem Yo{n:Expr}{k:Nat}{p p1 pos:Pos}(h:AE X d aa ai ae n H λv H'=>∃i,v=.i i/\0<=i/\i<=2^20/\ly H' (.l<|List.replicate i.toNat .n) Q):
  AE X d aa ai ae (.BinOp (.List [.Constant .none k p1] p) .Mult n pos) H Q:=by
 refine I0 (P:=λp1 p2 H'=>p1=.l [.n]/\∃i,p2=.i i/\0<=i/\i<=2^20/\ly H' (.l<|List.replicate i.toNat .n) Q) ?_ λA cf s E v1 v2 p1 p2 hA S R r1 r2 q=>?_
 ·refine Jm<|uw rfl<|Jk<|xC ⟨by simp,?_⟩
  exact h.mono λv H' ⟨i,e,q⟩=>Ft rfl i e q
 ·(revert q;refine Pg λaQ i aR h0 h1 q=>?_;subst aQ;subst aR)
  exact Yn S r1 r2 h0 h1 q
end
def nG(X:Cx)(d:Nat)(fv:Value)(args:au)(H:ak)(Q:eF):Prop:=
 ∀A cf s E vs,c7 d A->cf.H=H->aU X cf s.heap->aO X cf s.heap args vs->wpAny (model X.prog X.w) A (call fv vs []) (bC X cf s<|GV X Q) E s
section
variable {X:Cx}{d:Nat}{aa:Env}{ai:b5}{ae:bF}{H:ak}{Q:eF}
theorem Yp{f:String}{p pos:Pos}{args:bL}(T:eK X)(hx:aa.kindOf (Sx f)=some .globalImplicit)(hd:(Sx f==("__debug__":Str))=false)(h2:args.all notStar=true)
  {fv:Value}(e:nsIn X.K mainGlobals (Sx f)=some (some fv))(hk:keepIn X.K fv=true)
  (h:fM X d aa ai ae args H (λvs H'=>nG X d fv vs H' Q)):AE X d aa ai ae (.Call (.Name (Sx f) p) args [] pos) H Q:=
 Jq h2 (λS R h=>Jl T e hx hd S R h) (λcf h S=>keeps_K hk h<|qd T S) h λA cf s E vs ps hA S r q=>q A cf s E vs hA rfl S r
theorem Yq{o:Expr}{m:String}{args:bL}{apos pos:Pos}(T:eK X)(h1:jD o=true)(h2:args.all notStar=true)(h3:args.length<30)(h4:apos.endLine=pos.line)
  (h:AE X d aa ai ae o H (λvo H'=>∃c ns l C f,fieldsOf H' vo=some (c,ns,l)/\ns.contains m=false/\jQ X.K c=some C/\
   plainGet X.K C (Sx m)=true/\findIn X.K (.ref C) (Sx m)=some (some<|.ref f)/\isFn X.K (.ref f)=true/\keepIn X.K (.ref f)=true/\
   fM X d aa ai ae args H' (λvs c8=>nG X d (.ref f) (vo::vs) c8 Q))):
  AE X d aa ai ae (.Call (.Attribute o (Sx m) apos) args [] pos) H Q:=by
 refine rN h1 h2 h3 h4 h λA cf s E v p hA S R r q=>?_;refine Pp q λc ns l C f hf hns hc hg uI hfn hk ha=>?_;refine Fc (Jf S r hf) λa dd C' es n aT hc' e1 e2 hkb rl=>?_;subst aT;rw[hc]at hc';obtain rfl:=aK hc';refine method_fn (qd T S) (⟨e1,rfl,rfl,e2⟩:InstAt s.heap a (instObj C dd) C<|some<|dictOf es n) (plainGet_of hg).1 (plainGet_of hg).2 uI (gQ.mp hfn) (by show(lookIn _ (dictOf es n)).map _=_;(rewrite[lookIn_dict];refine rR (Jh hkb hns) ?_);rfl) ?_;refine mq (P:=λh=>∃cf,aU X cf h) h2 (λh ⟨cf,S⟩=>keeps_K hk h<|qd T S) ?_;refine bz (ha A cf s E pos hA rfl S R) (λvs s₁ y=>?_) λU U y=>y;obtain⟨aS,st,S₁,ps,rs,q⟩:=y;refine⟨⟨aS,S₁⟩,?_⟩;exact bz (q A aS s₁ E (.ref a::vs) hA rfl S₁<|aO.fD (r.mono<|st.kept S.own) rs) (λU U z=>z.after S st) λU U y=>y
end
end
section
noncomputable def cN(aa:Env)(b:Addr):Prop:=b=aa.locals\/∃n,(n,b)∈aa.cells
structure dH (F:Addr->Prop)(cf:Cf)(s:Shared)(aI:Cf)(s':Shared):Prop where
 same:∃h' tk,s'={s with heap:=h',toks:=tk}
 keep:∀b o,¬Own cf b->¬F b->s.heap.get? b=some o->s'.heap.get? b=some o
 avoid:∀b o,cf.O b->¬Own cf b->s.heap.get? b=some o->aI.O b
 fresh:∀b,aI.O b->cf.O b\/s.heap.get? b=none
 owned:∀b,Own aI b->Own cf b\/s.heap.get? b=none
 refs:∀(n:Nat)(p:Addr×Addr),cf.ρ[n]?=some p->aI.ρ[n]?=some p
theorem Step.toF{F:Addr->Prop}{cf aI:Cf}{s s':Shared}(x:Step cf s aI s'):dH F cf s aI s':=⟨x.same,λb o h U e=>x.keep b o h e,x.avoid,x.fresh,x.owned,x.refs⟩
theorem dH.refl{F:Addr->Prop}(cf:Cf)(s:Shared):dH F cf s cf s:=(Step.refl cf s).toF
section
variable {X:Cx}{F:Addr->Prop}{cf aI nv:Cf}{s s' s'':Shared}
theorem dH.trans(S:aU X cf s.heap)(S':aU X aI s'.heap)(hF:∀b,F b->cf.O b/\¬Own cf b)(x:dH F cf s aI s')(y:dH F aI s' nv s''):dH F cf s nv s'':=by
 have nw:∀b o,¬Own cf b->s.heap.get? b=some o->¬Own aI b:=λb o hb e hw=>by
  rcases x.owned b hw with h|h
  ·exact hb h
  ·rw[h]at e;exact nN e
 have back:∀b,s'.heap.get? b=none->Own cf b\/s.heap.get? b=none:=λb h'=>by
  by_cases hb:Own cf b
  ·exact .inl hb
  ·by_cases hf:F b
   ·refine X1 (S.here b (hF b hf).1) λo e=>?_;refine X1 (S'.here b<|x.avoid b o (hF b hf).1 hb e) λo' e'=>?_;rw[h']at e';exact nN e'
   ·cases e:s.heap.get? b with
    |none=>exact .inr rfl
    |some o=>rw[x.keep b o hb hf e]at h';exact sN h'
 refine⟨?_,λb o hb hf e=>y.keep b o (nw b o hb e) hf<|x.keep b o hb hf e,λb o h hb e=>?_,λb h=>?_,λb h=>?_,λn p h=>y.refs n p<|x.refs n p h⟩
 ·(refine X2 x.same λh1 t1 aL=>?_;clear S' x back;subst aL)
  refine X2 y.same λh2 t2 aM=>?_;clear y;subst aM;exact I2 h2 t2 rfl
 ·have h1:=x.avoid b o h hb e;refine X1 (S'.here b h1) λo' e'=>?_;exact y.avoid b o' h1 (nw b o hb e) e'
 ·rcases y.fresh b h with h'|h'
  ·exact x.fresh b h'
  ·exact(back b h').imp (S.own b) id
 ·rcases y.owned b h with h'|h'
  ·exact x.owned b h'
  ·exact back b h'
theorem dH.kept(S:aU X cf s.heap)(hF:∀b,F b->cf.O b/\¬Own cf b)(x:dH F cf s aI s'):Kept cf s.heap aI s'.heap:=
 ⟨λb o hb e=>x.keep b o (λh=>hb<|S.own b h) (λh=>hb (hF b h).1) e,λb o hb e hO=>(x.fresh b hO).elim hb λh=>(by rw[h]at e;exact nN e),x.refs⟩
theorem cN.of{aa:Env}{ai:b5}{ae:bF}{h:Heap}(R:cK X cf aa ai ae h){b:Addr}(h:cN aa b):cf.O b/\¬Own cf b:=by
 rcases h with rfl|⟨n,hm⟩
 ·exact⟨R.av,λq=>(R.off _ q).1 rfl⟩
 ·exact⟨(R.iu _ _ hm).1,λq=>(R.off _ q).2 _ _ hm rfl⟩
end
def Yr(X:Cx)(cf:Cf)(h:Heap):dW->Flow->Prop
 |.n,f=>f=.next
 |.b,f=>f=.brk
 |.c,f=>f=.cont
 |.r p,f=>∃v,f=.ret v/\Rep X cf h p v
abbrev SP:=dW->bF->ak->Prop
inductive kM (X:Cx)(aa:Env)(ai:b5)(cf:Cf)(s:Shared)(Q:SP)(f:Flow)(s':Shared):Prop
 |mk (aI:Cf) (af:dW) (cZ:bF) (st:dH (cN aa) cf s aI s') (sim:aU X aI s'.heap) (er:cK X aI aa ai cZ s'.heap) (fr:Yr X aI s'.heap af f) (q:Q af cZ aI.H):kM X aa ai cf s Q f s'
noncomputable def gq(X:Cx)(d:Nat)(aa:Env)(ai:b5)(ae:bF)(st:Stmt)(H:ak)(Q:SP):Prop:=
 ∀A cf s E,c7 d A->cf.H=H->aU X cf s.heap->cK X cf aa ai ae s.heap->wpAny (model X.prog X.w) A (exec st aa) (kM X aa ai cf s Q) E s
noncomputable def iQ(X:Cx)(d:Nat)(aa:Env)(ai:b5)(ae:bF)(ss:List Stmt)(H:ak)(Q:SP):Prop:=
 ∀A cf s E,c7 d A->cf.H=H->aU X cf s.heap->cK X cf aa ai ae s.heap->wpAny (model X.prog X.w) A (execs ss aa) (kM X aa ai cf s Q) E s
section
variable {X:Cx}{d:Nat}{aa:Env}{ai:b5}{ae:bF}{H:ak}{Q:SP}{cf aI:Cf}{s s' s'':Shared}
theorem kM.after{cZ:bF}{f:Flow}(S:aU X cf s.heap)(R:cK X cf aa ai ae s.heap)(S':aU X aI s'.heap)(st:dH (cN aa) cf s aI s')(y:kM X aa ai aI s' Q f s''):kM X aa ai cf s Q f s'':=
 let ⟨c,af,a',st',Cu,uJ,fr,q⟩:=y;⟨c,af,a',st.trans S S' (λb=>cN.of R) st',Cu,uJ,fr,q⟩
theorem kM.mono{Q':SP}{f:Flow}(y:kM X aa ai cf s Q f s')(h:∀a b c,Q a b c->Q' a b c):kM X aa ai cf s Q' f s':=
 let ⟨c,af,a',st',Cu,uJ,fr,q⟩:=y;⟨c,af,a',st',Cu,uJ,fr,h _ _ _ q⟩
theorem Ys(q:Q .n ae H):iQ X d aa ai ae [] H Q:=λA cf s E hA hH S R=>by subst hH;exact wpAny_execs_nil ⟨cf,.n,ae,dH.refl _ _,S,R,rfl,q⟩
theorem JG{st:Stmt}{r:List Stmt}(h:gq X d aa ai ae st H (λf cZ H'=>match f with
   |.n=>iQ X d aa ai cZ r H' Q
   |f=>Q f cZ H')):iQ X d aa ai ae (st::r) H Q:=λA cf s E hA hH S R=>by
 refine wpAny_execs_cons (bz (h A cf s E hA hH S R) (λf s₁ y=>?_) λU U y=>y);obtain⟨aS,af,xY,gI,S₁,cI,fr,q⟩:=y
 induction af using dW.casesOn with
 |n=>
  obtain rfl:f=.next:=fr
  exact bz (q A aS s₁ E hA rfl S₁ cI) (λU U y=>y.after (cZ:=xY) S R S₁ gI) λU U y=>y
 |b=>obtain rfl:f=.brk:=fr;exact⟨aS,.b,xY,gI,S₁,cI,rfl,q⟩
 |c=>obtain rfl:f=.cont:=fr;exact⟨aS,.c,xY,gI,S₁,cI,rfl,q⟩
 |r p=>
  refine aC fr λv aP rv=>?_;clear fr;subst aP;exact⟨aS,.r p,xY,gI,S₁,cI,aA v rfl rv,q⟩
noncomputable def d8(ai:b5):Prop:=∀(i j:Nat)(x:String),ai[i]?=some (some x)->ai[j]?=some (some x)->i=j
def kN(aa:Env)(G:Addr->Prop)(x:String):Prop:=(∀b,G b->cN aa b)/\(aa.kindOf (Sx x)=some .local->G aa.locals)/\(aa.kindOf (Sx x)=some .cell->∀c,aa.cells.lookup (Sx x)=some c->G c)
theorem kN.all(aa:Env)(x:String):kN aa (cN aa) x:=⟨λU h=>h,λU=>.inl rfl,λU c h=>.inr ⟨_,iG h⟩⟩
theorem Cv{G:Addr->Prop}{i:Nat}{x:String}{pv:PV}{v:Value}{A:Around}{E:cJ}{K:Unit->Shared->Prop}(hN:d8 ai)(hi:ai[i]?=some (some x))(hk:aa.kindOf (Sx x)=some .local\/aa.kindOf (Sx x)=some .cell)
  (xZ:kN aa G x)(S:aU X cf s.heap)(R:cK X cf aa ai ae s.heap)(r:Rep X cf s.heap pv v)
  (k:∀h',dH G cf s cf {s with heap:=h',toks:=s.toks}->aU X cf h'->cK X cf aa ai (ae.set i<|some pv) h'->∀t,K () {s with heap:=h',toks:=t}):
  wpAny (model X.prog X.w) A (storeName aa (Sx x) v) K E s:=by
 refine d_ R.vals λm cm hn hc hv=>?_
 
 have go:∀(h':Heap)(a:Addr),cN aa a->G a->(∃o,h'.get? a=some o)->Heap.SameBut a s.heap h'->
   dH G cf s cf {s with heap:=h',toks:=s.toks}/\aU X cf h'/\Kept cf s.heap cf h':=λh' a ha Yt ho hs=>by
  have oa:=cN.of R ha;have same:∀b o,b≠a->s.heap.get? b=some o->h'.get? b=some o:=λb o hb e=>hs.extBut b o hb e;have K:Kept cf s.heap cf h':=⟨λb o hb e=>same b o (λq=>hb<|q▸oa.1) e,λU U h U=>h,λU U h=>h⟩
  refine⟨⟨I2 h' s.toks rfl,λb o U hf e=>same b o (λq=>hf<|q▸Yt) e,λU U h U U=>h,λU h=>.inl h,λU h=>.inl h,λU U h=>h⟩,?_,K⟩;refine⟨S.len,λn ao p e1 e2=>?_,S.own,S.inj,λb hb=>?_,λb o e=>?_⟩
  ·have n1:p.1≠a:=λq=>oa.2 ⟨n,ao,p,e1,e2,.inl q.symm⟩;have n2:p.2≠a:=λq=>oa.2 ⟨n,ao,p,e1,e2,.inr q.symm⟩;exact(S.rep n ao p e1 e2).mono K (λo e=>same _ o n1 e) λo e=>same _ o n2 e
  ·by_cases h:b=a
   ·refine rR h ?_;exact ho
   ·refine X1 (S.here b hb) λo e=>?_;exact⟨o,same b o h e⟩
  ·refine U1 (S.base b o e) λe1 e2=>?_;exact⟨same b o (λq=>e2<|q▸oa.1) e1,e2⟩
 have JH:∀(j:Nat)(y:String)(pw:PV),ai[j]?=some (some y)->(ae.set i<|some pv)[j]?=some (some pw)->(y=x/\pw=pv)\/(y≠x/\ae[j]?=some (some pw)):=λj y pw hj hp=>by
  by_cases oV:i=j
  ·subst oV;rw[hi]at hj;have hj:=aK<|aK hj
   left;refine⟨hj.symm,?_⟩;by_cases hl:i<ae.length
   ·rw[jL hl]at hp;exact(aK<|aK hp).symm
   ·rw[gO<|by refine rR i5 ?_;exact z0 hl]at hp;exact nN hp
  ·rw[jr oV]at hp;refine .inr ⟨λq=>oV<|hN i j x hi<|q▸hj,hp⟩
 have JI:∀{y:String},y≠x->Sx y≠Sx x:=λh e=>h<|lq e
 rcases hk with hk|hk
 ·refine wpAny_storeName_local hk hn (λh' hn' hs'=>?_)<|by refine rR R.kind ?_;rfl
  refine U2 (go h' aa.locals (.inl rfl) (xZ.2.1 hk) (let ⟨o,_,_,e,_⟩:=hn';⟨o,e⟩) hs') λst S' K=>?_;refine k h' st S' ⟨R.kind,R.glob,R.blt,R.av,R.iu,R.apart,R.oF,R.off,_,cm,hn',λn c hl=>(hc n c hl).sameBut hs' (R.iu n c<|iG hl).2,λj y pw hj hp=>?_⟩ _;clear hi xZ k hn';rcases JH j y pw hj hp with⟨rfl,rfl⟩|⟨hne,lB⟩
  ·exact aA v (r.mono K)<|.inl ⟨hk,by simp⟩
  ·refine aC (hv j y pw hj lB) λu ru hu=>?_;exact aA u (ru.mono K)<|hu.imp (λh=>⟨h.1,by simp only[if_neg<|JI hne];exact h.2⟩) id
 ·refine X1 (R.oF _ hk) λc hcl=>?_;refine wpAny_storeName_cell R.kind hk hcl (hc _ c hcl) λh' hc' hs'=>?_;have hm:=iG hcl;refine U2 (go h' c (.inr ⟨_,hm⟩) (xZ.2.2 hk c hcl) (let ⟨o,e,_⟩:=hc';⟨o,e⟩) hs') λst S' K=>?_;refine k h' st S' ⟨R.kind,R.glob,R.blt,R.av,R.iu,R.apart,R.oF,R.off,m,λn=>if n=Sx x then some v else cm n,hn.sameBut hs'<|Ne.symm (R.iu _ c hm).2,λn c' hl=>?_,λj y pw hj hp=>?_⟩ _
  ·by_cases jV:n=Sx x
   ·subst jV;rw[hcl]at hl;obtain rfl:=aK hl;simpa using hc'
   ·show h'.IsCell c' (if n=Sx x then some v else cm n);refine rR (bO jV) ?_;exact(hc n c' hl).sameBut hs' λe=>jV<|name_of_addr R.apart (iG hl)<|e▸hm
  ·clear hi xZ k hm;rcases JH j y pw hj hp with⟨rfl,rfl⟩|⟨hne,lB⟩
   ·exact aA v (r.mono K)<|.inr ⟨hk,⟨c,hcl⟩,by simp⟩
   ·refine aC (hv j y pw hj lB) λu ru hu=>?_;exact aA u (ru.mono K) (hu.imp id λh=>⟨h.1,h.2.1,by simp only[if_neg<|JI hne];exact h.2.2⟩)
theorem store{i:Nat}{x:String}{pv:PV}{v:Value}{A:Around}{E:cJ}{K:Unit->Shared->Prop}(hN:d8 ai)(hi:ai[i]?=some (some x))(hk:aa.kindOf (Sx x)=some .local\/aa.kindOf (Sx x)=some .cell)
  (S:aU X cf s.heap)(R:cK X cf aa ai ae s.heap)(r:Rep X cf s.heap pv v)
  (k:∀h',dH (cN aa) cf s cf {s with heap:=h',toks:=s.toks}->aU X cf h'->cK X cf aa ai (ae.set i<|some pv) h'->∀t,K () {s with heap:=h',toks:=t}):
  wpAny (model X.prog X.w) A (storeName aa (Sx x) v) K E s:=Cv hN hi hk (kN.all aa x) S R r k
theorem JJ{i:Nat}{x:String}{value:Expr}{p pos:Pos}(hN:d8 ai)(hi:ai[i]?=some (some x))(hk:aa.kindOf (Sx x)=some .local\/aa.kindOf (Sx x)=some .cell)
  (hs:swapsWith value (some<|.Name (Sx x) p) pos.line aa=pure false)
  (h:AE X d aa ai ae value H λv H'=>Q .n (ae.set i<|some v) H'):gq X d aa ai ae (.Assign [.Name (Sx x) p] value pos) H Q:=λA cf s E hA hH S R=>by
 refine wpAny_Assign_Name ?_ hs;refine bz (h A cf s E hA hH S R) (λv s₁ y=>?_) λU U y=>y;obtain⟨aS,pv,st,S₁,r,q⟩:=y;have cI:=R.step S st;refine store hN hi hk S₁ cI r λh' st' S' R' t=>?_;exact⟨aS,.n,_,st.toF.trans S S₁ (λb=>cN.of R)<|⟨I2 h' t rfl,st'.keep,st'.avoid,st'.fresh,st'.owned,st'.refs⟩,S',R',rfl,q⟩
theorem JK{t:Expr}{a b:List Stmt}{pos:Pos}(h:AT X d aa ai ae t H λc H'=>(c=true->iQ X d aa ai ae a H' Q)/\(c=false->iQ X d aa ai ae b H' Q)):gq X d aa ai ae (.If t a b pos) H Q:=λA cf s E hA hH S R=>by
 refine wpAny_If (bz (h A cf s E hA hH S R) (λc s₁ y=>?_) λU U y=>y);obtain⟨aS,st,S₁,q⟩:=y
 induction c using cP with
 |true=>exact bz (q.1 rfl A aS s₁ E hA rfl S₁<|R.step S st) (λU U y=>y.after (cZ:=ae) S R S₁ st.toF) λU U y=>y
 |false=>exact bz (q.2 rfl A aS s₁ E hA rfl S₁<|R.step S st) (λU U y=>y.after (cZ:=ae) S R S₁ st.toF) λU U y=>y
theorem Yu{e:Expr}{pos:Pos}(h:AE X d aa ai ae e H λv H'=>Q (.r v) ae H'):gq X d aa ai ae (.Return (some e) pos) H Q:=λA cf s E hA hH S R=>by refine wpAny_Return_some (bz (h A cf s E hA hH S R) (λv s₁ y=>?_) λU U y=>y);obtain⟨aS,pv,st,S₁,r,q⟩:=y;exact⟨aS,.r pv,ae,st.toF,S₁,R.step S st,aA v rfl r,q⟩
theorem Yv{pos:Pos}(q:Q (.r .n) ae H):gq X d aa ai ae (.Return none pos) H Q:=λA cf s E hA hH S R=>by subst hH;exact wpAny_Return_none ⟨cf,.r .n,ae,dH.refl _ _,S,R,aA .none rfl kL,q⟩
theorem Yw{pos:Pos}(q:Q .b ae H):gq X d aa ai ae (.Break pos) H Q:=λA cf s E hA hH S R=>by subst hH;exact a_<|wpAny_standAt<|cF ⟨cf,.b,ae,dH.refl _ _,S,R,rfl,q⟩
theorem Yx{pos:Pos}(q:Q .c ae H):gq X d aa ai ae (.Continue pos) H Q:=λA cf s E hA hH S R=>by subst hH;exact a_<|wpAny_standAt<|cF ⟨cf,.c,ae,dH.refl _ _,S,R,rfl,q⟩
end
end
section
section
variable {X:Cx}{A:Around}{E:cJ}{s:Shared}
theorem Yy{l:Addr}{items:dg}{n j:Nat}{k:Int}{t:Tok}{v:Value}{R:Unit->Shared->Prop}(hl:PySem.IsL s.heap l items n)(hk:small k)(hj:gx k items.size=some j)
  (q:R () {s with heap:=s.heap.update l (Obj.mapSeq (·.setIfInBounds j v))}):wpAny (model X.prog X.w) A (setItem (.ref l) (.int k t) v) R E s:=by
 refine U2 (B3 hj) λe hlt hc=>?_;have hT:s.heap.IsList l items:=t7 _ hl rfl _ rfl;have hx:items[j]?=some items[j]:=Array.getElem?_eq_getElem hlt;unfold small at hk;unfold setItem
 try with_reducible refine wpAny_holding ?_
 refine a_<|wpAny_sequenceKey hT.typeIs (by decide) ?_
 refine a_ (tW (name:=Str.ofString "__setitem__") hT.typeIs PySem.slot_list_setitem
  (wpAny_call_entry PySem.slot_list_setitem hT.typeIs PySem.entry_list_setitem ?_<|PySem.args_list_setitem _ _ _))
 rcases hc with⟨h0,rfl⟩|⟨h0,h1,rfl⟩
 ·show wpAny _ _ (Builtin.List.listSubscript? (.int k t)>>=_) _ _ s;refine a_<|wpAny_listSubscript_int (fitsIndex_of h0<|Ah hk) ?_
  refine X1 (Int.eq_ofNat_of_zero_le h0) λi aN=>?_;clear hk h0 hj e;subst aN;show wpAny _ _ ((seqItemAt l i>>=λr=>pure (r.map (i,·)))>>=_) _ _ s;refine a_<|a_<|wpAny_seqItemAt hl rfl<|cF ?_
  have hx':items[i]?=some items[i]:=hx;refine rR hx' ?_;show wpAny _ _ (setSeqItemAt l i v>>=_) _ _ s;refine a_<|wpAny_setSeqItemAt hl rfl ?_
  first
   |exact a_<|cF<|cF<|aA .none rfl<|cF q
   |exact cF ⟨.none,rfl,cF q⟩
 ·show wpAny _ _ (Builtin.List.listSubscript? (.int k t)>>=_) _ _ s;refine a_<|wpAny_listSubscript_int (fitsIndex_neg h0<|Ai hk) ?_
  obtain⟨i,rfl⟩:∃i:Nat,k=Int.negSucc i:=by
   induction k using Int.casesOn with
   |ofNat n=>exact absurd h0<|Int.not_lt.mpr<|iY n
   |negSucc n=>exact⟨n,rfl⟩
  show wpAny _ _ ((Builtin.List.listItems (.ref l)>>=λxs=>pure ((seqIndex? (Int.negSucc i) xs.size).bind λi=>xs[i]?.map (i,·)))>>=_) _ _ s;refine a_<|a_ ?_
  show wpAny _ _ (seqItems? (.ref l)>>=_) _ _ s;refine a_<|pU hl rfl<|cF<|cF ?_
  refine rR e ?_;simp only[Option.bind_some,hx,Option.map_some];show wpAny _ _ (setSeqItemAt l _ v>>=_) _ _ s;refine a_<|wpAny_setSeqItemAt hl rfl ?_
  first
   |exact a_<|cF<|cF<|aA .none rfl<|cF q
   |exact cF ⟨.none,rfl,cF q⟩
set_option tactic.hygienic true in
theorem Yz{a dd C:Addr}{es:List DictEntry}{n:Nat}{x:PySem.Str}{v:Value}{R:Unit->Shared->Prop}(hX:X.K.In s.heap)(e1:s.heap.get? a=some (instObj C dd))(e2:s.heap.get? dd=some (dictOf es n))
  (h1:findIn X.K (.ref C) "__setattr__"=some (some<|.builtin "object.__setattr__"))(h2:plainOver X.K C=true)(h3:takerIn X.K C x=some none)(h4:hasDictIn X.K C=true)
  (hg:(getL x es).isSome=true)(hz:es.length<=1000)
  (q:∀h' t hsh tk,h'.get? dd=some (dictOf (putL x hsh (.str x tk) v es)<|putN x es n)->(∀b o,b≠dd->s.heap.get? b=some o->h'.get? b=some o)->R () {s with heap:=h',toks:=t}):
  wpAny (model X.prog X.w) A (setAttr (.ref a) x v) R E s:=by
 have I:InstAt s.heap a (instObj C dd) C (some<|dictOf es n):=⟨e1,rfl,rfl,e2⟩
 refine set_plain hX I h1 (osa_open (s:={s with toks:=s.toks+1}) hX I h2 h3 λb=>?_);refine aC (any_some (show(clsIn X.K C).any (·.hasDict)=true from h4)) λcd hc hd'=>?_;have len:∀(hsh:Int)(key:Value)(l:List DictEntry),(putL x hsh key v l).length<=l.length+1:=λhsh key l=>by
  induction l with
  |nil=>simp[putL]
  |cons e r ih=>
   simp only[putL];split
   ·simp
   ·simp only[List.length_cons];exact P9 ih
 have JL:Obj.putName x (PyData.keyHash X.w.params x) (.str x<|s.toks+1) v (dictOf es n)=dictOf (putL x (PyData.keyHash X.w.params x) (.str x<|s.toks+1) v es) (putN x es n):=putName_dict ..;have D':(s.heap.update dd<|Obj.putName x (PyData.keyHash X.w.params x) (.str x<|s.toks+1) v).get? dd=some (dictOf (putL x (PyData.keyHash X.w.params x) (.str x<|s.toks+1) v es)<|putN x es n):=by rw[Heap.get?_update_self _ e2 (by refine rR JL ?_;rfl),JL]
 refine a_<|cF<|a_<|a_<|wpAny_loadPart e1<|a_<|Looks.here (s:={s with toks:=s.toks+1}) (looks_clsIn hX hc) ?_
 refine rR hd' ?_;refine cF (a:=some dd)<|a_<|cF<|a_ ?_
 unfold nsSet;refine a_<|a_<|wpAny_askSetting<|cF<|a_<|wpAny_mkText<|a_<|wpAny_loadPart e2 ?_
 dsimp only[dictOf];have c:(!es.toArray.any (·.key.isStr x)&&es.toArray.any (·.refKey))=false:=by
  refine rR List.any_toArray<|rR List.any_toArray ?_
  unfold getL at hg;split at hg
  ·rename_i en he;rw[List.any_eq_true.mpr<|aA en (List.mem_of_find?_eq_some he)<|List.find?_some he];rfl
  ·split at hg
   ·exact nB hg
   ·rename_i z;rw[Bool.not_eq_true]at z;(refine rR z ?_;rw[Bool.and_false])
 rewrite[aRefKeyMayBeTheName_at];refine rR c ?_;refine wpAny_updatePart e2 ?_;refine a_<|wpAny_lookBehind D' (pastItsLine_dict<|by refine rR om<|rR sizeLine_eq ?_;have:=len (PyData.keyHash X.w.params x) (.str x<|s.toks+1) es;exact P_ hz this) ?_
 exact cF (q _ _ _ _ D' λb o hb e=>(Heap.get?_update_ne _ _ _ _ hb).trans e)
end
end
section
theorem YA{x:String}{hsh:Int}{tk:Tok}{v:Value}:∀{ns:aY}{es:List DictEntry}{l:au}(pv:PV),jy ns es->jy (eT x pv ns l).1 (putL (Sx x) hsh (.str (Sx x) tk) v es)\/l.length≠ns.length:=by
 intro ns
 induction ns with
 |nil=>
  intro es l pv h;refine rR (xH h) ?_
  induction l using b9 with
  |nil=>left;exact aA [tk] (by simp[rq,rn,putL]) rfl
  |cons p l=>right;simp
 |cons n ns ih=>
  intro es l pv h;refine tZ (uz h) λe r t aQ hk hr=>?_;clear h;subst aQ
  induction l using b9 with
  |nil=>right;simp
  |cons p l=>
   simp only[rq,rn,putL,hk,xJ];by_cases jV:n=x
   ·left;refine rR (bw jV)<|rR (bw<|by simpa using jV) ?_
    refine aC hr λts h1 h2=>?_;exact aA (t::ts) (by simp[h1,hk])<|by simp[h2]
   ·refine rR (bO jV)<|rR (bO<|by simpa using jV) ?_
    rcases ih (l:=l) pv hr with⟨ts,h1,h2⟩|h1
    ·left;exact aA (t::ts) (by simp[h1,hk])<|by simp[h2]
    ·right;simpa using h1
theorem YB{X:Cx}{cf:Cf}{h:Heap}{x:String}{hsh:Int}{tk:Tok}{v:Value}{pv:PV}(rv:Rep X cf h pv v):∀{ns:aY}{es:List DictEntry}{l:au},jy ns es->aO X cf h l (es.map (·.val))->
  aO X cf h (eT x pv ns l).2 ((putL (Sx x) hsh (.str (Sx x) tk) v es).map (·.val)):=by
 intro ns
 induction ns with
 |nil=>
  intro es l hk r;rw[xH hk]at r⊢
  induction l using b9 with
  |nil=>simp only[rq,rn,putL,List.map_cons,List.map_nil];exact aO.fD rv aO.gk
  |cons p l=>obtain⟨_,_,e,_,_⟩:=r;injection e
 |cons n ns ih=>
  intro es l hk r;refine tZ (uz hk) λe rr t aR hke hr=>?_;clear hk;subst aR
  induction l using b9 with
  |nil=>exact absurd r<|tE _ _
  |cons p l=>
   rw[fK]at r;obtain⟨w,u,he,r1,r2⟩:=r;refine U1 (qZ he) λaT aL=>?_;clear he;subst aT;subst aL;simp only[rq,rn,putL,hke,xJ];by_cases jV:n=x
   ·refine rR (bw jV)<|rR (bw<|by simpa using jV) ?_
    exact aO.fD rv r2
   ·refine rR (bO jV)<|rR (bO<|by simpa using jV) ?_
    exact aO.fD r1<|ih hr r2
theorem YC{ns:aY}{es:List DictEntry}(h:jy ns es):es.length=ns.length:=by refine aC h λts h1 h2=>?_;have:=congrArg List.length h1;simpa[h2]using this
theorem JM{x:String}:∀{ns:aY}{l:au},l.length=ns.length->ns.contains x=true->∃pw,fW x ns l=some pw
 |[],_,_,h=>by simp at h
 |k::ks,[],h,_=>by simp at h
 |k::ks,w::ws,h,hx=>by
  simp only[fW];by_cases hkx:k=x
  ·exact⟨w,by exact rR (bw hkx) rfl⟩
  ·refine rR (bO hkx) ?_;refine JM (by simpa using h) ?_;simpa[List.contains_cons,Ne.symm hkx]using hx
set_option tactic.hygienic true in
theorem YD{Kt:Type}[DecidableEq Kt](kvs:List<|Kt×Value)(k:Kt)(v:Value)(y:Kt):valueAt (stored kvs k v) y=if y=k then some v else valueAt kvs y:=by
 have A:∀l:List<|Kt×Value,y≠k->valueAt (l.map λkv=>if kv.1=k then(kv.1,v)else kv) y=valueAt l y:=λl hy=>by
  induction l with
  |nil=>rfl
  |cons p r ih=>
   rw[l_,l_]at ih⊢;obtain⟨a,b⟩:=p;by_cases ha:a=k
   ·simp only[List.map_cons,if_pos ha,List.lookup_cons,show(y==a)=false by simpa usingλe=>hy<|e.trans ha];exact ih
   ·simp only[List.map_cons,if_neg ha,List.lookup_cons];by_cases uK:y=a
    ·simp[uK]
    ·simp only[show(y==a)=false by simpa using uK];exact ih
 have B:∀l:List<|Kt×Value,l.any (λkv=>kv.1=k)=true->valueAt (l.map λkv=>if kv.1=k then(kv.1,v)else kv) k=some v:=λl hl=>by
  induction l with
  |nil=>exact nB hl
  |cons p r ih=>
   rw[l_]at ih⊢;obtain⟨a,b⟩:=p;by_cases ha:a=k
   ·simp[ha]
   ·simp only[List.map_cons,if_neg ha,List.lookup_cons,show(k==a)=false by simpa usingλe=>ha e.symm];exact ih<|by simpa[ha]using hl
 unfold stored;split
 ·rename_i h;by_cases hy:y=k
  ·refine rR (bw hy)<|rR hy ?_;exact B _ h
  ·refine rR (bO hy) ?_;exact A _ hy
 ·rename_i h;have C:∀l:List<|Kt×Value,¬l.any (λkv=>kv.1=k)=true->valueAt (l++[(k,v)]) y=if y=k then some v else valueAt l y:=λl hl=>by
   induction l with
   |nil=>
    rw[l_,l_];by_cases hy:y=k
    ·simp[hy]
    ·simp[List.lookup_cons,hy,show(y==k)=false by simpa using hy]
   |cons p r ih=>
    rw[l_,l_]at ih⊢;obtain⟨a,b⟩:=p;have ha:a≠k:=λe=>hl<|by simp[e]
    have hr:¬r.any (λkv=>kv.1=k)=true:=λe=>hl<|by simp only[List.any_cons,e,Bool.or_true]
    simp only[List.cons_append,List.lookup_cons];by_cases uK:y=a
    ·clear hl;subst uK;simp[ha]
    ·simp only[show(y==a)=false by simpa using uK];exact ih hr
  exact C _ h
section
variable {X:Cx}{d:Nat}{A:Around}{cf:Cf}{s:Shared}{E:cJ}{R:Unit->Shared->Prop}{v vo vi:Value}{p:PV}
theorem YE{n:Nat}{c x:String}{ns:aY}{l:au}{pv:PV}(T:eK X)(S:aU X cf s.heap)(hn:cf.H[n]?=some (some<|.n c ns l))(ro:Rep X cf s.heap (.e n) vo)(rv:Rep X cf s.heap pv v)(ho:storeOk X c x)(hz:ns.length<100)
  (q:∀aI s',Step cf s aI s'->aU X aI s'.heap->aI.H=cf.H.set n (some<|.n c (eT x pv ns l).1 (eT x pv ns l).2)->R () s'):wpAny (model X.prog X.w) A (setAttr vo (Sx x) v) R E s:=by
 obtain⟨pp,e2,rfl⟩:=ro;obtain⟨hne,C,es,m,hc,g1,g2,hk,rl⟩:=S.rep n _ pp hn e2;refine E7 ho λC' hc' h1 h2 h3 h4=>?_;rw[hc]at hc';obtain rfl:=aK hc';have hl:=YC hk;have jd:l.length=ns.length:=by have:=rl.length;simpa[hl]using this.symm
 have hg:(getL (Sx x) es).isSome=true:=by
  by_cases hx:ns.contains x=true
  ·have this:=JM jd hx;refine X1 this λpw x8=>?_;refine aC (B5 hk rl x8) λw hw U=>?_;refine rR hw ?_;rfl
  ·refine rR (Jh hk<|by simpa using hx) ?_;rfl
 refine Yz (qd T S) g1 g2 h1 h2 h3 h4 hg (Qa hz hl) λh' t hsh tk hd hkeep=>?_;have k:∀b o,b≠pp.1->b≠pp.2->s.heap.get? b=some o->h'.get? b=some o:=λb o U h2 e=>hkeep b o h2 e;have K:=xy (.n c (eT x pv ns l).1 (eT x pv ns l).2) S hn e2 k;have z:=xA (t:=t) (eV:=.n c (eT x pv ns l).1 (eT x pv ns l).2) S hn e2 k
  ⟨hne,C,putL (Sx x) hsh (.str (Sx x) tk) v es,putN (Sx x) es m,hc,hkeep _ _ (Ne.symm hne) g1,hd,(YA pv hk).resolve_right λh=>h jd,(YB rv hk rl).mono K _⟩
 exact q _ _ z.1 z.2 rfl
theorem size_set{n j:Nat}{l:au}{vs:dg}(r:aO X cf s.heap l vs.toList){pv:PV}(rv:Rep X cf s.heap pv v):aO X cf s.heap (l.set j pv) (vs.setIfInBounds j v).toList:=by refine rR Array.toList_setIfInBounds ?_;exact r.set rv j
theorem YF{n j:Nat}{l:au}{k:Int}{pv:PV}(S:aU X cf s.heap)(hn:cf.H[n]?=some (some<|.l l))(ro:Rep X cf s.heap (.e n) vo)(ri:Rep X cf s.heap (.i k) vi)(rv:Rep X cf s.heap pv v)(hj:gx k l.length=some j)
  (q:∀aI s',Step cf s aI s'->aU X aI s'.heap->aI.H=cf.H.set n (some<|.l<|l.set j pv)->R () s'):wpAny (model X.prog X.w) A (setItem vo vi v) R E s:=by
 refine kE (rM S hn ro) λa vs m aM hl hz rl=>?_;subst aM;refine X1 ri λt aP=>?_;clear ri;subst aP;have e1:vs.size=l.length:=by have:=rl.length;simpa using this
 have hk:small k:=Jd hj<|FJ hz e1
 refine Yy hl hk (by refine rR e1 ?_;exact hj) ?_;have hp:(s.heap.update a (Obj.mapSeq (·.setIfInBounds j v))).PlainList a (vs.setIfInBounds j v):=⟨_,PySem.IsL.update hl _⟩
 refine U2 (xK (t:=s.toks) (l':=l.set j pv) S hn ro hp (Heap.SameBut.update ..) (by refine rR Array.size_setIfInBounds ?_;exact hz)<|size_set (n:=n) rl rv) λst2 S2 K2=>?_;exact q _ _ st2 S2 rfl
theorem YG{n m:Nat}{f:Int->bK}{k i:Int}(S:aU X cf s.heap)(hn:cf.H[n]?=some (some<|.i m f))(ro:Rep X cf s.heap (.e n) vo)(ri:Rep X cf s.heap (.i k) vi)(rv:Rep X cf s.heap (.i i) v)(hm:m<2^20)
  (q:∀aI s',Step cf s aI s'->aU X aI s'.heap->aI.H=cf.H.set n (some (.i (m+1) λx=>if x=k then some i else f x))->R () s'):wpAny (model X.prog X.w) A (setItem vo vi v) R E s:=by
 obtain⟨pp,e2,rfl⟩:=ro;refine X1 ri λt aN=>?_;clear ri;subst aN;refine X1 rv λu aQ=>?_;clear rv;subst aQ;obtain⟨he,hs,kvs,hd,hl,hi⟩:=S.rep n _ pp hn e2;refine wpAny_setItem_pairs (knd:=intKind X.prog X.w) (k:=k) (by simp[PySem.intKind,Value.isInt]) hd (λh' hd' hs'=>?_)<|iO<|Qc hm hl
 have k':∀b o,b≠pp.1->b≠pp.2->s.heap.get? b=some o->h'.get? b=some o:=λb o h1 U e=>hs'.extBut b o h1 e;have hval:∀y,valueAt (stored kvs k<|Value.int i u) y=if y=k then some (Value.int i u)else valueAt kvs y:=λy=>YD ..
 have z:=xA (t:=s.toks+1) (eV:=.i (m+1) λx=>if x=k then some i else f x) S hn e2 k'
  ⟨he,hs,_,hd',eR (stored_length_le _ _ _)<|FP hl,λy=>by
   rw[hval];by_cases hy:y=k
   ·simp only[if_pos hy];exact⟨u,rfl⟩
   ·simp only[if_neg hy];exact hi y⟩
 exact q _ _ z.1 z.2 rfl
end
end
section
theorem YH{Kt:Type}[DecidableEq Kt]{a k:Kt}{b v:Value}{r:List<|Kt×Value}(h:a≠k):stored ((a,b)::r) k v=(a,b)::stored r k v:=by
 unfold stored;simp only[List.any_cons,decide_eq_false h,Bool.false_or];split
 ·simp[h]
 ·rfl
theorem YI{Kt:Type}[DecidableEq Kt]{k:Kt}{b v:Value}{r:List<|Kt×Value}(h:k∉r.map (·.1)):stored ((k,b)::r) k v=(k,v)::r:=by
 unfold stored;simp only[List.any_cons,decide_true,Bool.true_or,if_true,List.map_cons];congr 1
 induction r with
 |nil=>rfl
 |cons p r ih=>
  have h1:p.1≠k:=λe=>h<|by simp[e]
  simp only[List.map_cons,if_neg h1];exact rR (ih λhm=>h<|by rw[fK];exact dh _ hm) rfl
theorem YJ{X:Cx}{cf:Cf}{h:Heap}{x:String}{v:Value}{pv:PV}(rv:Rep X cf h pv v):∀{ks:aY}{vals:cz}{l:au},vals.length=ks.length->aO X cf h l vals->(((ks.map Sx).zip vals).map (·.1)).Nodup->
  ∃vals',stored ((ks.map Sx).zip vals) (Sx x) v=((eT x pv ks l).1.map Sx).zip vals'/\vals'.length=(eT x pv ks l).1.length/\aO X cf h (eT x pv ks l).2 vals':=by
 intro ks
 induction ks with
 |nil=>
  intro vals l hl r U
  induction vals using b9 with
  |cons _ _=>simp at hl
  |nil=>
   induction l using b9 with
   |nil=>exact cM [v] rfl rfl<|aO.fD rv aO.gk
   |cons p l=>obtain⟨_,_,e,_,_⟩:=r;injection e
 |cons k ks ih=>
  intro vals l hl r hn
  induction vals using b9 with
  |nil=>simp at hl
  |cons w vals=>
   induction l using b9 with
   |nil=>exact absurd r<|tE _ _
   |cons p l=>
    obtain⟨w',u,he,r1,r2⟩:=r;refine U1 (qZ he) λaR aT=>?_;clear he;subst aR;subst aT;simp only[List.map_cons,List.zip_cons_cons]at hn⊢;refine U1 (kC.mp hn) λhn1 hn2=>?_;by_cases hkx:k=x
    ·clear ih;subst hkx;simp only[rq,rn,if_pos rfl];exact cM (v::vals) (by refine rR (YI hn1) ?_;rfl) (by simpa using hl)<|aO.fD rv r2
    ·simp only[rq,rn,if_neg hkx];refine c_ (ih (by simpa using hl) r2 hn2) λvals' e1 e2 e3=>?_;exact cM (w::vals') (by refine rR (YH λe=>hkx<|lq e)<|rR e1 ?_;rfl) (by simpa using e2)<|aO.fD r1 e3
section
variable {X:Cx}{d:Nat}{A:Around}{cf:Cf}{s:Shared}{E:cJ}{R:Unit->Shared->Prop}{v vo vi:Value}{p:PV}
theorem YK{prog:Program}{w:World}{Kt:Type}[DecidableEq Kt]{knd:KeyKind prog w Kt}{h:Heap}{a:Addr}{f:List<|Kt×Value}(x:h.DictOf knd a f):(f.map (·.1)).Nodup:=t6 x λU U U U U U U U n=>n
theorem YL{n:Nat}{ks:aY}{l:au}{x:String}{pv:PV}(S:aU X cf s.heap)(hn:cf.H[n]?=some (some<|.s ks l))(ro:Rep X cf s.heap (.e n) vo)(ri:Rep X cf s.heap (.s x) vi)(rv:Rep X cf s.heap pv v)(hm:ks.length<1000)
  (q:∀aI s',Step cf s aI s'->aU X aI s'.heap->aI.H=cf.H.set n (some<|.s (eT x pv ks l).1 (eT x pv ks l).2)->R () s'):wpAny (model X.prog X.w) A (setItem vo vi v) R E s:=by
 obtain⟨pp,e2,rfl⟩:=ro;refine X1 ri λt aL=>?_;clear ri;subst aL;obtain⟨he,hs,vals,hd,hl,rl⟩:=S.rep n _ pp hn e2;refine wpAny_setItem_pairs (knd:=strKind X.prog X.w) (k:=Sx x) (by simp[PySem.strKind,Value.isStrOf]) hd (λh' hd' hs'=>?_)<|iO<|by(refine rR List.length_zip ?_;rewrite[bI]);exact Qd hm
 have k':∀b o,b≠pp.1->b≠pp.2->s.heap.get? b=some o->h'.get? b=some o:=λb o h1 U e=>hs'.extBut b o h1 e;refine c_ (YJ (x:=x) rv hl rl<|YK hd) λvals' e1 xB e3=>?_;rw[e1]at hd';have K:=xy (.s (eT x pv ks l).1 (eT x pv ks l).2) S hn e2 k';have z:=xA (t:=s.toks+1) (eV:=.s (eT x pv ks l).1 (eT x pv ks l).2) S hn e2 k' ⟨he,hs,vals',hd',xB,e3.mono K _⟩;exact q _ _ z.1 z.2 rfl
theorem YM{po pi pv:PV}{H':ak}(S:aU X cf s.heap)(ro:Rep X cf s.heap po vo)(ri:Rep X cf s.heap pi vi)(rv:Rep X cf s.heap pv v)(h:rB cf.H po pi pv=some H')
  (q:∀aI s',Step cf s aI s'->aU X aI s'.heap->aI.H=H'->R () s'):wpAny (model X.prog X.w) A (setItem vo vi v) R E s:=by
 refine Hf h λn en h=>?_;subst en;refine bG h λo ho h=>?_;refine bG h λao hn h=>?_;subst hn
 induction ao using AO.casesOn with
 |l l=>
  refine nA h λk ek h=>?_;subst ek;refine gY h λj hj e=>?_;clear h;clear h;subst e;exact YF S ho ro ri rv hj q
 |i m f=>
  refine nA h λk ek h=>?_;refine nA h λj ej h=>?_;subst ek ej;refine p_ h λhm e=>?_;clear h;clear h;obtain rfl:=aK e;exact YG S ho ro ri rv hm q
 |s ks l=>
  refine G_ h λx ex h=>?_;subst ex;refine p_ h λhm e=>?_;clear h;clear h;obtain rfl:=aK e;exact YL S ho ro ri rv hm q
 |n c ns l=>exact nN h
end
section
variable {X:Cx}{d:Nat}{aa:Env}{ai:b5}{ae:bF}{H:ak}{Q:SP}{cf aI:Cf}{s s' s'':Shared}
theorem YN{o i value:Expr}{p pos:Pos}(hs:swapsWith value (some<|.Subscript o i p) pos.line aa=pure false)
  (h:AE X d aa ai ae value H λv H'=>AE X d aa ai ae o H' λvo c8=>AE X d aa ai ae i c8 λvi H3=>∃H4,rB H3 vo vi v=some H4/\Q .n ae H4):
  gq X d aa ai ae (.Assign [.Subscript o i p] value pos) H Q:=λA cf s E hA hH S R=>by
 refine wpAny_Assign_Subscript ?_ hs;refine bz (h A cf s E hA hH S R) (λv s₁ y=>?_) λU U y=>y;obtain⟨aS,pv,gI,S₁,r,q⟩:=y;have cI:=R.step S gI;refine bz (q A aS s₁ E hA rfl S₁ cI) (λvo s₂ y=>?_) λU U y=>y;obtain⟨gy,po,cU,S₂,ro,q⟩:=y;have fN:=cI.step S₁ cU;refine bz (q A gy s₂ E hA rfl S₂ fN) (λvi s₃ y=>?_) λU U y=>y;obtain⟨mu,pi,fO,fE,ri,H4,e4,q⟩:=y;have my:=fN.step S₂ fO;refine YM fE (ro.mono<|fO.kept S₂.own) ri ((r.mono<|cU.kept S₁.own).mono<|fO.kept S₂.own) e4 λaI s' st' S' e'=>?_;have ST:=((gI.trans S.own cU).trans S.own fO).trans S.own st';exact⟨aI,.n,ae,ST.toF,S',my.step fE st',rfl,e'.symm▸q⟩
theorem YO{o value:Expr}{x:String}{p pos:Pos}(T:eK X)(hs:swapsWith value (some<|.Attribute o (Sx x) p) pos.line aa=pure false)
  (h:AE X d aa ai ae value H λv H'=>AE X d aa ai ae o H' λvo c8=>∃n c ns l,vo=.e n/\c8[n]?=some (some<|.n c ns l)/\storeOk X c x/\ns.length<100/\Q .n ae (c8.set n<|some<|.n c (eT x v ns l).1 (eT x v ns l).2)):
  gq X d aa ai ae (.Assign [.Attribute o (Sx x) p] value pos) H Q:=λA cf s E hA hH S R=>by
 refine plainObj_wpAny_Assign_Attribute ?_ hs;refine bz (h A cf s E hA hH S R) (λv s₁ y=>?_) λU U y=>y;obtain⟨aS,pv,gI,S₁,r,q⟩:=y;have cI:=R.step S gI;refine bz (q A aS s₁ E hA rfl S₁ cI) (λvo s₂ y=>?_) λU U y=>y;obtain⟨gy,po,cU,S₂,ro,n,c,ns,l,rfl,hn,hso,hz,q⟩:=y;have fN:=cI.step S₁ cU;refine YE T S₂ hn ro (r.mono<|cU.kept S₁.own) hso hz λaI s' st' S' e'=>?_;have ST:=(gI.trans S.own cU).trans S.own st';exact⟨aI,.n,ae,ST.toF,S',fN.step S₂ st',rfl,e'.symm▸q⟩
noncomputable def r6(e:Expr):Bool:=!(e.ctorIdx.beq 8||e.ctorIdx.beq 9||e.ctorIdx.beq 10)
theorem JN{e:Expr}(h:r6 e=true)(t:Option Expr)(l:Nat):swapsWith e t l aa=pure false:=by
 unfold swapsWith
 induction e using Expr.casesOn<;>first|rfl|exact nB h
noncomputable def notName(e:Expr):Bool:=!(Nat.beq e.ctorIdx 23)
theorem Cw{e t:Expr}(h:notName t=true)(l:Nat):swapsWith e (some t) l aa=pure false:=by
 unfold swapsWith
 induction e using Expr.casesOn<;>first|rfl|(induction t using Expr.casesOn<;>first|rfl|exact nB h)
theorem YQ{e:Expr}{pos:Pos}(hc:r6 e=true)(h:AE X d aa ai ae e H λv H'=>Q .n ae H'):gq X d aa ai ae (.Expr e pos) H Q:=λA cf s E hA hH S R=>by
 have hi:interactive aa=false:=by unfold interactive;refine rR R.kind ?_;rfl
 show wpAny _ A (do
  standAt pos
  if interactive aa then printExpr (eval e aa)
  else if<-swapsWith e none pos.line aa then do evalThenUse e aa λU=>point;pure .next
  else do dropValue e pos (<-eval e aa)) _ E s
 refine rR hi ?_;rewrite[JN hc];refine a_<|wpAny_standAt ?_
 refine rR (bO<|by decide) ?_;refine a_<|cF ?_
 refine rR (bO<|by decide) ?_;refine a_ (bz (h A cf s E hA hH S R) (λv s₁ y=>?_) λU U y=>y);obtain⟨aS,pv,st,S₁,r,q⟩:=y;exact wpAny_dropValue ⟨aS,.n,ae,st.toF,S₁,R.step S st,rfl,q⟩
end
end
section
section
variable {X:Cx}{d:Nat}{G:Addr->Prop}{aa:Env}{ai:b5}{ae:bF}{H:ak}{Q:SP}{cf aI:Cf}{s s' s'':Shared}
inductive jW (G:Addr->Prop)(ai:b5)(aa:Env):bL->aG->aY->Prop
 |nil:jW G ai aa [] [] []
 |cons {x:String} {p:Pos} {i:Nat} {es:bL} {is:aG} {xs:aY} (h1:ai[i]?=some (some x)) (h2:aa.kindOf (Sx x)=some .local\/aa.kindOf (Sx x)=some .cell) (h3:kN aa G x) (r:jW G ai aa es is xs):
   jW G ai aa (.Name (Sx x) p::es) (i::is) (x::xs)
inductive je (X:Cx)(G:Addr->Prop)(ai:b5)(aa:Env):List (Value->Sem Unit)->aG->Prop
 |nil:je X G ai aa [] []
 |cons {f:Value->Sem Unit} {x:String} {i:Nat} {fs:List<|Value->Sem Unit} {is:aG} (h1:ai[i]?=some (some x)) (h2:aa.kindOf (Sx x)=some .local\/aa.kindOf (Sx x)=some .cell)
   (h3:∀{A:Around}{E:cJ}{s:Shared}{K:Unit->Shared->Prop}{v:Value},wpAny (model X.prog X.w) A (storeName aa (Sx x) v) K E s->wpAny (model X.prog X.w) A (f v) K E s)
   (h4:kN aa G x) (r:je X G ai aa fs is):je X G ai aa (f::fs)<|i::is
theorem je.length{fs:List<|Value->Sem Unit}{is:aG}(h:je X G ai aa fs is):fs.length=is.length:=by
 induction h with
 |nil=>rfl
 |cons _ _ _ _ _ ih=>simp[ih]
theorem je.append{fs gs:List<|Value->Sem Unit}{is js:aG}(h:je X G ai aa fs is)(h':je X G ai aa gs js):je X G ai aa (fs++gs) (is++js):=by
 induction h with
 |nil=>exact h'
 |cons a b c g _ ih=>exact .cons a b c g ih
theorem je.reverse{fs:List<|Value->Sem Unit}{is:aG}(h:je X G ai aa fs is):je X G ai aa fs.reverse is.reverse:=by
 induction h with
 |nil=>exact .nil
 |cons a b c g _ ih=>refine rR pR<|rR pR ?_;exact ih.append<|.cons a b c g .nil
theorem jW.YR{es:bL}{is:aG}{xs:aY}(h:jW G ai aa es is xs):je X G ai aa ((assignEach es aa).map (·.2)) is/\(assignEach es aa).findIdx? (·.1)=none/\(assignEach es aa).length=is.length:=by
 induction h with
 |nil=>exact⟨.nil,rfl,rfl⟩
 |@cons x p i es is xs h1 h2 h3 r ih=>
  have e:assignEach (.Name (Sx x) p::es) aa=(false,assign (.Name (Sx x) p) aa)::assignEach es aa:=rfl;refine rR e ?_;refine⟨.cons h1 h2 (λh=>assign_Name h) h3 ih.1,?_,by simp[ih.2.2]⟩;rw[List.findIdx?_cons];simp[ih.2.1]
theorem jW.binds{es:bL}{is:aG}{xs:aY}(h:jW G ai aa es is xs):je X G ai aa (xs.map λx=>bindName aa<|Sx x) is:=by
 induction h with
 |nil=>exact .nil
 |cons h1 h2 h3 r ih=>exact .cons h1 h2 (λh=>bindName_ h) h3 ih
theorem JO:∀(is:aG)(vs:au)(ae:bF)(i:Nat)(v:PV),is.length=vs.length->bx (is++[i]) (vs++[v]) ae=(bx is vs ae).set i (some v)
 |[],[],ae,i,v,_=>rfl
 |j::is,w::vs,ae,i,v,h=>JO is vs (ae.set j<|some w) i v<|by simpa using h
 |[],_::_,_,_,_,h=>by simp at h
 |_::_,[],_,_,_,h=>by simp at h
theorem JP:∀(is:aG)(vs:au)(ae:bF)(i:Nat)(v:PV),i∉is->bx is vs (ae.set i<|some v)=(bx is vs ae).set i (some v)
 |[],vs,ae,i,v,_=>by induction vs using b9<;>rfl
 |j::is,[],ae,i,v,h=>rfl
 |j::is,w::vs,ae,i,v,h=>by
  have h1:i≠j:=λe=>h<|e▸cR
  simp only[bx];exact rR (List.set_comm _ _ h1)<|rR (JP is vs _ i v λhm=>h<|dh _ hm) rfl
theorem JQ:∀(is:aG)(vs:au)(ae:bF),is.Nodup->is.length=vs.length->bx is.reverse vs.reverse ae=bx is vs ae
 |[],vs,ae,_,_=>by induction vs using b9<;>simp[bx]
 |i::is,[],ae,_,h=>by simp at h
 |i::is,v::vs,ae,hn,h=>by
  refine U1 (kC.mp hn) λh1 h2=>?_;refine rR pR<|rR pR<|rR (JO _ _ _ _ _ (by simpa using h))<|rR (JQ is vs ae h2<|by simpa using h) ?_
  simp only[bx];exact rR (JP is vs ae i v h1) rfl
theorem stores{A:Around}{E:cJ}(hN:d8 ai)(hG:∀b,G b->cN aa b){fs:List<|Value->Sem Unit}{is:aG}(h:je X G ai aa fs is):∀{jX:au}{vs:cz}{ae:bF}{s:Shared}{K:Unit->Shared->Prop},
  aO X cf s.heap jX vs->aU X cf s.heap->cK X cf aa ai ae s.heap->fs.length=vs.length->(∀s',dH G cf s cf s'->aU X cf s'.heap->cK X cf aa ai (bx is jX ae) s'.heap->K () s')->wpAny (model X.prog X.w) A (assignInOrder fs vs) K E s:=by
 induction h with
 |nil=>
  intro jX vs ae s K r S R hl k
  induction vs using b9 with
  |nil=>
   refine cF<|k s (dH.refl _ _) S ?_
   clear k r
   induction jX using b9<;>exact R
  |cons _ _=>simp at hl
 |@cons f x i fs is h1 h2 h3 h4 _ ih=>
  intro jX vs ae s K r S R hl k
  induction vs using b9 with
  |nil=>simp at hl
  |cons v vs=>
   induction jX using b9 with
   |nil=>exact absurd r<|tE _ _
   |cons p jX=>
    obtain⟨w,u,he,r1,r2⟩:=r;refine U1 (qZ he) λaM aP=>?_;clear he;subst aM;subst aP;refine a_<|wpAny_holding<|h3 (Cv hN h1 h2 h4 S R r1 λh' st S' R' t=>?_)
    have st':dH G cf s cf {s with heap:=h',toks:=t}:=⟨I2 h' t rfl,st.keep,st.avoid,st.fresh,st.owned,st.refs⟩
    have r2':aO X cf h' jX vs:=r2.mono (st.kept S λb hb=>cN.of R<|hG b hb) jX;refine ih (s:={s with heap:=h',toks:=t}) r2' S' R' (by simpa using hl) λs₂ cU S₂ fN=>k s₂ (st'.trans S S' (λb hb=>cN.of R<|hG b hb) cU) S₂ fN
theorem c5.extBut{h h':Heap}(x:Heap.ExtBut h.objs.size h h'):c5 h h':=λb o e=>x b o (gP<|fJ e) e
theorem JR{A:Around}{E:cJ}{K:cz->Shared->Prop}{l:au}{v:Value}(hA:c7 d A)(S:aU X cf s.heap)(R:cK X cf aa ai ae s.heap)(r:Rep X cf s.heap (.t l) v)
  (k:∀vs s',Step cf s cf s'->aU X cf s'.heap->aO X cf s'.heap l vs->K vs s'):wpAny (model X.prog X.w) A (unpackItems v l.length none) K E s:=by
 obtain⟨a,vs,rfl,_,ht,hz,rl⟩:=r;have e1:vs.size=l.length:=by have:=rl.length;simpa using this
 refine rL e1 ?_;refine PyProof.Rows.unpackItems_tuple hA.hh ht λh' hx=>?_;have g:=c5.extBut hx;exact k _ _ (Step.grown (t:=s.toks) g) (S.grown g) (rl.grown g)
theorem JS{A:Around}{E:cJ}{K:Unit->Shared->Prop}{elts:bL}{is:aG}{xs:aY}{k:Nat}{p:Pos}{l:au}{v:Value}(hN:d8 ai)(hG:∀b,G b->cN aa b)(ht:jW G ai aa elts is xs)(hl:is.length=l.length)
  (hA:c7 d A)(S:aU X cf s.heap)(R:cK X cf aa ai ae s.heap)(r:Rep X cf s.heap (.t l) v)
  (q:∀s',dH G cf s cf s'->aU X cf s'.heap->cK X cf aa ai (bx is l ae) s'.heap->K () s'):wpAny (model X.prog X.w) A (assign (.Tuple elts k p) aa v) K E s:=by
 refine U2 (ht.YR (X:=X)) λh1 h2 h3=>?_;show wpAny _ A (do standAt p;unpack v (assignEach elts aa)) K E s;refine a_<|wpAny_standAt ?_
 unfold unpack;refine rR h2<|rR h3<|rR hl ?_
 refine a_<|wpAny_holding (JR hA S R r λvs s₁ st S₁ rl=>?_)
 refine stores hN hG h1 rl S₁ (R.step S st) ?_ λs₂ cU S₂ fN=>q s₂ (st.toF.trans S S₁ (λb hb=>cN.of R<|hG b hb) cU) S₂ fN;refine rR rl.length<|rL hl ?_
 rewrite[bI];exact rR h3 rfl
theorem YS{value:Expr}{elts:bL}{is:aG}{xs:aY}{k:Nat}{p pos:Pos}(hN:d8 ai)(ht:jW (cN aa) ai aa elts is xs)(hd:is.Nodup)
  (hw:swappedStores [.Tuple elts k p] value aa=pure none\/swappedStores [.Tuple elts k p] value aa=pure (some<|xs.map Sx))
  (h:AE X d aa ai ae value H λv H'=>∃l,v=.t l/\is.length=l.length/\Q .n (bx is l ae) H'):gq X d aa ai ae (.Assign [.Tuple elts k p] value pos) H Q:=λA cf s E hA hH S R=>by
 have hs:swapsWithSole [.Tuple elts k p] value pos.line aa=pure false:=by show swapsWith value (some<|.Tuple elts k p) pos.line aa=pure false;exact Cw (by rfl) _
 rcases hw with hw|hw
 ·refine PyProof.Rows.Assign_Tuple ?_ hs hw;refine bz (h A cf s E hA hH S R) (λv s₁ y=>?_) λU U y=>y;obtain⟨aS,pv,st,S₁,r,l,rfl,hl,q⟩:=y;refine JS hN (λU h=>h) ht hl hA S₁ (R.step S st) r λs₂ cU S₂ fN=>?_;exact⟨aS,.n,_,st.toF.trans S S₁ (λb=>cN.of R) cU,S₂,fN,rfl,q⟩
 ·refine PyProof.Rows.Assign_Tuple_swapped ?_ hs hw;refine bz (h A cf s E hA hH S R) (λv s₁ y=>?_) λU U y=>y;obtain⟨aS,pv,st,S₁,r,l,rfl,hl,q⟩:=y;have cI:=R.step S st;have hb:=ht.binds (X:=X);have JT:xs.length=is.length:=by have:=hb.length;simpa using this
  rewrite[bI];refine rR JT<|rR hl ?_
  refine JR hA S₁ cI r λvs s₂ cU S₂ rl=>?_;have e:((xs.map Sx).reverse.map λn=>bindName aa n)=(xs.map λx=>bindName aa<|Sx x).reverse:=by refine rL tM<|rR i6<|rL tM ?_;rfl
  refine rR e ?_;refine stores hN (λU h=>h) hb.reverse rl.reverse S₂ (cI.step S₁ cU) (by(refine rR List.length_reverse<|rR List.length_reverse ?_;rewrite[bI];exact rR rl.length<|rR JT<|rR hl rfl)) λs₃ fO fE my=>?_;rw[JQ _ _ _ hd hl]at my;exact⟨aS,.n,_,(st.trans S.own cU).toF.trans S S₂ (λb=>cN.of R) fO,fE,my,rfl,q⟩
end
end
section
section
variable {X:Cx}{F:Addr->Prop}{cf aI nv:Cf}{s s' s'':Shared}
theorem dH.JU{W:List Addr}(S:aU X cf s.heap)(S':aU X aI s'.heap)(hF:∀b,F b->cf.O b/\¬Own cf b)(hW:∀b∈W,s.heap.get? b=none)(x:dH F cf s aI s')(y:dH (λb=>F b\/b∈W) aI s' nv s''):dH F cf s nv s'':=by
 have nw:∀b o,¬Own cf b->s.heap.get? b=some o->¬Own aI b:=λb o hb e hw=>by
  rcases x.owned b hw with h|h
  ·exact hb h
  ·rw[h]at e;exact nN e
 have back:∀b,s'.heap.get? b=none->Own cf b\/s.heap.get? b=none:=λb h'=>by
  by_cases hb:Own cf b
  ·exact .inl hb
  ·by_cases hf:F b
   ·refine X1 (S.here b (hF b hf).1) λo e=>?_;refine X1 (S'.here b<|x.avoid b o (hF b hf).1 hb e) λo' e'=>?_;rw[h']at e';exact nN e'
   ·cases e:s.heap.get? b with
    |none=>exact .inr rfl
    |some o=>rw[x.keep b o hb hf e]at h';exact sN h'
 refine⟨?_,λb o hb hf e=>y.keep b o (nw b o hb e) (λh=>h.elim hf λhw=>by rw[hW b hw]at e;exact nN e)<|x.keep b o hb hf e,λb o h hb e=>?_,λb h=>?_,λb h=>?_,λn p h=>y.refs n p<|x.refs n p h⟩
 ·(refine X2 x.same λh1 t1 aN=>?_;clear S' x back;subst aN)
  refine X2 y.same λh2 t2 aQ=>?_;clear y;subst aQ;exact I2 h2 t2 rfl
 ·have h1:=x.avoid b o h hb e;refine X1 (S'.here b h1) λo' e'=>?_;exact y.avoid b o' h1 (nw b o hb e) e'
 ·rcases y.fresh b h with h'|h'
  ·exact x.fresh b h'
  ·exact(back b h').imp (S.own b) id
 ·rcases y.owned b h with h'|h'
  ·exact x.owned b h'
  ·exact back b h'
theorem cK.qi{aa:Env}{ai:b5}{ae:bF}(x:cK X cf aa ai ae s.heap)(S:aU X cf s.heap)(st:dH F cf s aI s')(hF:∀b,F b->cf.O b/\¬Own cf b)(hE:∀b,F b->¬cN aa b):cK X aI aa ai ae s'.heap:=by
 refine d_ x.vals λm cm hn hc hv=>?_;have K:=st.kept S hF;have nL:¬Own cf aa.locals:=λq=>(x.off _ q).1 rfl;have nC:∀n c,(n,c)∈aa.cells->¬Own cf c:=λn c hm q=>(x.off _ q).2 n c hm rfl;have fL:¬F aa.locals:=λq=>hE _ q (.inl rfl);have fC:∀n c,(n,c)∈aa.cells->¬F c:=λn c hm q=>hE _ q (.inr ⟨n,hm⟩);refine X1 (S.here _ x.av) λoL eL=>?_;refine⟨x.kind,x.glob,x.blt,st.avoid _ _ x.av nL eL,λn c hm=>⟨?_,(x.iu n c hm).2⟩,x.apart,x.oF,λb hb=>?_,m,cm,hn.at' λo e=>st.keep _ o nL fL e,λn c hl=>?_,λi y pv hi hp=>?_⟩
 ·refine X1 (S.here _ (x.iu n c hm).1) λo e=>?_;exact st.avoid _ _ (x.iu n c hm).1 (nC n c hm) e
 ·rcases st.owned b hb with h|h
  ·exact x.off b h
  ·refine⟨λe=>?_,λn c hm e=>?_⟩
   ·rw[e,eL]at h;exact sN h
   ·refine X1 (S.here _ (x.iu n c hm).1) λo e2=>?_;rw[e,e2]at h;exact sN h
 ·refine aC (hc n c hl) λo e d=>?_;exact aA o (st.keep _ o (nC n c<|iG hl) (fC n c<|iG hl) e) d
 ·refine aC (hv i y pv hi hp) λv r h=>?_;exact aA v (r.mono K) h
theorem aU.qi{h h':Heap}(S:aU X cf h)(hk:∀b o,¬F b->h.get? b=some o->h'.get? b=some o)(hF:∀b,F b->cf.O b/\¬Own cf b)(hl:∀b,F b->∃o,h'.get? b=some o):aU X cf h':=by
 have K:Kept cf h cf h':=⟨λb o hb e=>hk b o (λq=>hb (hF b q).1) e,λU U h U=>h,λU U h=>h⟩
 refine⟨S.len,λn ao p e1 e2=>?_,S.own,S.inj,λb hb=>?_,λb o e=>?_⟩
 ·exact(S.rep n ao p e1 e2).mono K (λo e=>hk _ o (λq=>(hF _ q).2 ⟨n,ao,p,e1,e2,.inl rfl⟩) e) λo e=>hk _ o (λq=>(hF _ q).2 ⟨n,ao,p,e1,e2,.inr rfl⟩) e
 ·by_cases hf:F b
  ·exact hl b hf
  ·refine X1 (S.here b hb) λo e=>?_;exact⟨o,hk b o hf e⟩
 ·refine U1 (S.base b o e) λe1 e2=>?_;exact⟨hk b o (λq=>e2 (hF b q).1) e1,e2⟩
end
structure Tn (X:Cx)(A:Around)(target:Expr)(I:Addr)(fp wr:List Addr)(n:Nat)(IR:Nat->Value->Heap->Heap->Prop)(Md:Nat->Value->Heap->Prop)(St:Nat->Heap->Prop):Prop where
 sub:∀b∈wr,b∈fp
 frame:∀i h h',St i h->(∀b∈fp,∀o,h.get? b=some o->h'.get? b=some o)->St i h'
 live:∀i h,St i h->∀b∈fp,∃o,h.get? b=some o
 r7:∀i v h,Md i v h->∀b∈wr,∃o,h.get? b=some o
 item:∀i (s:Shared)(Q:Option Value->Shared->Prop)(E:cJ),i<n->St i s.heap->
  (∀v h' tk,Md i v h'->IR i v s.heap h'->(∀b o,b∉wr->s.heap.get? b=some o->h'.get? b=some o)->Q (some v) {s with heap:=h',toks:=tk})->wpAny (model X.prog X.w) A (pyNext<|.ref I) Q E s
 go:∀i v (s:Shared)(Q:Unit->Shared->Prop)(E:cJ),Md i v s.heap->
  (∀h',St (i+1) h'->(∀b o,b∉wr->s.heap.get? b=some o->h'.get? b=some o)->Q () {s with heap:=h'})->wpAny (model X.prog X.w) A (letOwnedTupleGo target (.ref I) v) Q E s
 done:∀(s:Shared)(Q:Option Value->Shared->Prop)(E:cJ),St n s.heap->
  (∀h' tk,(∀b o,b∉wr->s.heap.get? b=some o->h'.get? b=some o)->Q none {s with heap:=h',toks:=tk})->wpAny (model X.prog X.w) A (pyNext<|.ref I) Q E s
 self:∀i (s:Shared)(Q E:cJ),St i s.heap->Q (.ref I) s->wpAny (model X.prog X.w) A (pyIter<|.ref I) Q E s
def Cy(X:Cx)(items:au)(n:Nat)(src:au)(fP:cz)(IR:Nat->Value->Heap->Heap->Prop):Prop:=
 items.length=n/\∀(i:Nat)(cf:Cf)(h h':Heap)(v:Value),aO X cf h src fP->(∀b,cf.O b->∃o,h.get? b=some o)->Kept cf h cf h'->IR i v h h'->∃p,items[i]?=some p/\Rep X cf h' p v
theorem Tn.ofWalks{X:Cx}{A:Around}{target:Expr}{I:Addr}{fp wr:List Addr}{n:Nat}{P:Nat->Value->Prop}{St:Nat->Heap->Prop}(W:Walks X.prog X.w A I fp wr n P St)(live:∀i h,St i h->∀b∈fp,∃o,h.get? b=some o)
  (hgo:∀i v (s:Shared) (Q:Unit->Shared->Prop) (E:cJ),St i s.heap->Q () s->wpAny (model X.prog X.w) A (letOwnedTupleGo target (.ref I) v) Q E s):
  Tn X A target I fp wr n (λi v U U=>P i v) (λi v h=>P i v/\St (i+1) h) St where
 sub:=W.sub
 frame:=W.frame
 live:=live
 r7:=λi v h hm b hb=>live _ _ hm.2 b (W.sub b hb)
 item:=λi s Q E hi st hQ=>W.item i s Q E hi st λv h' tk hP st' hk=>hQ v h' tk ⟨hP,st'⟩ hP hk
 go:=λi v s Q E hm hQ=>hgo (i+1) v s Q E hm.2 (hQ s.heap hm.2 λU U U e=>e)
 done:=W.done
 self:=W.self
theorem Tn.JV{X:Cx}{A:Around}{elts:bL}{k:Nat}{pos:Pos}{I:Addr}{fp wr:List Addr}{n:Nat}{Pt:Nat->dg->Prop}{St:Nat->Heap->Prop}{Mid:Nat->Addr->Heap->Prop}(W:WalksT X.prog X.w A I fp wr n Pt St Mid)
  (live:∀i h,St i h->∀b∈fp,∃o,h.get? b=some o)(r7:∀i T h,Mid i T h->∀b∈wr,∃o,h.get? b=some o):
  Tn X A (.Tuple elts k pos) I fp wr n (λi v h h'=>∃T vals,v=.ref T/\Pt i vals/\h.objs.size<=T/\h'.IsTuple T vals) (λi v h=>∃T vals,v=.ref T/\Pt i vals/\h.IsTuple T vals/\Mid i T h) St where
 sub:=W.sub
 frame:=W.frame
 live:=live
 r7:=λi v h hm b hb=>by(revert hm;refine Fg λT vals aR U U hm=>?_;subst aR);exact r7 _ _ _ hm b hb
 item:=λi s Q E hi st hQ=>W.item i s Q E hi st λT vals h' tk hP YT hT hm hk=>hQ (.ref T) h' tk (fy T vals rfl hP hT hm) (fy T vals rfl hP YT hT) hk
 go:=λi v s Q E hm hQ=>by revert hm;refine Fg λT vals aT hP hT hm=>?_;subst aT;exact W.go elts k pos i T s Q E hm hQ
 done:=W.done
 self:=W.self
structure LI (X:Cx)(F:Addr->Prop)(cf:Cf)(s:Shared)(fp W:List Addr)(St:Nat->Heap->Prop)(i:Nat)(cD:Cf)(si:Shared):Prop where
 st:dH F cf s cD si
 sim:aU X cD si.heap
 w:∀b∈W,cD.O b/\¬Own cD b
 m:St i si.heap
structure mF (X:Cx)(F:Addr->Prop)(cf:Cf)(s:Shared)(fp W:List Addr):Prop where
 sim:aU X cf s.heap
 fr:∀b,F b->cf.O b/\¬Own cf b
 new:∀b∈W,s.heap.get? b=none
 old:∀b∈fp,b∈W\/((∃o,s.heap.get? b=some o)/\¬cf.O b)
noncomputable def iA(cf:Cf)(W:List Addr):Cf:={cf with O:=λb=>cf.O b\/b∈W}
noncomputable def oW(cf:Cf)(W:List Addr):Cf:={cf with O:=λb=>cf.O b/\b∉W}
section
variable {X:Cx}{F:Addr->Prop}{cf aI cD:Cf}{s s' si:Shared}{fp W wr:List Addr}{St:Nat->Heap->Prop}{i n:Nat}
theorem aside{h':Heap}{t:Nat}(S:aU X cf s.heap)(g:c5 s.heap h')(new:∀b∈W,s.heap.get? b=none)(live:∀b∈W,∃o,h'.get? b=some o):
  Step cf s (iA cf W) {s with heap:=h',toks:=t}/\aU X (iA cf W) h'/\(∀b∈W,(iA cf W).O b/\¬Own (iA cf W) b):=by
 have own:∀b,Own (iA cf W) b↔Own cf b:=λb=>Iff.rfl;have K:Kept cf s.heap (iA cf W) h':=⟨λb o U e=>g b o e,λb o hb e h=>h.elim hb λhw=>(by rw[new b hw]at e;exact nN e),λU U h=>h⟩
 refine⟨⟨I2 h' t rfl,λb o U e=>g b o e,λb o h U U=>.inl h,λb h=>h.elim .inl λhw=>.inr<|new b hw,λb h=>.inl h,λU U h=>h⟩,
  ⟨S.len,λn ao p e1 e2=>(S.rep n ao p e1 e2).mono K (g _)<|g _,λb h=>.inl<|S.own b h,S.inj,λb h=>?_,λb o e=>?_⟩,λb hb=>⟨.inr hb,λh=>?_⟩⟩
 ·rcases h with h|h
  ·refine X1 (S.here b h) λo e=>?_;exact⟨o,g b o e⟩
  ·exact live b h
 ·refine U1 (S.base b o e) λe1 e2=>?_;exact⟨g b o e1,λh=>h.elim e2 λhw=>by rw[new b hw]at e1;exact nN e1⟩
 ·refine X1 (S.here b<|S.own b h) λo e=>?_;rw[new b hb]at e;exact nN e
theorem LI.start{h':Heap}{t:Nat}(B:mF X F cf s fp W)(g:c5 s.heap h')(live:∀b∈W,∃o,h'.get? b=some o)(m:St 0 h'):LI X F cf s fp W St 0 (iA cf W) {s with heap:=h',toks:=t}:=
 let ⟨a,b,c⟩:=aside (t:=t) B.sim g B.new live
 ⟨a.toF,b,c,m⟩
theorem LI.body{G:Addr->Prop}(B:mF X F cf s fp W)(L:LI X F cf s fp W St i cD si)(live:∀i h,St i h->∀b∈fp,∃o,h.get? b=some o)(frame:∀i h h',St i h->(∀b∈fp,∀o,h.get? b=some o->h'.get? b=some o)->St i h')
  (hW:∀b∈W,∃o,si.heap.get? b=some o)(hG:∀b,G b->F b\/b∈W)(YU:∀b∈fp,¬G b)(st:dH G cD si aI s')(S':aU X aI s'.heap):LI X F cf s fp W St i aI s':=by
 refine⟨L.st.JU B.sim L.sim B.fr B.new ⟨st.same,λb o h1 h2 e=>st.keep b o h1 (λq=>h2<|hG b q) e,st.avoid,st.fresh,st.owned,st.refs⟩,S',λb hb=>?_,frame _ _ _ L.m λb hb o e=>?_⟩
 ·refine X1 (hW b hb) λo e=>?_;exact⟨st.avoid b o (L.w b hb).1 (L.w b hb).2 e,λh=>(st.owned b h).elim (L.w b hb).2 λq=>by rw[q]at e;exact nN e⟩
 ·refine st.keep b o (λh=>?_) (YU b hb) e;rcases B.old b hb with hw|⟨⟨o',e'⟩,hO⟩
  ·exact(L.w b hw).2 h
  ·rcases L.st.owned b h with q|q
   ·exact hO<|B.sim.own b q
   ·rw[q]at e';exact nN e'
theorem LI.draw{A:Around}{target:Expr}{I:Addr}{IR:Nat->Value->Heap->Heap->Prop}{Md:Nat->Value->Heap->Prop}{items src:au}{fP:cz}{E K:cJ}{Kn:Shared->Prop}
  (T:Tn X A target I fp wr n IR Md St)(hwr:∀b∈wr,b∈W)(hs:Cy X items n src fP IR)(B:mF X F cf s fp W)(L:LI X F cf s fp W St i cD si)(hW:∀b∈W,∃o,si.heap.get? b=some o)(hi:i<n)(rs:aO X cD si.heap src fP)
  (k:∀v p s₂,items[i]?=some p->dH (λb=>b∈wr) cD si cD s₂->aU X cD s₂.heap->Rep X cD s₂.heap p v->LI X F cf s fp W St (i+1) cD s₂->(∀b∈W,∃o,s₂.heap.get? b=some o)->K v s₂):
  wpAny (model X.prog X.w) A (pyNext<|.ref I) (λr s₁=>match r with
   |none=>Kn s₁
   |some v=>wpAny (model X.prog X.w) A (letOwnedTupleGo target (.ref I) v) (λU s₂=>K v s₂) E s₁) E si:=by
 have wO:∀b,b∈wr->cD.O b/\¬Own cD b:=λb hb=>L.w b<|hwr b hb
 refine T.item i si _ E hi L.m λv h' tk hm YV hk=>?_;have S₁:aU X cD h':=L.sim.qi (F:=λb=>b∈wr) (λb o hb e=>hk b o hb e) wO λb hb=>T.r7 _ _ _ hm b hb;have K₁:Kept cD si.heap cD h':=⟨λb o hb e=>hk b o (λq=>hb (wO b q).1) e,λU U h U=>h,λU U h=>h⟩
 refine aC (hs.2 i cD si.heap h' v rs (λb hb=>L.sim.here b hb) K₁ YV) λp hp rp=>?_;refine T.go i v {si with heap:=h',toks:=tk} _ E hm λh'' st' hk'=>?_;have lv:=T.live _ _ st';have S₂:aU X cD h'':=S₁.qi (F:=λb=>b∈wr) (λb o hb e=>hk' b o hb e) wO λb hb=>lv b<|T.sub b hb
 have K₂:Kept cD h' cD h'':=⟨λb o hb e=>hk' b o (λq=>hb (wO b q).1) e,λU U h U=>h,λU U h=>h⟩
 have stp:dH (λb=>b∈wr) cD si cD {si with heap:=h'',toks:=tk}:=⟨I2 h'' tk rfl,λb o U hb e=>hk' b o hb<|hk b o hb e,λU U h U U=>h,λU h=>.inl h,λU h=>.inl h,λU U h=>h⟩
 have YW:∀b∈W,∃o,h''.get? b=some o:=λb hb=>by
  by_cases hw:b∈wr
  ·exact lv b<|T.sub b hw
  ·refine X1 (hW b hb) λo e=>?_;exact⟨o,hk' b o hw<|hk b o hw e⟩
 refine k v p _ hp stp S₂ (rp.mono K₂) ⟨?_,S₂,L.w,st'⟩ YW;exact L.st.JU B.sim L.sim B.fr B.new ⟨stp.same,λb o h1 h2 e=>stp.keep b o h1 (λq=>h2<|.inr<|hwr b q) e,stp.avoid,stp.fresh,stp.owned,stp.refs⟩
theorem LI.drop{h':Heap}{t:Nat}(B:mF X F cf s fp W)(L:LI X F cf s fp W St i cD si)(hk:∀b o,b∉W->si.heap.get? b=some o->h'.get? b=some o):
  dH F cf s (oW cD W) {si with heap:=h',toks:=t}/\aU X (oW cD W) h'/\Kept cD si.heap (oW cD W) h':=by
 have K:Kept cD si.heap (oW cD W) h':=⟨λb o hb e=>hk b o (λq=>hb (L.w b q).1) e,λb o hb U h=>hb h.1,λU U h=>h⟩
 have nw:∀b o,s.heap.get? b=some o->b∉W:=λb o e hw=>by rw[B.new b hw]at e;exact nN e
 refine⟨⟨?_,λb o h1 h2 e=>hk b o (nw b o e)<|L.st.keep b o h1 h2 e,λb o h1 h2 e=>⟨L.st.avoid b o h1 h2 e,nw b o e⟩,λb h=>L.st.fresh b h.1,λb h=>L.st.owned b h,L.st.refs⟩,
  ⟨L.sim.len,λn ao p e1 e2=>?_,λb h=>⟨L.sim.own b h,λq=>(L.w b q).2 h⟩,L.sim.inj,λb h=>?_,λb o e=>?_⟩,K⟩
 ·(refine X2 L.st.same λh1 t1 aL=>?_;clear L hk K;subst aL)
  exact I2 h' t rfl
 ·exact(L.sim.rep n ao p e1 e2).mono K (λo e=>hk _ o (λq=>(L.w _ q).2 ⟨n,ao,p,e1,e2,.inl rfl⟩) e) λo e=>hk _ o (λq=>(L.w _ q).2 ⟨n,ao,p,e1,e2,.inr rfl⟩) e
 ·refine X1 (L.sim.here b h.1) λo e=>?_;exact⟨o,hk b o h.2 e⟩
 ·refine U1 (L.sim.base b o e) λe1 e2=>?_;exact⟨hk b o (λq=>e2 (L.w b q).1) e1,λh=>e2 h.1⟩
theorem cK.drop{aa:Env}{ai:b5}{ae:bF}{h h':Heap}(x:cK X cD aa ai ae h)(K:Kept cD h (oW cD W) h')(hk:∀b o,b∉W->h.get? b=some o->h'.get? b=some o)(hE:∀b∈W,¬cN aa b):cK X (oW cD W) aa ai ae h':=by
 refine d_ x.vals λm cm hn hc hv=>?_;have nL:aa.locals∉W:=λq=>hE _ q (.inl rfl);have nC:∀n c,(n,c)∈aa.cells->c∉W:=λn c hm q=>hE _ q (.inr ⟨n,hm⟩);refine⟨x.kind,x.glob,x.blt,⟨x.av,nL⟩,λn c hm=>⟨⟨(x.iu n c hm).1,nC n c hm⟩,(x.iu n c hm).2⟩,x.apart,x.oF,x.off,m,cm,hn.at' λo e=>hk _ o nL e,λn c hl=>?_,λi y pv hi hp=>?_⟩
 ·refine aC (hc n c hl) λo e d=>?_;exact aA o (hk _ o (nC n c<|iG hl) e) d
 ·refine aC (hv i y pv hi hp) λv r h=>?_;exact aA v (r.mono K) h
end
end
section
inductive nH (X:Cx)(A:Around)(target:Expr)(cf:Cf)(s:Shared)(P:au->ak->Prop)(it:Value)(s₂:Shared):Prop
 |mk (aS:Cf) (s₁:Shared) (items:au) (I:Addr) (fp wr W:List Addr) (n:Nat) (IR:Nat->Value->Heap->Heap->Prop) (Md:Nat->Value->Heap->Prop) (St:Nat->Heap->Prop) (src:au) (fP:cz) (h₂:Heap) (t₂:Nat)
  (e1:it=.ref I) (e2:s₂={s₁ with heap:=h₂,toks:=t₂}) (w1:∀b∈wr,b∈W) (w2:∀b∈W,b∈fp) (JW:n<=2^20) (T:Tn X A target I fp wr n IR Md St) (hs:Cy X items n src fP IR) (st:Step cf s aS s₁) (S:aU X aS s₁.heap) (g:c5 s₁.heap h₂) (new:∀b∈W,s₁.heap.get? b=none)
  (old:∀b∈fp,b∈W\/((∃o,s₁.heap.get? b=some o)/\¬aS.O b)) (m0:St 0 h₂) (r:aO X aS s₁.heap src fP) (p:P items aS.H):nH X A target cf s P it s₂
noncomputable def jY(X:Cx)(d:Nat)(aa:Env)(ai:b5)(ae:bF)(target iter:Expr)(H:ak)(P:au->ak->Prop):Prop:=
 ∀A cf s E,c7 d A->cf.H=H->aU X cf s.heap->cK X cf aa ai ae s.heap->
  wpAny (model X.prog X.w) A (eval iter aa) (λxv s₁=>wpAny (model X.prog X.w) A (pyIter xv) (λit s₂=>nH X A target cf s P it s₂) E s₁) E s
inductive mG (G:Addr->Prop)(ai:b5)(aa:Env):Bool->aG->Expr->Prop
 |name {i:Nat} {x:String} {p:Pos} (h1:ai[i]?=some (some x)) (h2:aa.kindOf (Sx x)=some .local\/aa.kindOf (Sx x)=some .cell) (h3:kN aa G x):mG G ai aa false [i]<|.Name (Sx x) p
 |tup {is:aG} {elts:bL} {xs:aY} {k:Nat} {p:Pos} (h:jW G ai aa elts is xs):mG G ai aa true is<|.Tuple elts k p
def r8(X:Cx)(d:Nat)(aa:Env)(ai:b5)(tp:Bool)(tgt:aG)(body:List Stmt)(Q:SP):au->bF->ak->Prop
 |[],ae,H=>Q .n ae H
 |x::r,ae,H=>∃cZ,iw tp tgt x ae=some cZ/\iQ X d aa ai cZ body H (λf nI H'=>match f with
   |.n=>r8 X d aa ai tp tgt body Q r nI H'
   |.c=>r8 X d aa ai tp tgt body Q r nI H'
   |.b=>Q .n nI H'
   |.r v=>Q (.r v) nI H')
section
variable {X:Cx}{d:Nat}{aa:Env}{ai:b5}{ae cZ:bF}{H:ak}{Q:SP}{cf aI:Cf}{s s' s'':Shared}
theorem JX{G:Addr->Prop}{tp:Bool}{tgt:aG}{target:Expr}{A:Around}{E:cJ}{K:Unit->Shared->Prop}{p:PV}{v:Value}(hN:d8 ai)(hG:∀b,G b->cN aa b)(ht:mG G ai aa tp tgt target)(hA:c7 d A)(S:aU X cf s.heap)(R:cK X cf aa ai ae s.heap)
  (r:Rep X cf s.heap p v)(h:iw tp tgt p ae=some cZ)(q:∀s',dH G cf s cf s'->aU X cf s'.heap->cK X cf aa ai cZ s'.heap->K () s'):wpAny (model X.prog X.w) A (assign target aa v) K E s:=by
 cases ht with
 |@name i x pp h1 h2 h3=>
  have h:=aK h;subst h;refine assign_Name (Cv hN h1 h2 h3 S R r λh' st S' R' t=>q _ ⟨I2 h' t rfl,st.keep,st.avoid,st.fresh,st.owned,st.refs⟩ S' R')
 |@tup is elts xs k pp ht=>
  refine xq h λl el h=>?_;subst el;refine p_ h λhl e=>?_;clear h;clear h;obtain rfl:=aK e;exact JS hN hG ht hl hA S R r q
theorem YX{A:Around}{target:Expr}{it:Value}{body:List Stmt}{R:Result->Shared->Prop}(I:Nat->Shared->Prop)
  (turn:∀n s,I n s->∀(J:Flow->Shared->Prop) (E:cJ),(∀f m s,f=.next\/f=.cont->m<n->I m s->J f s)->(∀s,R (.ok .next) s->J .brk s)->(∀v s,R (.ok<|.ret v) s->J (.ret v) s)->
   wpAny (model X.prog X.w) A (pyNext it) (λr s₁=>match r with
   |none=>R (.ok .next) s₁
   |some v=>wpAny (model X.prog X.w) A (letOwnedTupleGo target it v) (λU s₁'=>wpAny (model X.prog X.w) A (assign target aa v) (λU s₂=>wpAny (model X.prog X.w) A (execs body aa) J E s₂) E s₁') E s₁) E s)
  (n:Nat)(h:I n s):codeAny (model X.prog X.w) A (.forLoop target it body [] aa) R s:=by
 refine codeAny_forLoop_any I (λn s hI=>?_) n h
 refine bz (turn n s hI (λf s=>match f with
  |.next|.cont=>∃m,m<n/\I m s
  |.brk=>R (.ok .next) s
  |.ret v=>R (.ok<|.ret v) s) _ (λf m s h hm hi=>by rcases h with rfl|rfl<;>exact aA m hm hi) (λU h=>h) (λU U h=>h)) (λr s₁ h=>?_) λU U h=>h
 induction r using e9 with
 |none=>exact wpAny_execs_nil h
 |some v=>exact h
inductive FL (X:Cx)(d:Nat)(aS:Cf)(s₁:Shared)(fp W:List Addr)(St:Nat->Heap->Prop)(aa:Env)(ai:b5)(src:au)(fP:cz)(n:Nat)(ok:au->bF->ak->Prop)(items:au)(k:Nat)(s':Shared):Prop
 |mk (cD:Cf) (cZ:bF) (i:Nat) (L:LI X (cN aa) aS s₁ fp W St i cD s') (R:cK X cD aa ai cZ s'.heap) (r:aO X cD s'.heap src fP) (lv:∀b∈W,∃o,s'.heap.get? b=some o) (hi:i<=n) (hk:k=n+1-i) (ho:ok (items.drop i) cZ cD.H):FL X d aS s₁ fp W St aa ai src fP n ok items k s'
theorem YY{tp:Bool}{tgt:aG}{target iter:Expr}{body:List Stmt}{pos:Pos}(hN:d8 ai)(ht:mG (cN aa) ai aa tp tgt target)(hs:∀x,foldedSetIterable iter aa x=pure x)
  (h:jY X d aa ai ae target iter H λitems H'=>r8 X d aa ai tp tgt body Q items ae H'):gq X d aa ai ae (.For target iter body [] pos) H Q:=λA cf s E hA hH S R=>by
 refine wpAny_For (bz (h A cf s E hA hH S R) (λxv sx y=>bz y (λit s₂ y=>?_) λU U y=>y) λU U y=>y) hs;obtain⟨aS,s₁,items,I,fp,wr,W,n,IR,Md,St,src,fP,h₂,t₂,rfl,rfl,oX,uL,r9,T,qj,gI,S₁,g,new,old,m0,x9,JY⟩:=y;have cI:=R.step S gI;have B:mF X (cN aa) aS s₁ fp W:=⟨S₁,λb=>cN.of cI,new,old⟩
 have nE:∀b∈W,¬cN aa b:=λb hb hf=>by refine X1 (S₁.here b (cN.of cI hf).1) λo e=>?_;rw[new b hb]at e;exact nN e
 have JZ:∀b∈fp,¬cN aa b:=λb hb hf=>(old b hb).elim (λhw=>nE b hw hf) λho=>ho.2 (cN.of cI hf).1;have x_:∀b∈W,∃o,h₂.get? b=some o:=λb hb=>T.live _ _ m0 b (uL b hb);refine U2 (aside (t:=t₂) S₁ g new x_) λa1 a2 a3=>?_;refine YX (FL X d aS s₁ fp W St aa ai src fP n (r8 X d aa ai tp tgt body Q) items) ?_ (n+1) ⟨_,ae,0,LI.start B g x_ m0,cI.step S₁ a1,x9.mono (a1.kept S₁.own) src,x_,iF _,rfl,JY⟩;have mid:=λcf s=>gI.toF.trans (nv:=cf) (s'':=s) S S₁ λb=>cN.of R;clear a1 a2 a3 m0 x9 JY gI g x_ r9 uL;rintro k si ⟨cD,Cz,i,L,Ri,ri,lv,hin,rfl,ho⟩ J E' j1 j2 j3;by_cases hlt:i<n
 ·refine bz (LI.draw (Kn:=λs₁=>kM X aa ai cf s Q .next s₁) (K:=λv s₂=>wpAny (model X.prog X.w) A (assign target aa v) _ _ s₂) T oX qj B L lv hlt ri λv p s₂ hp stp S₂ rp L₂ ya=>?_) (λr s' y=>by induction r using e9<;>exact y) λU U y=>y;have yb:=Ri.qi L.sim stp (λb hb=>L.w b<|oX b hb) λb hb=>nE b<|oX b hb
  have ed:items.drop i=p::items.drop (i+1):=by
   have hl:i<items.length:=by refine rR qj.1 ?_;exact hlt
   refine rR (tG hl) ?_;rw[eE hl]at hp;exact rR (aK hp) rfl
  rw[ed]at ho;refine aC ho λuM hst hb=>?_;have CA:=ri.mono (stp.kept L.sim λb hb=>L.w b<|oX b hb) src;refine JX hN (λU h=>h) ht hA S₂ yb rp hst λs₃ fO fE my=>?_;have r_:=LI.body B L₂ T.live T.frame ya (λb hb=>.inl hb) JZ fO fE;have CB:∀b∈W,∃o,s₃.heap.get? b=some o:=λb hb=>fE.here b (r_.w b hb).1;refine bz (hb A cD s₃ E' hA rfl fE my) (λf s₄ y=>?_) λU U y=>y;obtain⟨aI,af,yc,qk,jE,ql,fr,q⟩:=y;have nJ:=LI.body B r_ T.live T.frame CB (λb hb=>.inl hb) JZ qk jE;have nx:∀f,f=.next\/f=.cont->r8 X d aa ai tp tgt body Q (items.drop<|i+1) yc aI.H->J f s₄:=λf hf q=>j1 f (n+1-(i+1)) s₄ hf (z9 hlt) ⟨aI,yc,i+1,nJ,ql,(CA.mono (fO.kept S₂ λb=>cN.of yb) src).mono (qk.kept fE λb=>cN.of my) src,λb hb=>jE.here b (nJ.w b hb).1,hlt,rfl,q⟩
  induction af using dW.casesOn with
  |n=>
   obtain rfl:f=.next:=fr
   exact nx _ (.inl rfl) q
  |c=>
   obtain rfl:f=.cont:=fr;exact nx _ (.inr rfl) q
  |b=>
   obtain rfl:f=.brk:=fr;exact j2 _ ⟨aI,.n,yc,mid _ _ nJ.st,jE,ql,rfl,q⟩
  |r p'=>
   refine aC fr λv' aM rv=>?_;clear fr;subst aM;exact j3 _ _ ⟨aI,.r p',yc,mid _ _ nJ.st,jE,ql,aA v' rfl rv,q⟩
 ·obtain rfl:i=n:=FQ hin hlt;refine T.done si _ _ L.m λh' tk hk=>?_;have hk':∀b o,b∉W->si.heap.get? b=some o->h'.get? b=some o:=λb o hb e=>hk b o (λq=>hb<|oX b q) e;refine U2 (LI.drop (t:=tk) B L hk') λsd Sd Kd=>?_;rw[List.drop_of_length_le<|by refine rR qj.1 ?_;exact bY _]at ho;exact⟨_,.n,Cz,mid _ _ sd,Sd,Ri.drop Kd hk' nE,rfl,ho⟩
def uN(X:Cx)(d:Nat)(aa:Env)(ai:b5)(test:Expr)(body:List Stmt)(Q:SP):Nat->bF->ak->Prop
 |0,_,_=>False
 |n+1,ae,H=>AT X d aa ai ae test H (λb H'=>(b=true->iQ X d aa ai ae body H' (λf nI c8=>match f with
   |.n=>uN X d aa ai test body Q n nI c8
   |.c=>uN X d aa ai test body Q n nI c8
   |.b=>Q .n nI c8
   |.r v=>Q (.r v) nI c8))/\(b=false->Q .n ae H'))
theorem YZ{test:Expr}{body:List Stmt}{pos:Pos}{n:Nat}(h:uN X d aa ai test body Q n ae H):gq X d aa ai ae (.While test body [] pos) H Q:=λA cf s E hA hH S R=>by
 refine wpAny_While ?_;refine codeAny_whileLoop (λk s'=>∃cD cZ,dH (cN aa) cf s cD s'/\aU X cD s'.heap/\cK X cD aa ai cZ s'.heap/\uN X d aa ai test body Q k cZ cD.H) ?_ n<|fy cf ae (dH.refl _ _) S R<|hH▸h
 rintro k si ⟨cD,Cz,Y0,Si,Ri,ho⟩
 induction k using gD with
 |zero=>exact ho.elim
 |succ k=>
  refine bz (ho A cD si _ hA rfl Si Ri) (λb s₁ y=>?_) λU U y=>y;obtain⟨aS,gI,S₁,q⟩:=y;have cI:=Ri.step Si gI;have go₁:=Y0.trans S Si (λb=>cN.of R) gI.toF
  induction b using cP with
  |false=>
   simp only[Bool.false_eq_true,if_false];exact wpAny_execs_nil ⟨aS,.n,Cz,go₁,S₁,cI,rfl,q.2 rfl⟩
  |true=>
   simp only[if_true];refine bz (q.1 rfl A aS s₁ _ hA rfl S₁ cI) (λf s₂ y=>?_) λU U y=>y;obtain⟨gy,af,uM,cU,S₂,fN,fr,q⟩:=y;have go₂:=go₁.trans S S₁ (λb=>cN.of R) cU
   induction af using dW.casesOn with
   |n=>
    obtain rfl:f=.next:=fr
    exact Fj k (Nat.lt_succ_self _) gy uM go₂ S₂ fN q
   |c=>
    obtain rfl:f=.cont:=fr;exact Fj k (Nat.lt_succ_self _) gy uM go₂ S₂ fN q
   |b=>
    obtain rfl:f=.brk:=fr;exact⟨gy,.n,uM,go₂,S₂,fN,rfl,q⟩
   |r p'=>
    refine aC fr λv' aP rv=>?_;clear fr;subst aP;exact⟨gy,.r p',uM,go₂,S₂,fN,aA v' rfl rv,q⟩
end
end
section
section
variable {X:Cx}{d:Nat}{aa:Env}{ai:b5}{ae:bF}{H:ak}
theorem J0{target iter:Expr}{P P':au->ak->Prop}(h:jY X d aa ai ae target iter H P)(m:∀p H,P p H->P' p H):jY X d aa ai ae target iter H P':=
 λA cf s E a b c f=>bz (h A cf s E a b c f) (λxv s₁ y=>bz y (λit s₂ y=>by
  obtain⟨aS,s₁,items,I,fp,wr,W,n,IR,Md,St,src,fP,h₂,t₂,e1,e2,w1,w2,w3,T,hs,st,S,g,n1,n2,m0,r,p⟩:=y
  exact⟨aS,s₁,items,I,fp,wr,W,n,IR,Md,St,src,fP,h₂,t₂,e1,e2,w1,w2,w3,T,hs,st,S,g,n1,n2,m0,r,m _ _ p⟩) λU U y=>y) λU U y=>y
theorem aO.at_{cf:Cf}{h:Heap}{l:au}{vs:cz}{i:Nat}{v:Value}(r:aO X cf h l vs)(e:vs[i]?=some v):∃p,l[i]?=some p/\Rep X cf h p v:=by
 have hi:i<l.length:=by refine rL r.length ?_;exact(List.getElem?_eq_some_iff.mp e).1
 refine aC (r.get<|eE hi) λw hw rw=>?_;rw[e]at hw;obtain rfl:=aK hw;exact aA _ (eE hi) rw
theorem lD{h:Heap}{i l:Addr}{k:Nat}(x:h.IsListIter i l k):∃o,h.get? i=some o:=let ⟨o,e,_⟩:=x;⟨o,e⟩
theorem Y3{h:Heap}{i l:Addr}{k:Nat}(x:h.IsTupleIter i l k):∃o,h.get? i=some o:=let ⟨o,e,_⟩:=x;⟨o,e⟩
section
variable {A:Around}{target:Expr}{cf aS:Cf}{s s₁:Shared}{P:au->ak->Prop}
theorem yd{I:Addr}{wr:List Addr}{n:Nat}{IR:Nat->Value->Heap->Heap->Prop}{Md:Nat->Value->Heap->Prop}{St:Nat->Heap->Prop}{items src:au}{fP:cz}{h₂:Heap}{t₂:Nat}(fr old:List Addr)(T:Tn X A target I (fr++old) wr n IR Md St)
  (hwr:∀b∈wr,b∈fr)(hfr:∀b∈fr,s₁.heap.objs.size<=b)(hold:∀b∈old,(∃o,s₁.heap.get? b=some o)/\¬aS.O b)(JW:n<=2^20)(hs:Cy X items n src fP IR)(st:Step cf s aS s₁)(S:aU X aS s₁.heap)(g:c5 s₁.heap h₂)(m0:St 0 h₂)(r:aO X aS s₁.heap src fP)(q:P items aS.H):
  nH X A target cf s P (.ref I) {s₁ with heap:=h₂,toks:=t₂}:=
 ⟨aS,s₁,items,I,fr++old,wr,fr,n,IR,Md,St,src,fP,h₂,t₂,rfl,rfl,hwr,λU=>q4 _,JW,T,hs,st,S,g,λb hb=>jB<|hfr b hb,λb hb=>(dR.mp hb).imp id<|hold b,m0,r,q⟩
theorem J1{a:Addr}{vs:dg}{l:au}{o:Obj}{St:Nat->Heap->Prop}(st:Step cf s aS s₁)(S:aU X aS s₁.heap)(rl:aO X aS s₁.heap l vs.toList)(hO:¬aS.O a)(ea:∃o,s₁.heap.get? a=some o)(hz:vs.size<=2^20)(q:P l aS.H)
  (W:Walks X.prog X.w A s₁.heap.objs.size [s₁.heap.objs.size,a] [s₁.heap.objs.size] vs.size (λi v=>vs[i]?=some v) St)(live:∀i h,St i h->∀b∈[s₁.heap.objs.size,a],∃o,h.get? b=some o)
  (hgo:∀i v (s':Shared) (Q:Unit->Shared->Prop) (E:cJ),St i s'.heap->Q () s'->wpAny (model X.prog X.w) A (letOwnedTupleGo target (.ref s₁.heap.objs.size) v) Q E s')(m0:St 0<|s₁.heap.push o):
  nH X A target cf s P (.ref s₁.heap.objs.size) {s₁ with heap:=s₁.heap.push o}:=
 yd (t₂:=s₁.toks) [s₁.heap.objs.size] [a] (Tn.ofWalks W live hgo) (λU h=>h) (mc (bY _) mz) (mc ⟨ea,hO⟩ mz) hz
  ⟨by refine rL rl.length ?_;rfl,λi cf h h' v r U K e=>let ⟨p,hp,rp⟩:=r.at_ (i:=i) (by rw[qT];exact e);(aA p hp<|rp.mono K)⟩ st S (c5.push _ _) m0 rl q
end
theorem Y4{target iter:Expr}{P:au->ak->Prop}(h:AE X d aa ai ae iter H λv H'=>∃l,Al v=some l/\P l H'):jY X d aa ai ae target iter H P:=λA cf s E hA hH S R=>by
 refine bz (h A cf s E hA hH S R) (λv s₁ y=>?_) λU U y=>y;obtain⟨aS,pv,st,S₁,r,l,hl,q⟩:=y
 induction pv using d7 with
 |l l'=>
  obtain rfl:=aK hl;obtain⟨a,vs,rfl,hO,hpl,hz,rl⟩:=(show kI _ _ _ _ from r)
  have ea:=oE hpl;exact wpAny_pyIter_list hpl.isList<|J1 st S₁ rl hO ea hz q (Walks.list hA.hh s₁.heap.objs.size a (gP<|fJ ea.choose_spec) vs) (λi h st=>mc (lD st.1)<|mc (p8 st.2) mz) (λi v s Q E st q=>letGo_listiter st.1 q) ⟨cM _ (ik _ rfl) rfl rfl,hpl.isList.push _⟩
 |t l'=>
  obtain rfl:=aK hl;obtain⟨a,vs,rfl,hO,hpl,hz,rl⟩:=(show kI _ _ _ _ from r)
  have ea:=Ak hpl;exact wpAny_pyIter_tuple hpl<|J1 st S₁ rl hO ea hz q (Walks.tuple hA.hh s₁.heap.objs.size a (gP<|fJ ea.choose_spec) vs) (λi h st=>mc (Y3 st.1)<|mc (Ak st.2) mz) (λi v s Q E st q=>letGo_tupleiter st.1 q) ⟨cM _ (ik _ rfl) rfl rfl,G2 hpl λo e=>jq _ e⟩
 |_=>exact nomatch hl
theorem ye{f:String}{p pos:Pos}{args:bL}{v:Value}{P:au->ak->Prop}{A:Around}{cf:Cf}{s:Shared}{E K:cJ}(T:eK X)(e:gp X f v)(hv:(∃id,v=.builtin id)\/∃t,v=.type t)
  (hx:aa.kindOf (Sx f)=some .globalImplicit)(hd:(Sx f==("__debug__":Str))=false)(h2:args.all notStar=true)(h:fM X d aa ai ae args H P)
  (hA:c7 d A)(hH:cf.H=H)(S:aU X cf s.heap)(R:cK X cf aa ai ae s.heap)
  (op:∀aS s₁ vs ps,Step cf s aS s₁->aU X aS s₁.heap->cK X aS aa ai ae s₁.heap->aO X aS s₁.heap ps vs->P ps aS.H->wpAny (model X.prog X.w) A (call v vs []) K E s₁):
  wpAny (model X.prog X.w) A (eval (.Call (.Name (Sx f) p) args [] pos) aa) K E s:=by
 rw[arm_eval_Call_Name'];refine a_<|uC T e hx hd S R ?_
 show wpAny _ A (callWith pos v [] (backTo pos<|starEach args aa) []) _ E s;refine mq (P:=λU=>True) h2 (λh U=>?_) ?_
 ·clear e op;rcases hv with⟨id,rfl⟩|⟨t,rfl⟩
  ·exact oQ h trivial
  ·exact B7 h trivial
 ·refine bz (h A cf s E pos hA hH S R) (λvs s₁ y=>?_) λU U y=>y;obtain⟨aS,st,S₁,ps,rs,q⟩:=y;exact⟨trivial,op aS s₁ vs ps st S₁ (R.step S st) rs q⟩
theorem CC{A:Around}{target:Expr}{cf aS:Cf}{s s₁:Shared}{E:cJ}{P:au->ak->Prop}{a b c:Int}{t u v:Tok}{tk:Nat}{items:au}(hA:c7 d A)(st:Step cf s aS s₁)(S₁:aU X aS s₁.heap)(hsm:Builtin.Range.small a b c=true)
  (hn:∃n:Nat,Builtin.Range.rangeSize a b c=(n:Int)/\n<=2^20/\items=(List.range n).map λ(i:Nat)=>PV.i<|a+(i:Int)*c)(q:P items aS.H):
  wpAny (model X.prog X.w) A (pyIter<|.ref s₁.heap.objs.size) (λit s₂=>nH X A target cf s P it s₂) E
   {s₁ with heap:=s₁.heap.push {cls:=.type "range",data:=.fields #[.int a t,.int b u,.int c v]},toks:=tk}:=by
 revert hn;refine Pu λn hn r9 aN=>?_;subst aN;have hr:IsRange (s₁.heap.push {cls:=.type "range",data:=.fields #[.int a t,.int b u,.int c v]}) s₁.heap.objs.size a b c t u v:=ik _ rfl;refine wpAny_pyIter_range hr hsm ?_;refine rR hn ?_;have hz:(s₁.heap.push {cls:=.type "range",data:=.fields #[.int a t,.int b u,.int c v]}).objs.size=s₁.heap.objs.size+1:=Heap.size_push ..;show nH X A target cf s P (.ref (s₁.heap.push {cls:=.type "range",data:=.fields #[.int a t,.int b u,.int c v]}).objs.size) _
 refine⟨aS,s₁,_,_,[s₁.heap.objs.size+1],[s₁.heap.objs.size+1],[s₁.heap.objs.size+1],n,λi v U U=>(∃t,v=.int (a+i*c) t)/\i<n,
  λi v h=>((∃t,v=.int (a+i*c) t)/\i<n)/\IsRangeIter h (s₁.heap.objs.size+1) (a+((i+1:Nat):Int)*c) ((n:Int)-((i+1:Nat):Int)) c,
  λi h=>IsRangeIter h (s₁.heap.objs.size+1) (a+(i:Nat)*c) ((n:Int)-(i:Nat)) c,[],[],_,tk,rfl,rfl,λb hb=>hb,λb hb=>hb,r9,?_,⟨by simp,λi cf h h' v U U K e=>?_⟩,st,S₁,(c5.push _ _).trans<|c5.push _ _,λb hb=>?_,λb hb=>.inl hb,?_,aO.gk,q⟩
 ·refine rR hz ?_;have W:=Walks.range (prog:=X.prog) (w:=X.w) (A:=A) hA.hh (s₁.heap.objs.size+1) a c n;refine⟨W.sub,W.frame,λi h st b hb=>?_,λi v h hm b hb=>?_,λi s Q E hi st hQ=>W.item i s Q E hi st λv h' tk hP st' hk=>hQ v h' tk ⟨⟨hP,hi⟩,st'⟩ ⟨hP,hi⟩ hk,λi v s Q E hm hQ=>?_,W.done,W.self⟩
  ·refine rR (dO.mp hb) ?_;exact⟨_,st⟩
  ·refine rR (dO.mp hb) ?_;exact⟨_,hm.2⟩
  ·have st':=hm.2;unfold letOwnedTupleGo;have k:=hQ s.heap st' λU U U e=>e
   have kk:∀m:Sem Unit,m=(do
    let (.ref r,.ref a):=(Value.ref<|s₁.heap.objs.size+1,v)|return
    let o<-load r
    match o.cls,o.data with
    |.type n,.fields vs=>
     if["enumerate","zip","dict_itemiterator","dict_reverseitemiterator","odict_iterator","itertools.zip_longest","itertools.pairwise"].contains n&&vs[0]?==some (rawInt a)then
      rule "for.unpacks-the-owned-tuple"
      updateField r 0 .none
    |_,_=>pure ())->wpAny (model X.prog X.w) A m Q E s:=λm hm'=>by
    refine U1 hm λaQ U=>?_;revert aQ;refine V1 λaR U=>?_;revert aR;refine Y1 λtt aT=>?_;clear hm;subst aT;subst hm';exact cF k
   induction target using Expr.casesOn<;>first|exact kk _ rfl|exact cF k
 ·(refine U1 e λaL hi=>?_;revert aL;refine Y1 λt' aM=>?_;clear e;subst aM)
  exact aA (PV.i<|a+(i:Int)*c) (by simp[hi]) gm
 ·refine rR (dO.mp hb) ?_;exact jB<|Nat.le_succ _
 ·show IsRangeIter _ _ _ _ _;have:=ik (s₁.heap.push {cls:=.type "range",data:=.fields #[.int a t,.int b u,.int c v]}) (o:={cls:=.type "range_iterator",data:=.fields #[rawInt a,rawInt (n:Int),rawInt c]}) rfl;rw[hz]at this;simpa using this
theorem se{i:Int}:cO i=true↔small i:=by simp[cO,small]
theorem J2{a b:Int}(h1:cO a=true)(h2:cO b=true)(h:b-a<=2^20):Builtin.Range.small a b 1=true/\∃n:Nat,Builtin.Range.rangeSize a b 1=(n:Int)/\n<=2^20/\fk a b=(List.range n).map λ(i:Nat)=>PV.i (a+(i:Int)*1):=by simp only[cO,Bool.and_eq_true,decide_eq_true_eq]at h1 h2;refine Fv (by simp[Builtin.Range.small,Builtin.Range.rangeFitsLong,Builtin.Range.rangeSize];(first|lia|omega)) ((b-a).toNat) (by simp[Builtin.Range.rangeSize];split<;>(first|lia|omega)) (GJ h) ?_;simp[fk]
theorem Y5{a b:Int}(h1:cO a=true)(h2:cO b=true)(h:a-b<=2^20):Builtin.Range.small a b (-1)=true/\∃n:Nat,Builtin.Range.rangeSize a b (-1)=(n:Int)/\n<=2^20/\kK a b=(List.range n).map λ(i:Nat)=>PV.i (a+(i:Int)*(-1)):=by simp only[cO,Bool.and_eq_true,decide_eq_true_eq]at h1 h2;refine Fv (by simp[Builtin.Range.small,Builtin.Range.rangeFitsLong,Builtin.Range.rangeSize];(first|lia|omega)) ((a-b).toNat) (by simp[Builtin.Range.rangeSize];split<;>(first|lia|omega)) (GJ h) ?_;simp[kK,Int.sub_eq_add_neg]
theorem CD{α:Type}{c:Bool}{x y:α}{G:Prop}(h:(if c=true then some x else none)=some y)(k:c=true->x=y->G):G:=by
 induction c using cP with
 |false=>exact nN h
 |true=>exact k rfl<|aK h
inductive yf (items:au):cz->Prop
 |one (a:Int) (t:Tok) (h1:cO a=true) (h2:a<=2^20) (e:fk 0 a=items):yf items [.int a t]
 |two (a b:Int) (t u:Tok) (h1:cO a=true) (h2:cO b=true) (h3:b-a<=2^20) (e:fk a b=items):yf items [.int a t,.int b u]
 |three (a b:Int) (t u v:Tok) (h1:cO a=true) (h2:cO b=true) (h3:cO (b-a)=true) (h4:a-b<=2^20) (e:kK a b=items):yf items [.int a t,.int b u,.int (-1) v]
theorem Y6{cf:Cf}{h:Heap}{ps items:au}{vs:cz}(hit:fb .r ps=some items)(rs:aO X cf h ps vs):yf items vs:=by
 induction ps using b9 with
 |nil=>exact nN hit
 |cons a r=>
 revert rs;refine xj a hit λa hit rs=>?_;obtain⟨v,rs',rfl,⟨t,rfl⟩,rs⟩:=rs
 induction r using b9 with
 |nil=>
  subst rs;refine CD hit λhb e=>?_;rw[cy,decide_eq_true_eq]at hb;exact .one a t hb.1 hb.2 e
 |cons b r=>
 revert rs;refine xj b hit λb hit rs=>?_;obtain⟨v,rs',rfl,⟨u,rfl⟩,rs⟩:=rs
 induction r using b9 with
 |nil=>
  subst rs;refine CD hit λhb e=>?_;rw[cy,cy,decide_eq_true_eq]at hb;exact .two a b t u hb.1.1 hb.1.2 hb.2 e
 |cons c r=>
 revert rs;refine xj c hit λc hit rs=>?_;obtain⟨v,rs',rfl,⟨y,rfl⟩,rs⟩:=rs
 induction r using b9 with
 |cons _ _=>exact nN hit
 |nil=>
  subst rs;refine CD hit λhb e=>?_;simp only[Bool.and_eq_true,decide_eq_true_eq]at hb;revert hb;refine V1 λhb aP=>?_;clear hit;subst aP;exact .three a b t u y hb.1.1.1 hb.1.1.2 hb.1.2 hb.2 e
theorem Y7{target:Expr}{p pos:Pos}{args:bL}{P:au->ak->Prop}(T:eK X)(e:gp X "range"<|.type "range")
  (hx:aa.kindOf (Sx "range")=some .globalImplicit)(hd:(Sx "range"==("__debug__":Str))=false)(h2:args.all notStar=true)
  (h:fM X d aa ai ae args H (λvs H'=>∃items,fb .r vs=some items/\P items H')):jY X d aa ai ae target (.Call (.Name (Sx "range") p) args [] pos) H P:=λA cf s E hA hH S R=>by
 refine ye T e (.inr ⟨_,rfl⟩) hx hd h2 h hA hH S R λaS s₁ vs ps st S₁ cI rs q=>?_;revert q;refine rg λitems hit q=>?_;cases Y6 hit rs with
 |one a t h1 h2 e=>
  have z:=J2 (a:=0) (b:=a) (by decide) h1<|by rw[Int.sub_zero];exact h2
  exact call_range_1<|CC (tk:=s₁.toks+1+1) hA st S₁ z.1 (e▸z.2) q
 |two a b t u h1 h2 h3 e=>
  have z:=J2 h1 h2 h3;exact call_range_2<|CC (tk:=s₁.toks+1) hA st S₁ z.1 (e▸z.2) q
 |three a b t u v h1 h2 h3 h4 e=>
  have z:=Y5 h1 h2 h4;exact call_range_3 (by decide) (CC (tk:=s₁.toks) hA st S₁ z.1 (e▸z.2) q)<|.inl<|Jb (se.mp h3) ⟨by decide,by decide⟩
end
end
section
theorem J3{l:au}{i:Nat}{p:PV}(h:l[i]?=some p):(dU l)[i]?=some (.t [.i i,p]):=by simp[dU,h]
theorem J4{l r:au}{i:Nat}{p q:PV}(h:l[i]?=some p)(h':r[i]?=some q):(gZ l r)[i]?=some (.t [p,q]):=by unfold gZ;have:(l.zip r)[i]?=some (p,q):=List.getElem?_zip_eq_some.mpr ⟨h,h'⟩;rw[cQ,this];rfl
theorem yg{X:Cx}{cf:Cf}{h h':Heap}{T:Addr}{x y:Value}{p q:PV}(live:∀b,cf.O b->∃o,h.get? b=some o)(hT:h.objs.size<=T)(ht:h'.IsTuple T #[x,y])(rx:Rep X cf h' p x)(ry:Rep X cf h' q y):Rep X cf h' (.t [p,q]) (.ref T):=by refine⟨T,#[x,y],rfl,λhO=>?_,ht,by simp,aO.fD rx<|aO.fD ry aO.gk⟩;refine X1 (live T hO) λo e=>?_;exact absurd (fJ e)<|Nat.not_lt.mpr hT
section
variable {X:Cx}{d:Nat}{aa:Env}{ai:b5}{ae:bF}{H:ak}
theorem uO{cf:Cf}{h:Heap}{l:au}{v:Value}(r:Rep X cf h (.l l) v):∃a vs,v=.ref a/\¬cf.O a/\h.IsList a vs/\vs.size=l.length/\vs.size<=2^20/\aO X cf h l vs.toList/\∃o,h.get? a=some o:=by obtain⟨a,vs,rfl,hO,hpl,hz,rl⟩:=r;exact PC a vs rfl hO hpl.isList (by have:=rl.length;simpa using this) hz rl<|oE hpl
theorem J5{cf:Cf}{h:Heap}{l r:au}{xs:dg}{us:cz}{i:Nat}{v:Value}(rr:aO X cf h (l++r)<|xs.toList++us)(e:xs.size=l.length)(hx:xs[i]?=some v):∃p,l[i]?=some p/\Rep X cf h p v:=by have hi:=(Array.getElem?_eq_some_iff.mp hx).1;refine aC (rr.at_ (i:=i) (v:=v)<|by rw[iZ<|by refine rR qU ?_;exact hi,qT,hx]) λp hp q=>?_;rw[iZ<|e▸hi]at hp;exact aA p hp q
theorem J6{cf:Cf}{h:Heap}{l r:au}{xs ys:dg}{i:Nat}{v:Value}(rr:aO X cf h (l++r)<|xs.toList++ys.toList)(e:xs.size=l.length)(hx:ys[i]?=some v):∃p,r[i]?=some p/\Rep X cf h p v:=by refine aC (rr.at_ (i:=xs.toList.length+i) (v:=v)<|by rw[ku<|jt _ _,tP,qT,hx]) λp hp q=>?_;rw[qU,e,ku<|jt _ _,tP]at hp;exact aA p hp q
theorem J7{h:Heap}{a:Addr}(x:∃u v,IsPair h a u v):∃o,h.get? a=some o:=let ⟨_,_,e⟩:=x;⟨_,e⟩
section
variable {A:Around}{cf aS:Cf}{s s₁:Shared}{P:au->ak->Prop}{elts:bL}{k:Nat}{tpos:Pos}{t₂:Nat}
theorem Y8{I i a:Addr}{vs:dg}{l:au}{h':Heap}(hh:A.handled=none)(d1:I≠i)(d2:a≠I)(d3:a≠i)(f1:s₁.heap.objs.size<=I)(f2:s₁.heap.objs.size<=i)(hE:IsEnum h' I i 0 .none)(hI:h'.IsListIter i a 0)(hL:h'.IsList a vs)(ea:∃o,s₁.heap.get? a=some o)(hO:¬aS.O a)
  (hz:vs.size<=2^20)(st:Step cf s aS s₁)(S:aU X aS s₁.heap)(g:c5 s₁.heap h')(r:aO X aS s₁.heap l vs.toList)(q:P (dU l) aS.H):nH X A (.Tuple elts k tpos) cf s P (.ref I) {s₁ with heap:=h',toks:=t₂}:=
 yd [I,i] [a] (Tn.JV (WalksT.enumerate hh I i a d1 d2 d3 vs) (λU U st=>mc (let ⟨_,e⟩:=st.1;⟨_,e⟩)<|mc (lD st.2.1)<|mc (p8 st.2.2) mz) λU U U st=>mc (let ⟨_,e⟩:=st.1;⟨_,e⟩)<|mc (lD st.2.1) mz)
  (λU h=>h) (mc f1<|mc f2 mz) (mc ⟨ea,hO⟩ mz) hz ⟨by(rewrite[dU,bI];refine rR List.length_zipIdx<|rL r.length ?_);rfl,λi cf h h' v rr live K e=>by
   refine eJ e λT' vals aN aQ hT ht=>?_;clear e;subst aN;revert aQ;refine Fe λt x hx aR=>?_;subst aR;refine aC (rr.at_ (i:=i) (v:=x)<|by rw[qT];exact hx) λp hp rp=>?_
   exact(aA _ (J3 hp) (yg live hT ht gm<|rp.mono K))⟩ st S g ⟨⟨_,hE⟩,hI,hL⟩ r q
theorem Y9{z TI TO i1 i2 a b:Addr}{xs ys:dg}{l r:au}{h':Heap}(hh:A.handled=none)(D:ZipApart z TI TO i1 i2 a b)(fr:∀b∈[z,TI,TO,i1,i2],s₁.heap.objs.size<=b)(hz:IsZip h' z TI TO .none)(hTI:IsPair h' TI (.ref i1)<|.ref i2)(hTO:∃a b,IsPair h' TO a b)(hi1:h'.IsListIter i1 a 0)(hi2:h'.IsListIter i2 b 0)(qm:h'.IsList a xs)(qo:h'.IsList b ys)
  (e1:xs.size=l.length)(e2:ys.size=r.length)(ea:∃o,s₁.heap.get? a=some o)(qp:¬aS.O a)(eb:∃o,s₁.heap.get? b=some o)(qq:¬aS.O b)
  (hz1:xs.size<=2^20)(st:Step cf s aS s₁)(S:aU X aS s₁.heap)(g:c5 s₁.heap h')(r1:aO X aS s₁.heap l xs.toList)(r2:aO X aS s₁.heap r ys.toList)(q:P (gZ l r) aS.H):nH X A (.Tuple elts k tpos) cf s P (.ref z) {s₁ with heap:=h',toks:=t₂}:=
 yd [z,TI,TO,i1,i2] [a,b] (Tn.JV (WalksT.zip2 hh _ _ _ _ _ _ _ D xs ys) (λU U st=>mc ⟨_,st.1⟩<|mc ⟨_,st.2.1⟩<|mc (J7 st.2.2.1)<|mc (lD st.2.2.2.1)<|mc (lD st.2.2.2.2.1)<|mc (p8 st.2.2.2.2.2.1)<|mc (p8 st.2.2.2.2.2.2) mz) λU U U st=>mc ⟨_,st.1⟩<|mc (J7 st.2.2.1)<|mc (lD st.2.2.2.1)<|mc (lD st.2.2.2.2.1) mz)
  (mc (.head _)<|mc (.tail _ (.tail _ (.head _)))<|mc (.tail _ (.tail _ (.tail _ (.head _))))<|mc (.tail _ (.tail _ (.tail _ (.tail _ (.head _))))) mz) fr (mc ⟨ea,qp⟩<|mc ⟨eb,qq⟩ mz) (eR (jN _ _) hz1)
  ⟨by(rewrite[gZ,bI];exact rR List.length_zip<|rR e1<|rR e2 rfl),λi cf h h' v rr live K e=>by
   refine eJ e λT' vals aT aL hT ht=>?_;clear e;subst aT;revert aL;refine Ff λx y hx hy aM=>?_;subst aM;refine aC (J5 rr e1 hx) λp hp rp=>?_;refine aC (J6 rr e1 hy) λp' lB rp'=>?_
   exact(aA _ (J4 hp lB) (yg live hT ht (rp.mono K)<|rp'.mono K))⟩ st S g ⟨hz,hTI,hTO,hi1,hi2,qm,qo⟩ (r1.append r2) q
end
theorem J8(n:Nat):∀b∈[n+4,n+2,n+3,n,n+1],n<=b:=mc (jt _ _)<|mc (jt _ _)<|mc (jt _ _)<|mc (bY _)<|mc (jt _ _) mz
theorem Y_{elts:bL}{k:Nat}{tpos p pos:Pos}{args:bL}{P:au->ak->Prop}(T:eK X)(e:gp X "enumerate"<|.type "enumerate")
  (hx:aa.kindOf (Sx "enumerate")=some .globalImplicit)(hd:(Sx "enumerate"==("__debug__":Str))=false)(h2:args.all notStar=true)
  (h:fM X d aa ai ae args H (λvs H'=>∃l,vs=[.l l]/\P (dU l) H')):jY X d aa ai ae (.Tuple elts k tpos) (.Call (.Name (Sx "enumerate") p) args [] pos) H P:=λA cf s E hA hH S R=>by
 refine ye T e (.inr ⟨_,rfl⟩) hx hd h2 h hA hH S R λaS s₁ vs ps st S₁ cI rs q=>?_;revert q;refine rg λl aP q=>?_;subst aP;refine aC (rO rs) λv aN r=>?_;clear rs;subst aN;refine tX (uO r) λa vs aQ hO hL e1 hz1 rl ea=>?_;clear r;subst aQ;have hlt:=fJ ea.choose_spec;exact call_enumerate_list hL λh' hE hI hsz hk=>wpAny_pyIter_enum hE<|Y8 (t₂:=s₁.toks) hA.hh (Nat.succ_ne_self _) (ktu_ne 1 hlt) (gP hlt) (Nat.le_succ _) (bY _) hE hI (hL.at λo e=>hk a o e) ea hO hz1 st S₁ hk rl q
theorem Za{elts:bL}{k:Nat}{tpos p pos:Pos}{args:bL}{P:au->ak->Prop}(T:eK X)(e:gp X "zip"<|.type "zip")
  (hx:aa.kindOf (Sx "zip")=some .globalImplicit)(hd:(Sx "zip"==("__debug__":Str))=false)(h2:args.all notStar=true)
  (h:fM X d aa ai ae args H (λvs H'=>∃l r,vs=[.l l,.l r]/\P (gZ l r) H')):jY X d aa ai ae (.Tuple elts k tpos) (.Call (.Name (Sx "zip") p) args [] pos) H P:=λA cf s E hA hH S R=>by
 refine ye T e (.inr ⟨_,rfl⟩) hx hd h2 h hA hH S R λaS s₁ vs ps st S₁ cI rs q=>?_;revert q;refine Fe λl r aR q=>?_;subst aR;refine d_ (xM rs) λv u aT r1 r2=>?_;subst aT;refine tX (uO r1) λa xs aL qp qm e1 hz1 nF ea=>?_;clear r1;clear rs;subst aL;refine tX (uO r2) λb ys aM qq qo e2 hz2 rQ eb=>?_;clear r2;subst aM;exact call_zip_2 qm qo λh' hz hTI hTO hi1 hi2 hsz hk=>wpAny_pyIter_zip hz<|Y9 (t₂:=s₁.toks) hA.hh (ktu_apart _ _ _ (fJ ea.choose_spec) (fJ eb.choose_spec)) (J8 _) hz hTI (I2 _ _ hTO) hi1 hi2 (qm.at λo e=>hk a o e) (qo.at λo e=>hk b o e) e1 e2 ea qp eb qq hz1 st S₁ hk nF rQ q
end
end
section
theorem dH.toStep{cf aI:Cf}{s s':Shared}(x:dH (λU=>False) cf s aI s'):Step cf s aI s':=⟨x.same,λb o h e=>x.keep b o h (λq=>q) e,x.avoid,x.fresh,x.owned,x.refs⟩
section
variable {prog:Program}{w:World}{A:Around}{R:Result->Shared->Prop}{s:Shared}
theorem Zb{elt target iter:Expr}{ifs:bL}{scope:Scope}{pos:Pos}{it acc:Value}{aa:Env}(I:Nat->Shared->Prop)
  (turn:∀n s,I n s->∀(J:Shared->Prop) (E:cJ),(∀m s,m<n->I m s->J s)->wpAny (model prog w) A (pyNext it) (λr s₁=>match r with
   |none=>R (.ok .next) s₁
   |some v=>wpAny (model prog w) A (letOwnedTupleGo target it v) (λU s₁'=>wpAny (model prog w) A (assign target aa v) (λU s₂=>
     wpAny (model prog w) A (forIn ifs true λc r=>if r=true then do let ok<-PySem.isTrue c aa<|eval c aa;pure (ForInStep.yield ok)else pure (ForInStep.yield r)) (λok s₃=>
      if ok=true then wpAny (model prog w) A (eval elt aa) (λx s₄=>wpAny (model prog w) A (call (.builtin "list.append") [acc,x]) (λU=>J) E s₄) E s₃ else J s₃) E s₂) E s₁') E s₁) E s)
  (n:Nat)(h:I n s):codeAny (model prog w) A (.compLoop (.ListComp elt [⟨target,iter,ifs,0⟩] scope pos) 0 it acc aa) R s:=by
 refine codeAny_loop rfl I (λn s hI=>?_) n h;show wpAny _ A ((compTurn (.ListComp elt [⟨target,iter,ifs,0⟩] scope pos) 0 it acc aa).onRaise λx=>do noteFrame x aa;theTreesLotGoes x) _ _ s;refine wpAny_noted ?_;rw[compTurn_list];refine a_<|wpAny_standAt<|a_ (bz (turn n s hI (λs=>∃m,m<n/\I m s) _ λm s h i=>aA m h i) (λr s₁ h₁=>?_) λU U h'=>h')
 induction r using e9 with
 |none=>exact cF h₁
 |some v=>
  refine a_ (bz h₁ (λU s₁' h₁'=>?_) λU U h'=>h');refine a_ (bz h₁' (λU s₂ h₂=>a_ (bz h₂ (λok s₃ h₃=>?_) λU U h'=>h')) λU U h'=>h')
  induction ok using cP with
  |false=>exact cF ⟨rfl,h₃⟩
  |true=>exact a_<|a_ (bz h₃ (λx s₄ h₄=>a_ (bz h₄ (λU s₅ h₅=>cF<|cF ⟨rfl,h₅⟩) λU U h'=>h')) λU U h'=>h')
end
noncomputable def fq(cells:List<|Str×Addr):List (Str×NameKind)->List (Str×Addr)->List (Str×Addr)
 |[],acc=>acc
 |(n,k)::r,acc=>if k==.free then fq cells r ((n,(cells.lookup n).getD 0)::acc)else fq cells r acc
theorem J9{scope:Scope}{aa:Env}(hf:∀y∈scope.names,y.2=.free->∃c,aa.cells.lookup y.1=some c):closureFor scope aa=pure (fq aa.cells scope.names []):=by
 have go:∀(ai:List<|Str×NameKind)(acc:List<|Str×Addr),(∀y∈ai,y.2=.free->∃c,aa.cells.lookup y.1=some c)->
   (forIn ai acc λ(x:Str×NameKind) (cs:List<|Str×Addr)=>(if x.2==.free then do let a<-cellOf aa x.1;pure (ForInStep.yield<|(x.1,a)::cs)else pure (ForInStep.yield cs):Sem<|ForInStep<|List<|Str×Addr))=pure (fq aa.cells ai acc):=λai=>by
  induction ai with
  |nil=>intro acc U;rfl
  |cons y r ih=>
   intro acc h;obtain⟨n,k⟩:=y;rw[List.forIn_cons];by_cases hk:k=.free
   ·subst hk;refine X1 (h (n,.free) cR rfl) λc hc=>?_;have hc':aa.cells.lookup n=some c:=hc;have e:cellOf aa n=pure c:=by unfold cellOf;exact rR hc' rfl
    simp only[beq_self_eq_true,if_true,e,pure_bind,fq,hc',Option.getD_some];exact ih _ λy hy=>h y<|dh _ hy
   ·have hb:(k==NameKind.free)=false:=by simpa using hk
    simp only[hb,Bool.false_eq_true,if_false,pure_bind,fq];exact ih _ λy hy=>h y<|dh _ hy
 have:=go scope.names [] hf;unfold closureFor;show(forIn scope.names ([]:List<|Str×Addr) _>>=_)=_;exact rL (pure_bind (fq aa.cells scope.names []) λcs=>(pure cs:Sem<|List<|Str×Addr))<|rL this rfl
set_option tactic.hygienic true in
theorem yh{cells:List<|Str×Addr}:∀{ai:List<|Str×NameKind}{acc:List<|Str×Addr}{n:Str}{c:Addr},(∀y∈ai,y.2=.free->∃c,cells.lookup y.1=some c)->(n,c)∈fq cells ai acc->(n,c)∈acc\/(cells.lookup n=some c/\(n,NameKind.free)∈ai)
 |[],acc,n,c,_,h=>.inl h
 |(m,k)::r,acc,n,c,hf,h=>by
  unfold fq at h;split at h
  ·rename_i hk;have hk':k=.free:=by simpa using hk
   rcases yh (λy hy=>hf y<|dh _ hy) h with h|⟨h1,h2⟩
   ·rcases eO.mp h with e|h
    ·refine X1 (hf (m,k) cR hk') λc' hc'=>?_;have J_:cells.lookup m=some c':=hc';rw[J_]at e;clear h;clear hf h hc';obtain⟨rfl,rfl⟩:=jv e;exact .inr ⟨J_,by refine rR hk' ?_;exact cR⟩
    ·exact .inl h
   ·exact .inr ⟨h1,dh _ h2⟩
  ·rcases yh (λy hy=>hf y<|dh _ hy) h with h|⟨h1,h2⟩
   ·exact .inl h
   ·exact .inr ⟨h1,dh _ h2⟩
theorem CF{cells:List<|Str×Addr}{p:Str×Addr}:∀{ai:List<|Str×NameKind}{acc:List<|Str×Addr},p∈acc->p∈fq cells ai acc
 |[],_,h=>h
 |(m,k)::r,acc,h=>by
  unfold fq;split
  ·exact CF<|dh _ h
  ·exact CF h
theorem J'{cells:List<|Str×Addr}{n:Str}:∀{ai:List<|Str×NameKind}{acc:List<|Str×Addr},(n,NameKind.free)∈ai->∃c,(n,c)∈fq cells ai acc
 |(m,k)::r,acc,h=>by
  unfold fq;rcases eO.mp h with e|h
  ·clear h;obtain⟨rfl,rfl⟩:=jv e;simp only[beq_self_eq_true,if_true];exact⟨_,CF cR⟩
  ·split<;>exact J' h
set_option tactic.hygienic true in
theorem CG{cells:List<|Str×Addr}(ha:cells.Pairwise λx y=>x.2≠y.2):∀{ai:List<|Str×NameKind}{acc:List<|Str×Addr},(∀y∈ai,y.2=.free->∃c,cells.lookup y.1=some c)->(∀p∈acc,cells.lookup p.1=some p.2)->
  acc.Pairwise (λx y=>x.2≠y.2)->(ai.map (·.1)).Nodup->(∀p∈acc,p.1∉ai.map (·.1))->(fq cells ai acc).Pairwise λx y=>x.2≠y.2
 |[],acc,_,_,hp,_,_=>hp
 |(m,k)::r,acc,hf,hc,hp,hn,hd=>by
  rw[fK]at hn hd;refine U1 (kC.mp hn) λhn1 hn2=>?_;unfold fq;split
  ·rename_i hk;have hk':k=.free:=by simpa using hk
   refine X1 (hf (m,k) cR hk') λc CH=>?_;have CI:cells.lookup m=some c:=CH;refine rR CI ?_;refine CG ha (λy hy=>hf y<|dh _ hy) (λp g8=>?_) (pP.mpr ⟨λp g8 e=>?_,hp⟩) hn2 λp g8=>?_
   ·rcases eO.mp g8 with rfl|g8
    ·exact CI
    ·exact hc p g8
   ·have h1:=hc p g8;have e':c=p.2:=e;have:m=p.1:=name_of_addr ha (iG CI)<|e'▸iG h1
    exact hd p g8<|this▸cR
   ·rcases eO.mp g8 with rfl|g8
    ·exact hn1
    ·exactλh=>hd p g8<|dh _ h
  ·exact CG ha (λy hy=>hf y<|dh _ hy) hc hp hn2 λp g8 h=>hd p g8<|dh _ h
noncomputable def fQ(scope:Scope)(ai:b5):b5:=ai.map λ
 |some x=>if scope.names.lookup (Sx x)=some .free then some x else none
 |none=>none
set_option tactic.hygienic true in
theorem Zc{scope:Scope}{ai:b5}{i:Nat}{x:String}(h:(fQ scope ai)[i]?=some (some x)):ai[i]?=some (some x)/\scope.names.lookup (Sx x)=some .free:=by
 unfold fQ at h;rw[cQ]at h;cases e:ai[i]? with
 |none=>rw[e]at h;exact nN h
 |some o=>
  rw[e]at h
  induction o using e9 with
  |none=>simp at h
  |some y=>
   simp only[Option.map_some]at h;split at h
   ·rename_i hf;have h:=aK<|aK h
    subst h;exact⟨rfl,hf⟩
   ·cases h
theorem Ka{scope:Scope}{aa:Env}(hk:aa.scope.kind=.function):∀{ai:List<|Str×NameKind}{x:Str},(∀y∈ai,y.2≠.cell)->(∀y∈ai,y.2=.free->aa.kindOf y.1=some .cell)->
  ((ai.map λ(n,k)=>if(k==NameKind.free&&aa.scope.kind==.function&&aa.kindOf n==some .cell)then(n,NameKind.cell)else(n,k)).lookup x=some .cell↔ai.lookup x=some .free)
 |[],x,_,_=>by simp
 |(n,k)::r,x,hc,hf=>by
  have ih:=Ka (scope:=scope) hk (ai:=r) (x:=x) (λy hy=>hc y<|dh _ hy) λy hy=>hf y<|dh _ hy
  refine rR fK ?_;by_cases hkf:k=.free
  ·clear hc;subst hkf;have h1:aa.kindOf n=some .cell:=hf (n,.free) cR rfl;have e:(NameKind.free==NameKind.free&&aa.scope.kind==.function&&aa.kindOf n==some .cell)=true:=by refine rR hk<|rR h1 ?_;rfl
   simp only[e,if_true,List.lookup_cons];split
   ·simp
   ·exact ih
  ·have e:(k==NameKind.free&&aa.scope.kind==.function&&aa.kindOf n==some .cell)=false:=by
    have:(k==NameKind.free)=false:=by simpa using hkf
    refine rR this ?_;rfl
   simp only[e,Bool.false_eq_true,if_false,List.lookup_cons];split
   ·have h2:=hc (n,k) cR;simp only[Option.some.injEq];exact⟨λh=>absurd h h2,λh=>absurd h hkf⟩
   ·exact ih
end
section
def qs(X:Cx)(d:Nat)(aa:Env)(ai:b5)(ae:bF):bL->ak->(Bool->ak->Prop)->Prop
 |[],H,Q=>Q true H
 |c::cs,H,Q=>AT X d aa ai ae c H λb H'=>(b=true->qs X d aa ai ae cs H' Q)/\(b=false->Q false H')
def oY(X:Cx)(d:Nat)(aa:Env)(ai:b5)(ae:bF)(tp:Bool)(k:Nat)(ifs:bL)(elt:Expr)(Q:au->ak->Prop):au->au->ak->Prop
 |[],acc,H=>Q acc H
 |x::r,acc,H=>∃own,iK tp k x=some own/\qs X d aa ai (ae++own) ifs H (λb H'=>
   (b=true->AE X d aa ai (ae++own) elt H' (λv c8=>oY X d aa ai ae tp k ifs elt Q r (acc++[v]) c8))/\(b=false->oY X d aa ai ae tp k ifs elt Q r acc H'))
theorem Kc:∀(l:au)(ae old:bF),old.length=l.length->bx (List.range' ae.length l.length) l (ae++old)=ae++l.map some
 |[],ae,old,h=>by have:old=[]:=List.length_eq_zero_iff.mp h;clear h;subst this;simp[bx]
 |v::l,ae,[],h=>by simp at h
 |v::l,ae,o::old,h=>by
  refine rR i4<|rR List.range'_succ ?_
  simp only[bx];refine rR (List.set_append_right _ _ (bY _)) ?_;rewrite[pT];refine rR List.set_cons_zero ?_;have:=Kc l (ae++[some v]) old<|by simpa using h
  rw[gF,List.length_singleton]at this;refine rR (show ae++some v::old=(ae++[some v])++old by simp)<|rR this ?_
  simp
set_option tactic.hygienic true in
theorem Zd{tp:Bool}{k:Nat}{x:PV}{own old ae:bF}{tgt:aG}(hk:tp=false->k=1)(ht:tgt=List.range' ae.length k)(h:iK tp k x=some own)(ho:old.length=k):iw tp tgt x (ae++old)=some (ae++own)/\own.length=k:=by
 subst ht
 induction tp using cP with
 |false=>
  obtain rfl:=hk rfl;simp only[iK,Bool.false_eq_true,if_false,Option.some.injEq]at h;subst h;refine X1 (List.length_eq_one_iff.mp ho) λo aP=>?_;clear ho;subst aP;refine⟨?_,rfl⟩;show some ((ae++[o]).set ae.length<|some x)=_;refine rR (List.set_append_right _ _ (bY _)) ?_;rewrite[pT];exact rR List.set_cons_zero rfl
 |true=>
  simp only[iK,if_true]at h;split at h
  ·rename_i l;split at h
   ·rename_i hl;have h:=aK h;subst h;clear hk;subst hl;refine⟨?_,by simp⟩;have hs:=Kc l ae old ho;show(if(List.range' ae.length l.length).length=l.length then some (bx (List.range' ae.length l.length) l<|ae++old)else none)=_;exact rR (bw List.length_range')<|rR hs rfl
   ·exact nN h
  ·exact nN h
section
variable {X:Cx}{d:Nat}{A:Around}{cf aI:Cf}{s s':Shared}{E:cJ}{aa:Env}{ai:b5}{ae:bF}{H:ak}
structure oZ (scope:Scope)(aa:Env):Prop where
 kind:scope.kind=.function
 cell:∀y∈scope.names,y.2≠.cell
 ai:∀y∈scope.names,y.2=.local->scope.names.lookup y.1=some .local
 free:∀y∈scope.names,y.2=.free->aa.kindOf y.1=some .cell
 nodup:(scope.names.map (·.1)).Nodup
theorem oZ.closed{scope:Scope}(K:oZ scope aa)(R:cK X cf aa ai ae s.heap):∀y∈scope.names,y.2=.free->∃c,aa.cells.lookup y.1=some c:=λy hy hf=>R.oF _ (K.free y hy hf)
theorem Ze{scope:Scope}{W:List Addr}{C:Addr}{h':Heap}{t:Nat}{m0:PySem.Str->Option Value}{own:b5}{old:bF}(K:oZ scope aa)(S:aU X cf s.heap)(R:cK X cf aa ai ae s.heap)(hlen:ae.length=ai.length)
  (g:c5 s.heap h')(hC:s.heap.get? C=none)(Zf:C∈W)(st:Kept cf s.heap (iA cf W) h')(hns:h'.Ns C m0)(hold:∀o∈old,o=none):
  cK X (iA cf W) (compEnvC scope (fq aa.cells scope.names []) C aa) (fQ scope ai++own) (ae++old) h':=by
 refine d_ R.vals λm cm hn hc hv=>?_;have cl:=K.closed R;have mem:∀n c,(n,c)∈fq aa.cells scope.names []->aa.cells.lookup n=some c/\(n,NameKind.free)∈scope.names:=λn c h=>(yh cl h).resolve_left<|by simp
 have cellAt:∀n c,aa.cells.lookup n=some c->c≠C:=λn c h e=>by refine aC (hc n c h) λo e' U=>?_;rw[e,hC]at e';exact nN e'
 have ap:(fq aa.cells scope.names []).Pairwise λx y=>x.2≠y.2:=CG R.apart cl (by simp) List.Pairwise.nil K.nodup<|by simp
 have Ke:∀x,(compEnvC scope (fq aa.cells scope.names []) C aa).kindOf x=some .cell↔scope.names.lookup x=some .free:=λx=>Ka (scope:=scope) R.kind K.cell K.free;have has:∀x,scope.names.lookup x=some .free->∃c,(fq aa.cells scope.names []).lookup x=some c:=λx hx=>by
  refine X1 (J' (cells:=aa.cells) (acc:=[])<|iG hx) λc hm=>?_;cases e:(fq aa.cells scope.names []).lookup x with
  |some c'=>exact⟨c',rfl⟩
  |none=>rw[List.lookup_eq_none_iff]at e;have:=e _ hm;simp at this
 refine⟨K.kind,R.glob,R.blt,.inr Zf,λn c hm=>⟨.inl (R.iu n c<|iG (mem n c hm).1).1,cellAt n c (mem n c hm).1⟩,ap,λx hx=>has x<|(Ke x).mp hx,λb hb=>⟨λe=>?_,λn c hm=>(R.off b hb).2 n c<|iG (mem n c hm).1⟩,
  m0,cm,hns,λn c hl=>(hc n c (mem n c<|iG hl).1).keeps g,λi x pv hi hp=>?_⟩
 ·refine X1 (S.here b<|S.own b hb) λo e'=>?_;rw[e]at e';have:s.heap.get? C=some o:=e';rw[hC]at this;exact nN this
 ·by_cases hlt:i<ai.length
  ·rw[iZ<|by unfold fQ;rw[bI];exact hlt]at hi;rw[iZ<|by refine rR hlen ?_;exact hlt]at hp;refine U1 (Zc hi) λhi' hf=>?_;obtain⟨v,r,⟨hk,_⟩|⟨hk,_,hm⟩⟩:=hv i x pv hi' hp
   ·rw[K.free _ (iG hf) rfl]at hk;cases hk
   ·exact aA v (r.mono st)<|.inr ⟨(Ke _).mpr hf,has _ hf,hm⟩
  ·rw[ku<|by refine rR hlen ?_;exact z0 hlt]at hp;have:=hold _ (dY hp);exact sN this
theorem Kf:∀{ifs:bL}{A:Around}{cf:Cf}{s:Shared}{E:cJ}{H:ak}{Q:Bool->ak->Prop},c7 d A->cf.H=H->aU X cf s.heap->cK X cf aa ai ae s.heap->qs X d aa ai ae ifs H Q->
  wpAny (model X.prog X.w) A (forIn ifs true λc r=>if r=true then do let ok<-PySem.isTrue c aa<|eval c aa;pure (ForInStep.yield ok)else pure (ForInStep.yield r)) (bC X cf s<|GB Q) E s
 |[],A,cf,s,E,H,Q,hA,hH,S,R,h=>by subst hH;refine rR List.forIn_nil ?_;exact cF<|bC.now S h
 |c::cs,A,cf,s,E,H,Q,hA,hH,S,R,h=>by
  rw[List.forIn_cons];simp only[if_true];refine a_<|a_ (bz (h A cf s E hA hH S R) (λb s₁ y=>cF ?_) λU U y=>y)
  obtain⟨aS,st,S₁,q⟩:=y
  induction b using cP with
  |true=>exact bz (Kf hA rfl S₁ (R.step S st)<|q.1 rfl) (λU U y=>y.after S st) λU U y=>y
  |false=>
   have z:∀(l:bL),wpAny (model X.prog X.w) A (forIn l false λc r=>if r=true then do let ok<-PySem.isTrue c aa<|eval c aa;pure (ForInStep.yield ok)else pure (ForInStep.yield r)) (bC X cf s<|GB Q) E s₁:=λl=>by
    induction l with
    |nil=>refine rR List.forIn_nil ?_;exact cF ⟨aS,st,S₁,q.2 rfl⟩
    |cons a l ih=>
     rw[List.forIn_cons];simp only[Bool.false_eq_true,if_false];exact a_<|cF ih
   exact z cs
inductive CL (X:Cx)(d:Nat)(aS:Cf)(s₁:Shared)(fp W:List Addr)(St:Nat->Heap->Prop)(cenv:Env)(nm:b5)(ae:bF)(tp:Bool)(k:Nat)(ifs:bL)(elt:Expr)(Q:au->ak->Prop)(src:au)(fP:cz)(n:Nat)(D:Addr)(items:au)(kk:Nat)(s':Shared):Prop
 |mk (cD:Cf) (ow:bF) (i:Nat) (acc:au) (vs:dg) (L:LI X (λ_=>False) aS s₁ fp W St i cD s') (R:cK X cD cenv nm (ae++ow) s'.heap) (how:ow.length=k) (r:aO X cD s'.heap src fP) (lv:∀b∈W,∃o,s'.heap.get? b=some o)
   (hi:i<=n) (hk:kk=n+1-i) (hl:s'.heap.PlainList D vs) (hv:vs.size<=i) (ra:aO X cD s'.heap acc vs.toList) (ok:oY X d cenv nm ae tp k ifs elt Q (items.drop i) acc cD.H):CL X d aS s₁ fp W St cenv nm ae tp k ifs elt Q src fP n D items kk s'
theorem Kg{elt target iter:Expr}{ifs:bL}{scope:Scope}{pos:Pos}{tp:Bool}{k:Nat}{tn:aY}{Q:au->ak->Prop}{RR:Value->Addr->Result->Shared->Prop}(K:oZ scope aa)(hlen:ae.length=ai.length)(hk:tp=false->k=1)(yi:tn.length=k)
  (hN:d8<|fQ scope ai++tn.map some)
  (ht:∀C,mG (λb=>b=C) (fQ scope ai++tn.map some) (compEnvC scope (fq aa.cells scope.names []) C aa) tp (List.range' ae.length k) target)
  (h:jY X d aa ai ae target iter H λitems H'=>∀C,oY X d (compEnvC scope (fq aa.cells scope.names []) C aa) (fQ scope ai++tn.map some) ae tp k ifs elt Q items [] H')
  (hA:c7 d A)(hH:cf.H=H)(S:aU X cf s.heap)(R:cK X cf aa ai ae s.heap)
  (hRR:∀D C aS s₁ aI s' acc m,Step cf s aS s₁->aU X aS s₁.heap->cK X aS aa ai ae s₁.heap->LI X (λU=>False) aS s₁ [] [C] (λU U=>True) 0 aI s'->s₁.heap.get? C=none->Rep X aI s'.heap (.l acc) (.ref D)->s'.heap.Ns C m->Q acc aI.H->RR (.ref D) C (.ok .next) s'):
  wpAny (model X.prog X.w) A (eval iter aa) (λxv s₁=>wpAny (model X.prog X.w) A (pyIter xv) (λit s₂=>wpAny (model X.prog X.w) A (newList []) (λacc s₃=>
   wpAny (model X.prog X.w) A (newFunctionEnv scope aa.globals (fq aa.cells scope.names []) [] aa.qual none .none<|some aa) (λcenv s₄=>
    codeAny (model X.prog X.w) A (.compStart (.ListComp elt [⟨target,iter,ifs,0⟩] scope pos) 0 it acc {cenv with scope:=relabel scope aa}) (RR acc cenv.locals) s₄) E s₃) E s₂) E s₁) E s:=by
 refine bz (h A cf s E hA hH S R) (λxv sx y=>bz y (λit s₂ y=>?_) λU U y=>y) λU U y=>y;obtain⟨aS,s₁,items,I,fp,wr,W,n,IR,Md,St,src,fP,h₂,t₂,rfl,rfl,oX,uL,r9,T,qj,gI,S₁,g,new,old,m0,x9,hok⟩:=y;have cI:=R.step S gI;have Zg:∀b∈W,∃o,h₂.get? b=some o:=λb hb=>T.live _ _ m0 b (uL b hb);refine wpAny_newList ?_ (iF _)
 
 refine wpAny_newFunctionEnv K.cell (by simp) (λh₄ hns mH=>?_) K.kind;generalize hD:h₂.objs.size=D at hns mH⊢;have yj:(h₂.push {cls:=.type "list",data:=.seq ([]:cz).toArray}).get? D=some {cls:=.type "list",data:=.seq #[]}:=by refine rL hD ?_;exact ik _ rfl
 have hC:(h₂.push {cls:=.type "list",data:=.seq ([]:cz).toArray}).objs.size=D+1:=by(rewrite[Heap.size_push];exact rR hD rfl)
 have hns:h₄.Ns (D+1) (λx=>([]:List<|PySem.Str×Value).reverse.lookup x):=by refine rL hC ?_;exact hns
 have hDC:@Ne Nat D (D+1):=gP<|Nat.lt_succ_self D
 have up:∀b o,h₂.get? b=some o->h₄.get? b=some o:=λb o e=>by have hb:@LT.lt Nat _ b D:=hD▸fJ e;exact mH.extBut b o (by refine rR hC ?_;exact gP<|Nat.lt_succ_of_lt hb)<|jq _ (jq _ e)
 have hacc:h₄.PlainList D #[]:=⟨0,mH.extBut D _ (by refine rR hC ?_;exact hDC) (jq _ yj)⟩
 have g4:c5 s₁.heap h₄:=λb o e=>up b o<|g b o e
 have yk:∀b:Nat,D<=b->s₁.heap.get? b=none:=λb hb=>by
  cases e:s₁.heap.get? b with
  |none=>rfl
  |some o=>exact absurd (fJ<|g b o e)<|Nat.not_lt.mpr<|hD▸hb
 show codeAny _ A (.compStart _ 0 (.ref I) (.ref D) (compEnvC scope (fq aa.cells scope.names []) (h₂.push {cls:=.type "list",data:=.seq ([]:cz).toArray}).objs.size aa)) (RR (.ref D) (h₂.push {cls:=.type "list",data:=.seq ([]:cz).toArray}).objs.size) _;refine rR hC ?_;have hok:=hok<|D+1
 have ht:=ht<|D+1
 generalize hce:compEnvC scope (fq aa.cells scope.names []) (D+1) aa=cenv at hok ht⊢;have hloc:cenv.locals=D+1:=by refine rL hce ?_;rfl
 
 have qt:∀b∈W++[D,D+1],s₁.heap.get? b=none:=λb hb=>by
  rcases dR.mp hb with hb|hb
  ·exact new b hb
  ·simp only[List.mem_cons,List.not_mem_nil,or_false]at hb;clear hD yj hC hns hDC hacc hce ht hloc;rcases hb with rfl|rfl
   ·exact yk _ (bY _)
   ·exact yk _ (Nat.le_succ _)
 have CJ:∀b∈W++[D,D+1],∃o,h₄.get? b=some o:=λb hb=>by
  rcases dR.mp hb with hb|hb
  ·refine X1 (Zg b hb) λo e=>?_;exact⟨o,up b o e⟩
  ·simp only[List.mem_cons,List.not_mem_nil,or_false]at hb;clear hD yj hC hDC yk hce ht hloc qt;rcases hb with rfl|rfl
   ·exact oE hacc
   ·refine tY hns λo U U e U=>?_;exact⟨o,e⟩
 have B:mF X (λU=>False) aS s₁ fp (W++[D,D+1]):=⟨S₁,λU h=>h.elim,qt,λb hb=>(old b hb).imp (λh=>q4 _ h) id⟩
 have m4:St 0 h₄:=T.frame _ _ _ m0 λb U o e=>up b o e;refine U2 (aside (t:=t₂) S₁ g4 qt CJ) λa1 a2 a3=>?_;have CK:∀b:Nat,b∈fp->b<D:=λb hb=>by refine X1 (T.live _ _ m0 b hb) λo e=>?_;exact hD▸fJ e
 have Kh:D∉fp:=λhb=>q8 D<|CK D hb
 have CM:D+1∉fp:=λhb=>by have h:=CK (D+1) hb;(first|lia|omega)
 have Kl:D∉wr:=λhb=>Kh<|T.sub _ hb
 have Km:D+1∉wr:=λhb=>CM<|T.sub _ hb
 have mD:D∈W++[D,D+1]:=List.mem_append_right _ cR;have mC:D+1∈W++[D,D+1]:=List.mem_append_right _ (dh _ cR);have cl:=K.closed cI;have Ko:∀n c,(n,c)∈cenv.cells->∃o,s₁.heap.get? c=some o:=λn c hm=>by rw[<-hce]at hm;have:=((yh cl hm).resolve_left<|by simp).1;refine d_ cI.vals λm cm U hcc U=>?_;refine aC (hcc n c this) λo e U=>?_;exact⟨o,e⟩
 have Kp:∀b∈W++[D,D+1],b≠D+1->¬cN cenv b:=λb hb hne hf=>by
  rcases hf with rfl|⟨n,hm⟩
  ·exact hne hloc
  ·refine X1 (Ko n b hm) λo e=>?_;rw[qt b hb]at e;exact nN e
 have hG:∀b:Addr,b=D+1->cN cenv b:=λb e=>.inl<|e.trans hloc.symm
 have R4:cK X (iA aS<|W++[D,D+1]) cenv (fQ scope ai++tn.map some) (ae++List.replicate k none) h₄:=by refine rL hce ?_;exact Ze (t:=t₂) K S₁ cI hlen g4 (qt _ mC) mC (a1.kept S₁.own) hns λo ho=>(List.mem_replicate.mp ho).2
 have hwr:∀b∈wr,b∈W++[D,D+1]:=λb h=>q4 _ (oX b h);have sub:∀b∈W++[D],b∈W++[D,D+1]:=λb hb=>by
  rcases dR.mp hb with h|h
  ·exact q4 _ h
  ·refine rR (dO.mp h) ?_;exact mD
 have r4:=x9.mono (a1.kept S₁.own) src;generalize W++[D,D+1]=W' at*;generalize fQ scope ai++tn.map some=nm at*;clear hce hns yj mH hC cl Ko a1 a2 a3 yk CK K up
 as_aux_lemma=>
 have loop:∀tk,codeAny (model X.prog X.w) A (.compLoop (.ListComp elt [⟨target,iter,ifs,0⟩] scope pos) 0 (.ref I) (.ref D) cenv) (RR (.ref D)<|D+1) {s₁ with heap:=h₄,toks:=tk}:=λtk=>by
  refine Zb (CL X d aS s₁ fp W' St cenv nm ae tp k ifs elt Q src fP n D items) ?_ (n+1)
   ⟨_,List.replicate k none,0,[],#[],LI.start B g4 CJ m4,R4,by simp,r4,CJ,iF _,rfl,hacc,bY _,aO.gk,by refine rR List.drop_zero ?_;exact hok⟩
  rintro kk si ⟨cD,ow,i,acc,vs,L,Ri,how,ri,lv,hin,rfl,hpl,hvs,Kq,ho⟩ J E' hJ
  replace hJ:=hJ<|n+1-(i+1)
  by_cases hlt:i<n
  ·refine bz (LI.draw (Kn:=λs₁=>RR (.ref D) (D+1) (.ok .next) s₁) (K:=λv s₂=>wpAny (model X.prog X.w) A (assign target cenv v) _ _ s₂) T hwr qj B L lv hlt ri λv p s₂ hp stp S₂ rp L₂ ya=>?_) (λr s' y=>by induction r using e9<;>exact y) λU U y=>y;have Zh:∀b∈wr,¬cN cenv b:=λb hb=>Kp b (hwr b hb) λe=>Km<|e▸hb
   have yb:=Ri.qi L.sim stp (λb hb=>L.w b<|hwr b hb) Zh;have ed:items.drop i=p::items.drop (i+1):=by
    have hl:i<items.length:=by refine rR qj.1 ?_;exact hlt
    refine rR (tG hl) ?_;rw[eE hl]at hp;exact rR (aK hp) rfl
   rw[ed]at ho;revert ho;refine rg λown hb ho=>?_;obtain⟨hst,how'⟩:=Zd hk rfl hb how;have kp:=stp.kept L.sim λb hb=>L.w b<|hwr b hb
   have CA:aO X cD s₂.heap src fP:=ri.mono kp src;have Zi:aO X cD s₂.heap acc vs.toList:=Kq.mono kp acc;have Zj:s₂.heap.PlainList D vs:=hpl.at λo e=>stp.keep D o (L.w D mD).2 Kl e;refine JX hN hG ht hA S₂ yb rp hst λs₃ fO fE my=>?_;have Zk:∀b:Addr,b=D+1->cD.O b/\¬Own cD b:=λb e=>e▸L₂.w _ mC;have r_:=LI.body (G:=λb=>b=D+1) B L₂ T.live T.frame ya (λb hb=>.inr<|hb▸mC) (λb hb e=>CM<|e▸hb) fO fE;have Kr:=fO.kept S₂ Zk;have CB:∀b∈W',∃o,s₃.heap.get? b=some o:=λb hb=>by
    by_cases Ks:b=D+1
    ·exact fE.here b<|Ks▸(r_.w _ mC).1
    ·refine X1 (ya b hb) λo e=>?_;exact⟨o,fO.keep b o (L₂.w b hb).2 Ks e⟩
   have Zl:=CA.mono Kr src;have Zm:=Zi.mono Kr acc;have Zn:s₃.heap.PlainList D vs:=Zj.at λo e=>fO.keep D o (L₂.w D mD).2 hDC e;refine bz (Kf hA rfl fE my ho) (λok s₄ y=>?_) λU U y=>y;obtain⟨Ku,qk,jE,q⟩:=y;have ql:=my.step fE qk;have nJ:=LI.body B r_ T.live T.frame CB (G:=λU=>False) (λU h=>h.elim) (λU U h=>h) qk.toF jE;have Kv:∀b∈W',∃o,s₄.heap.get? b=some o:=λb hb=>jE.here b (nJ.w b hb).1;have Kw:=qk.kept fE.own;have Kx:=Zl.mono Kw src;have Ky:=Zm.mono Kw acc;have Kz:s₄.heap.PlainList D vs:=Zn.at λo e=>qk.keep D o (r_.w D mD).2 e
   induction ok using cP with
   |false=>
    refine rR (bO<|by decide) ?_;exact hJ _ (z9 hlt) ⟨Ku,own,i+1,acc,vs,nJ,ql,how',Kx,Kv,hlt,rfl,Kz,l8 hvs,Ky,q.2 rfl⟩
   |true=>
    refine rR (bw rfl) ?_;refine bz (q.1 rfl A Ku s₄ _ hA rfl jE ql) (λx s₅ y=>?_) λU U y=>y;obtain⟨sf,px,yl,uP,rx,q⟩:=y;have Zo:=ql.step jE yl;have CN:=LI.body B nJ T.live T.frame Kv (G:=λU=>False) (λU h=>h.elim) (λU U h=>h) yl.toF uP;have KA:=yl.kept jE.own;have Zp:=Kx.mono KA src;have Zq:=Ky.mono KA acc;have Zr:s₅.heap.PlainList D vs:=Kz.at λo e=>yl.keep D o (nJ.w D mD).2 e;refine wpAny_list_append_plain (hsz:=iO<|Qe r9 hvs hlt) Zr λqu KC sj=>?_;have wD:=CN.w D mD;have CO:dH (λb=>b=D) sf s₅ sf {s₅ with heap:=qu}:=⟨I2 qu s₅.toks rfl,λb o U hb e=>sj.extBut b o hb e,λU U h U U=>h,λU h=>.inl h,λU h=>.inl h,λU U h=>h⟩
    have CP:∀b:Addr,b=D->sf.O b/\¬Own sf b:=λb e=>e▸wD;have KD:aU X sf qu:=uP.qi (F:=λb=>b=D) (λb o hb e=>sj.extBut b o hb e) CP λb e=>e▸oE KC;have CQ:=CO.kept uP CP;have KG:=LI.body (G:=λb=>b=D) B CN T.live T.frame (λb hb=>uP.here b (CN.w b hb).1) (λb hb=>.inr<|hb▸mD) (λb hb e=>Kh<|e▸hb) CO KD;have Zs:=Zo.qi uP CO CP λb e=>e▸Kp D mD hDC
    exact hJ _ (z9 hlt) ⟨sf,own,i+1,acc++[px],vs.push x,KG,Zs,how',Zp.mono CQ src,λb hb=>KD.here b (KG.w b hb).1,hlt,rfl,KC,by rw[Array.size_push];exact FP hvs,
     by refine rR Array.toList_push ?_;exact(Zq.mono CQ acc).append<|aO.fD (rx.mono CQ) aO.gk,q⟩
  ·obtain rfl:i=n:=FQ hin hlt;refine T.done si _ _ L.m λh' tk' hkp=>?_;rw[List.drop_of_length_le<|by refine rR qj.1 ?_;exact bY _]at ho
   
   have hk':∀b o,b∉W++[D]->si.heap.get? b=some o->h'.get? b=some o:=λb o hb e=>hkp b o (λq=>hb<|q4 _ (oX b q)) e;have B':mF X (λU=>False) aS s₁ [] (W++[D]):=⟨S₁,λU h=>h.elim,λb hb=>qt b<|sub b hb,λU hb=>by simp at hb⟩
   have L':LI X (λU=>False) aS s₁ [] (W++[D]) (λU U=>True) 0 cD si:=⟨L.st,L.sim,λb hb=>L.w b<|sub b hb,trivial⟩
   refine U2 (LI.drop (t:=tk') B' L' hk') λsd Sd Kd=>?_;have nC:D+1∉W++[D]:=λhb=>by
    rcases dR.mp hb with h|h
    ·exact CM<|uL _ h
    ·exact hDC (dO.mp h).symm
   have Zt:h'.PlainList D vs:=hpl.at λo e=>hkp D o Kl e;refine gG Ri.vals λm cm KH U=>?_;have Zu:h'.Ns (D+1) m:=by rw[hloc]at KH;exact KH.at' λo e=>hkp _ o Km e
   refine hRR D (D+1) aS s₁ (oW cD<|W++[D]) {si with heap:=h',toks:=tk'} acc m gI S₁ cI ⟨sd,Sd,λb hb=>?_,trivial⟩ (qt _ mC) ?_ Zu ho
   ·refine rR (dO.mp hb) ?_;exact⟨⟨(L.w _ mC).1,nC⟩,(L.w _ mC).2⟩
   ·exact⟨D,vs,rfl,λhO=>hO.2<|List.mem_append_right _ (dO.mpr rfl),Zt,Qf hvs r9,Kq.mono Kd acc⟩
 exact codeAny_compStart_list (loop _)<|T.self 0 _ _ _ m4 (loop _)
end
end
section
section
variable {X:Cx}{d:Nat}{aa:Env}{ai:b5}{ae:bF}{H:ak}
theorem Zv{elt target iter:Expr}{ifs:bL}{scope:Scope}{pos:Pos}{tp:Bool}{k:Nat}{tn:aY}{Q:eF}(K:oZ scope aa)(hlen:ae.length=ai.length)(hk:tp=false->k=1)(yi:tn.length=k)
  (hN:d8<|fQ scope ai++tn.map some)(hs:∀x,foldedSetIterable iter aa x=pure x)
  (ht:∀(cl:List<|PySem.Str×Addr) C,mG (λb=>b=C) (fQ scope ai++tn.map some) (compEnvC scope cl C aa) tp (List.range' ae.length k) target)
  (h:jY X d aa ai ae target iter H λitems H'=>∀(cl:List<|PySem.Str×Addr) C,oY X d (compEnvC scope cl C aa) (fQ scope ai++tn.map some) ae tp k ifs elt (λacc c8=>Q (.l acc) c8) items [] H'):
  AE X d aa ai ae (.ListComp elt [⟨target,iter,ifs,0⟩] scope pos) H Q:=fm λA cf s E hA hH S R=>by
 rw[eval_ListComp];refine wpAny_comprehension_free (use:=none) rfl hs (J9<|K.closed R) K.kind K.ai ?_;refine Kg (RR:=λacc C=>compPost (model X.prog X.w) A E none (bC X cf s<|GV X Q) acc C) K hlen hk yi hN (λC=>ht _ C) (J0 h λitems H' q C=>q _ C) hA hH S R ?_;intro D C aS s₁ aI s' acc m st S₁ cI L hC rD hns q;refine aA m hns λh' hs'=>?_;have B:mF X (λU=>False) aS s₁ [] [C]:=⟨S₁,λU h=>h.elim,λb hb=>by refine rR (dO.mp hb) ?_;exact hC,λU hb=>by simp at hb⟩
 have hk':∀b o,b∉[C]->s'.heap.get? b=some o->h'.get? b=some o:=λb o hb e=>hs'.extBut b o (λq=>hb<|dO.mpr q) e;refine U2 (LI.drop (t:=s'.toks) B L hk') λsd Sd Kd=>?_;exact⟨_,st.trans S.own sd.toStep,Sd,.l acc,rD.mono Kd,q⟩
theorem Zw{i:Nat}{x:String}{py spos:Pos}{elt target iter:Expr}{ifs:bL}{scope:Scope}{pos:Pos}{tp:Bool}{k:Nat}{tn:aY}{Q:SP}(K:oZ scope aa)(hlen:ae.length=ai.length)(hk:tp=false->k=1)(yi:tn.length=k)
  (hN:d8<|fQ scope ai++tn.map some)(hs:∀x,foldedSetIterable iter aa x=pure x)(Zx:d8 ai)(hi:ai[i]?=some (some x))(hkx:aa.kindOf (Sx x)=some .local\/aa.kindOf (Sx x)=some .cell)
  (hsw:swapsWith (.ListComp elt [⟨target,iter,ifs,0⟩] scope pos) (some<|.Name (Sx x) py) spos.line aa=pure true)
  (ht:∀(cl:List<|PySem.Str×Addr) C,mG (λb=>b=C) (fQ scope ai++tn.map some) (compEnvC scope cl C aa) tp (List.range' ae.length k) target)
  (h:jY X d aa ai ae target iter H λitems H'=>∀(cl:List<|PySem.Str×Addr) C,oY X d (compEnvC scope cl C aa) (fQ scope ai++tn.map some) ae tp k ifs elt (λacc c8=>Q .n (ae.set i<|some<|.l acc) c8) items [] H'):
  gq X d aa ai ae (.Assign [.Name (Sx x) py] (.ListComp elt [⟨target,iter,ifs,0⟩] scope pos) spos) H Q:=λA cf s E hA hH S R=>by
 refine rR (exec_Assign_Name_used _ _ _ _ hsw) ?_;refine a_<|wpAny_standAt<|a_ ?_
 show wpAny _ A (do let _<-comprehension (.ListComp elt [⟨target,iter,ifs,0⟩] scope pos) scope aa _ (newList []) false (eval iter aa) (some<|assign (.Name (Sx x) py) aa)) _ _ s;refine a_ (bz (wpAny_comprehension_free (use:=some<|assign (.Name (Sx x) py) aa) (Q:=λU s'=>kM X aa ai cf s Q .next s') rfl hs (J9<|K.closed R) K.kind K.ai ?_) (λU s' hq=>cF<|cF hq) λU U e=>e);refine Kg (RR:=λacc C=>compPost (model X.prog X.w) A E (some<|assign (.Name (Sx x) py) aa) (λU s'=>kM X aa ai cf s Q .next s') acc C) K hlen hk yi hN (λC=>ht _ C) (J0 h λitems H' q C=>q _ C) hA hH S R ?_;intro D C aS s₁ aI s' acc m st S₁ cI L hC rD hns q;have R':=cI.step S₁ L.st.toStep;show wpAny _ A (assign (.Name (Sx x) py) aa<|.ref D) _ _ _;refine assign_Name (store Zx hi hkx L.sim R' rD λh₂ cU S₂ fN t=>?_);have nC:¬cN aa C:=λhf=>by refine X1 (S₁.here C (cN.of cI hf).1) λo e=>?_;rw[hC]at e;exact nN e
 have Zy:dH (cN aa) aI s' aI {s' with heap:=h₂,toks:=t}:=⟨I2 h₂ t rfl,cU.keep,cU.avoid,cU.fresh,cU.owned,cU.refs⟩
 have wC:=L.w C<|dO.mpr rfl
 refine aA m (hns.at' λo e=>cU.keep _ o wC.2 nC e) λh₃ iR=>?_;have B:mF X (cN aa) aS s₁ [] [C]:=⟨S₁,λb=>cN.of cI,λb hb=>by refine rR (dO.mp hb) ?_;exact hC,λU hb=>by simp at hb⟩
 have L':LI X (cN aa) aS s₁ [] [C] (λU U=>True) 0 aI s':=⟨L.st.toStep.toF,L.sim,L.w,trivial⟩
 have L₂:=LI.body (G:=cN aa) B L' (λU U U U hb=>by simp at hb) (λU U U U U=>trivial) (λb hb=>L.sim.here b (L.w b hb).1) (λb hb=>.inl hb) (λU hb=>by simp at hb) Zy S₂;have hk':∀b o,b∉[C]->h₂.get? b=some o->h₃.get? b=some o:=λb o hb e=>iR.extBut b o (λq=>hb<|dO.mpr q) e;refine U2 (LI.drop (t:=t) B L₂ hk') λsd Sd Kd=>?_;exact⟨_,.n,_,st.toF.trans S S₁ (λb=>cN.of R) sd,Sd,fN.drop Kd hk' λb hb=>by refine rR (dO.mp hb) ?_;exact nC,rfl,q⟩
set_option tactic.hygienic true in
theorem sq{H':ak}{p:PV}{n:Nat}{l:au}(h:iL H' p=some (n,l)):p=.e n/\H'[n]?=some (some<|.l l):=by
 unfold iL at h;split at h
 ·split at h
  ·rename_i e;refine U1 (jv<|aK h) λaN aQ=>?_;clear h;subst aN;subst aQ;exact⟨rfl,e⟩
  ·exact nN h
 ·exact nN h
theorem Zz{cf:Cf}{s:Shared}{p p':PV}{v:Value}{H':ak}(S:aU X cf s.heap)(r:Rep X cf s.heap p v)(h:xr cf.H p=some (p',H')):
  ∃aI,aI.H=H'/\Step cf s aI s/\aU X aI s.heap/\Rep X aI s.heap p' v:=by
 unfold xr at h;refine i_ h λn l hc h=>?_;dsimp only at h;split at h
 ·(refine U1 (jv<|aK h) λaR aT=>?_;clear h;subst aR;clear h;subst aT)
  refine U1 (sq hc) λaL hn=>?_;clear hc;subst aL;obtain⟨pp,e2,rfl⟩:=r;obtain⟨he,vs,hpl,hz,rl⟩:=S.rep n _ pp hn e2;have o1:Own cf pp.1:=⟨n,_,pp,hn,e2,.inl rfl⟩
  have K:Kept cf s.heap {ρ:=cf.ρ,O:=λb=>cf.O b/\b≠pp.1,H:=cf.H.set n none} s.heap:=⟨λU U U e=>e,λb o hb U h=>hb h.1,λU U h=>h⟩
  have back:∀(m:Nat)(ao:AO),(cf.H.set n none)[m]?=some (some ao)->m≠n/\cf.H[m]?=some (some ao):=λm ao e=>by
   by_cases hmn:n=m
   ·subst hmn;by_cases hl:n<cf.H.length
    ·rw[jL hl]at e;cases e
    ·rw[gO<|by refine rR i5 ?_;exact z0 hl]at e;exact nN e
   ·rw[jr hmn]at e;exact⟨λq=>hmn q.symm,e⟩
  have CR:∀b,Own {ρ:=cf.ρ,O:=λb=>cf.O b/\b≠pp.1,H:=cf.H.set n none} b->Own cf b/\b≠pp.1:=λb hb=>by
   obtain⟨m,ao,q,f1,f2,f3⟩:=hb;refine U1 (back m ao f1) λhmn f1=>?_;refine⟨⟨m,ao,q,f1,f2,f3⟩,?_⟩;have j:=S.inj m n ao _ q pp f1 hn f2 e2 hmn;rcases f3 with rfl|rfl
   ·exact j.1
   ·exact j.2.2.1
  refine⟨{ρ:=cf.ρ,O:=λb=>cf.O b/\b≠pp.1,H:=cf.H.set n none},rfl,⟨I2 s.heap s.toks rfl,λU U U e=>e,λb o h1 h2 U=>⟨h1,λq=>h2<|q▸o1⟩,λb h=>.inl h.1,λb h=>.inl (CR b h).1,λU U h=>h⟩,
   ⟨by refine rR i5 ?_;exact S.len,λm ao q f1 f2=>?_,λb h=>⟨S.own b (CR b h).1,(CR b h).2⟩,λm i ao bo q u f1 f2 f3 f4 hne=>?_,λb h=>S.here b h.1,λb o e=>⟨(S.base b o e).1,λh=>(S.base b o e).2 h.1⟩⟩,?_⟩
  ·refine U1 (back m ao f1) λU f1=>?_;exact(S.rep m ao q f1 f2).mono K (λU e=>e) λU e=>e
  ·exact S.inj m i ao bo q u (back m ao f1).2 (back i bo f2).2 f3 f4 hne
  ·exact⟨pp.1,vs,rfl,λh=>h.2 rfl,hpl,hz,rl.mono K l⟩
 ·exact nN h
theorem ZA{i:Nat}{x:String}{ss:List Stmt}{Q:SP}(hN:d8 ai)(hi:ai[i]?=some (some x))
  (h:∃v r,ae[i]?=some (some v)/\xr H v=some r/\iQ X d aa ai (ae.set i<|some r.1) ss r.2 Q):iQ X d aa ai ae ss H Q:=λA cf s E hA hH S R=>by
 subst hH;refine d_ h λv aM hv hf hs=>?_;obtain⟨p',H'⟩:=aM;refine d_ R.vals λm cm hn hc KJ=>?_;refine aC (KJ i x v hi hv) λw rw' hw=>?_;refine zP (Zz S rw' hf) λaI aP st S' r'=>?_;clear hf;subst aP;have R':=R.step S st;refine d_ R'.vals λm' cm' hn' hc' aaK=>?_
 
 have uJ:cK X aI aa ai (ae.set i<|some p') s.heap:=by
  refine⟨R'.kind,R'.glob,R'.blt,R'.av,R'.iu,R'.apart,R'.oF,R'.off,m,cm,hn,hc,λj y pv hj hp=>?_⟩;by_cases hij:i=j
  ·subst hij;rw[hi]at hj;have hj:=aK<|aK hj
   subst hj;rw[jL<|W0 hv]at hp;have hp:=aK<|aK hp
   subst hp;exact aA w r' hw
  ·rw[jr hij]at hp;refine aC (KJ j y pv hj hp) λu ru hu=>?_;exact aA u (ru.mono<|st.kept S.own) hu
 exact bz (hs A aI s E hA rfl S' uJ) (λU U y=>y.after (cZ:=ae) S R S' st.toF) λU U y=>y
end
section
variable {X:Cx}{cf aI:Cf}{h:Heap}
mutual
theorem KL(hO:∀a,¬aI.O a->¬cf.O a):∀(n:Nat)(p:PV){v:Value},fz n p=true->Rep X aI h p v->Rep X cf h p v
 |n,.n,v,_,r=>r
 |n,.b b,v,_,r=>r
 |n,.i i,v,_,r=>r
 |n,.s s,v,_,r=>r
 |n,.d f,v,_,r=>by obtain⟨a,g,rfl,ho,hs,hm,hi⟩:=r;exact wW.mk a g rfl (hO a ho) hs hm hi
 |0,.t l,v,q,_=>absurd q gE
 |0,.l l,v,q,_=>absurd q gE
 |0,.r l,v,q,_=>absurd q gE
 |0,.c ks l,v,q,_=>absurd q gE
 |0,.o c ns l,v,q,_=>absurd q gE
 |0,.e m,v,q,_=>absurd q gE
 |n+1,.e m,v,q,_=>absurd q gE
 |n+1,.t l,v,q,r=>by obtain⟨a,vs,rfl,ho,ht,hz,hr⟩:=r;exact kI.mk a vs rfl (hO a ho) ht hz<|o_ hO n l q hr
 |n+1,.l l,v,q,r=>by obtain⟨a,vs,rfl,ho,ht,hz,hr⟩:=r;exact kI.mk a vs rfl (hO a ho) ht hz<|o_ hO n l q hr
 |n+1,.r l,v,q,r=>by obtain⟨a,vs,rfl,ho,ht,hz,hr⟩:=r;exact kI.mk a vs rfl (hO a ho) ht hz<|o_ hO n l q hr
 |n+1,.c ks l,v,q,r=>by obtain⟨a,vals,rfl,ho,hs,hm,hl,hr⟩:=r;exact wX.mk a vals rfl (hO a ho) hs hm hl<|o_ hO n l q hr
 |n+1,.o c ns l,v,q,r=>by obtain⟨a,d,C,es,m,rfl,ho,hd,hc,e1,e2,hk,hr⟩:=r;exact wY.mk a d C es m rfl (hO a ho) (hO d hd) hc e1 e2 hk<|o_ hO n l q hr
theorem o_(hO:∀a,¬aI.O a->¬cf.O a):∀(n:Nat)(l:au){vs:cz},l.all (fz n)=true->aO X aI h l vs->aO X cf h l vs
 |n,[],vs,_,r=>r
 |n,p::ps,vs,q,r=>by rw[oj,cy]at q;obtain⟨v,t,rfl,hr,hs⟩:=r;exact Aj.mk v t rfl (KL hO n p q.1 hr)<|o_ hO n ps q.2 hs
end
theorem ZC(S:aU X aI h)(hO:∀a,¬aI.O a->¬cf.O a)(hw:∀b,Own aI b->¬cf.O b):∀(n:Nat){p p':PV}{v:Value},b8 n aI.H p=some p'->Rep X aI h p v->Rep X cf h p' v:=by
 have fin:∀{p p':PV}{v:Value},lz p=some p'->Rep X aI h p v->Rep X cf h p' v:=λ{p p' v} hp r=>p_ hp λq e=>aK e▸KL hO 4 p q r;intro n
 induction n with
 |zero=>exactλhp r=>fin hp r
 |succ n ih=>
  have ym:∀{l l':au}{vs:cz},l.mapM (b8 n aI.H)=some l'->aO X aI h l vs->aO X cf h l' vs:=λ{l}=>by
   induction l with
   |nil=>
    intro l' vs hm r;have:l'=[]:=by simpa using hm.symm
    clear hm;subst this;exact r
   |cons p l CT=>
    intro l' vs hm r;rw[List.mapM_cons]at hm;refine bG hm λq hq hm=>?_;refine bG hm λl'' hl hm=>?_;have hm:=aK hm;subst hm;obtain⟨v,t,rfl,hr,hs⟩:=r;exact aO.fD (ih hq hr)<|CT hl hs
  intro p p' v hp r
  induction p using d7 with
  |e m=>
   obtain⟨pp,e2,rfl⟩:=r;refine bG hp λo ho hp=>?_;refine bG hp λao e1 hp=>?_;subst e1
   induction ao using AO.casesOn with
   |l l=>
    refine omap hp λl' hl=>?_;obtain⟨he,vs,hpl,hz,rl⟩:=S.rep m _ pp ho e2;exact kI.mk pp.1 vs rfl (hw _ ⟨m,_,pp,ho,e2,.inl rfl⟩) hpl hz<|ym hl rl
   |i k f=>
    obtain rfl:=aK hp;obtain⟨he,hs,kvs,hd,hl,hi⟩:=S.rep m _ pp ho e2;exact wW.mk pp.1 _ rfl (hw _ ⟨m,_,pp,ho,e2,.inl rfl⟩) hs hd.mapOf hi
   |s ks l=>
    refine omap hp λl' hl=>?_;obtain⟨he,hs,vals,hd,hlen,rl⟩:=S.rep m _ pp ho e2;have hd':=hd.mapOf;rw[show valueAt ((List.map Sx ks).zip vals)=kH ks vals from funext λx=>l_ _ x]at hd';exact wX.mk pp.1 vals rfl (hw _ ⟨m,_,pp,ho,e2,.inl rfl⟩) hs hd' hlen<|ym hl rl
   |n c ns l=>
    refine omap hp λl' hl=>?_;obtain⟨he,C,es,k,hc,g1,g2,hk,rl⟩:=S.rep m _ pp ho e2;exact wY.mk pp.1 pp.2 C es k rfl (hw _ ⟨m,_,pp,ho,e2,.inl rfl⟩) (hw _ ⟨m,_,pp,ho,e2,.inr rfl⟩) hc g1 g2 hk<|ym hl rl
  |t l=>
   refine omap hp λl' hl=>?_;obtain⟨a,vs,rfl,ho,ht,hz,hr⟩:=r;exact kI.mk a vs rfl (hO a ho) ht hz<|ym hl hr
  |_=>exact fin hp r
end
end
section
mutual
theorem sr:∀(a b:PV),fj a b=true->a=b
 |.n,b,h=>by induction b using d7<;>first|rfl|exact nB h
 |.b x,b,h=>by induction b using d7<;>first|exact congrArg _ (gQ.mp h)|exact nB h
 |.i x,b,h=>by induction b using d7<;>first|exact congrArg _ (cG h)|exact nB h
 |.s x,b,h=>by induction b using d7<;>first|exact congrArg _ (cG h)|exact nB h
 |.t l,b,h=>by induction b using d7<;>first|exact congrArg _ (CU l _ h)|exact nB h
 |.l l,b,h=>by induction b using d7<;>first|exact congrArg _ (CU l _ h)|exact nB h
 |.r l,b,h=>absurd h gE
 |.d f,b,h=>absurd h gE
 |.c ks l,b,h=>absurd h gE
 |.o c ns l,b,h=>absurd h gE
 |.e n,b,h=>absurd h gE
theorem CU:∀(a b:au),uh a b=true->a=b
 |[],b,h=>(lh.mp h).symm
 |x::r,[],h=>absurd h gE
 |x::r,y::t,h=>by have h:=k8.mp h;exact rR (sr x y h.1)<|rR (CU r t h.2) rfl
end
theorem ZD{n:Nat}{a b:PV}(h:simple n a=true):fj a b=true↔a=b:=⟨sr a b,λe=>e▸w_ n a h⟩
theorem CV(x:Bool)(b:PV):fj b (.b x)=true↔b=.b x:=⟨sr _ _,λe=>by subst e;exact beq_self_eq_true x⟩
theorem KN(b:PV):fj b .n=true↔b=.n:=⟨sr _ _,λe=>by subst e;rfl⟩
theorem KO{a:PV}(h:xd a=true):∃x,a=.b x:=by induction a using d7<;>simp[xd]at h;exact⟨_,rfl⟩
theorem yn{a:PV}(h:xe a=true):a=.n\/∃x,a=.b x:=by induction a using d7<;>simp[xe]at h;exact .inl rfl;exact .inr ⟨_,rfl⟩
theorem ZE{a:PV}{n:Nat}(h:simple n a=true)(l:au):l.any (fj a)=true↔a∈l:=by rw[List.any_eq_true];exact⟨λ⟨x,hx,e⟩=>sr a x e▸hx,λhm=>aA a hm<|w_ n a h⟩
set_option tactic.hygienic true in
theorem KP{H:ak}{b:PV}{f:Int->bK}(h:rt H b=some f):b=.d f\/∃n,b=.e n/\∃m,H[n]?=some (some<|.i m f):=by
 unfold rt at h;split at h
 ·exact .inl<|by exact rR (aK h) rfl
 ·split at h
  ·rename_i e;exact .inr<|zQ _ rfl _ (by exact rR e<|rR (aK h) rfl)
  ·exact nN h
 ·exact nN h
set_option tactic.hygienic true in
theorem KQ{H:ak}{b:PV}{p:aY×au}(h:xg H b=some p):b=.c p.1 p.2\/∃n,b=.e n/\H[n]?=some (some<|.s p.1 p.2):=by
 unfold xg at h;split at h
 ·have:=aK h;clear h;subst this;exact .inl rfl
 ·split at h
  ·rename_i e;have:=aK h;clear h;subst this;exact .inr<|aA _ rfl e
  ·exact nN h
 ·exact nN h
section
variable {H:ak}{a b:PV}{Q:Bool->Prop}{r:Bool}
set_option tactic.hygienic true in
theorem KR(h:xh H a b=some r):(∃l,e_ H b=some l/\simple 2 a=true/\l.all (simple 2)=true/\(r=true↔a∈l))\/
   (∃f i,(b=.d f\/∃n,b=.e n/\∃m,H[n]?=some (some<|.i m f))/\a=.i i/\r=(f i).isSome)\/
   (∃ks l x,(b=.c ks l\/∃n,b=.e n/\H[n]?=some (some<|.s ks l))/\a=.s x/\r=ks.contains x):=by
 unfold xh at h;split at h
 ·rename_i l e;split at h
  ·rename_i q;rw[cy]at q;have h:=aK h;subst h;exact .inl<|iq l e q.1 q.2<|ZE q.1 l
  ·exact nN h
 ·split at h
  ·refine gY h λf hf er=>?_;clear h;subst er;exact .inr<|.inl<|fg f _ (KP hf) rfl rfl
  ·refine gY h λp hp er=>?_;clear h;subst er;exact .inr<|.inr<|zR p.1 p.2 _ (KQ hp) rfl rfl
  ·exact nN h
theorem KU(h:mj H a b=true):((∃x y,a=.b x/\b=.b y)\/(simple 4 (view H a)=true/\simple 4 (view H b)=true))/\(fj (view H a) (view H b)=true↔view H a=view H b):=by
 unfold mj at h;rcases qV.mp h with h|h<;>rw[cy]at h
 ·(refine X1 (KO h.1) λx aN=>?_;subst aN)
  refine X1 (KO h.2) λy aQ=>?_;clear h;clear h;subst aQ;exact⟨.inl<|gR x y rfl rfl,CV y<|.b x⟩
 ·exact⟨.inr h,ZD h.1⟩
open Classical in
set_option tactic.hygienic true in
theorem su{op:gw}(h:cE H op a b=some r)(q:Q r):mh H op a b Q:=by
 have dec:∀{P:Prop}[Decidable P](c:Bool),(c=true↔P)->decide P=c:=λc hc=>by
  induction c using cP<;>simp_all
 induction op using gw.casesOn with
 |e=>
  simp only[cE]at h;split at h
  ·rename_i e;have:=aK h;clear h;subst this;refine U1 (KU e) λh1 h2=>?_;exact⟨h1,by refine rR (dec _ h2) ?_;exact q⟩
  ·exact nN h
 |n=>
  simp only[cE]at h;split at h
  ·rename_i e;have:=aK h;clear h;subst this;refine U1 (KU e) λh1 h2=>?_;exact⟨h1,by refine rR (dec _ h2) ?_;exact q⟩
  ·exact nN h
 |l=>simp only[cE]at h;split at h<;>first|(have:=aK h;clear h;subst this;exact fg _ _ rfl rfl q)|exact nN h
 |a=>simp only[cE]at h;split at h<;>first|(have:=aK h;clear h;subst this;exact fg _ _ rfl rfl q)|exact nN h
 |g=>simp only[cE]at h;split at h<;>first|(have:=aK h;clear h;subst this;exact fg _ _ rfl rfl q)|exact nN h
 |b=>simp only[cE]at h;split at h<;>first|(have:=aK h;clear h;subst this;exact fg _ _ rfl rfl q)|exact nN h
 |s=>
  simp only[cE]at h;split at h
  ·rename_i e;have:=aK h;clear h;subst this;refine⟨yn e,?_⟩;rcases yn e with rfl|⟨x,rfl⟩
   ·refine rR (dec _ (KN a)) ?_;exact q
   ·refine rR (dec _ (CV x a)) ?_;exact q
  ·exact nN h
 |t=>
  simp only[cE]at h;split at h
  ·rename_i e;have:=aK h;clear h;subst this;refine⟨yn e,?_⟩;rcases yn e with rfl|⟨x,rfl⟩
   ·refine rR (dec _ (KN a)) ?_;exact q
   ·refine rR (dec _ (CV x a)) ?_;exact q
  ·exact nN h
 |i=>
  simp only[cE]at h;rcases KR h with⟨l,e1,e2,e3,e4⟩|⟨f,i,e1,e2,rfl⟩|⟨ks,l,x,e1,e2,rfl⟩
  ·exact .inl<|iq l e1 e2 e3<|by refine rR (dec _ e4) ?_;exact q
  ·exact .inr<|.inl<|fg f i e1 e2 q
  ·exact .inr<|.inr<|zR ks l x e1 e2 q
 |o=>
  simp only[cE]at h;refine gY h λr' h' er=>?_;clear h;subst er;rcases KR h' with⟨l,e1,e2,e3,e4⟩|⟨f,i,e1,e2,rfl⟩|⟨ks,l,x,e1,e2,rfl⟩
  ·exact .inl<|iq l e1 e2 e3<|by refine rR (dec _ e4) ?_;exact q
  ·exact .inr<|.inl<|fg f i e1 e2 q
  ·exact .inr<|.inr<|zR ks l x e1 e2 q
end
section
variable {H:ak}{a b i lo hi:PV}{Q:PV->Prop}{r:PV}
set_option tactic.hygienic true in
theorem ZG{op:lu}(h:kJ H op a b=some r)(q:Q r):w7 H op a b Q:=by
 unfold kJ at h;split at h
 ·induction op using lu.casesOn with
  |a=>have:=aK h;clear h;subst this;exact .inl<|fg _ _ rfl rfl q
  |s=>have:=aK h;clear h;subst this;exact fg _ _ rfl rfl q
  |m=>
   simp only at h;split at h
   ·rename_i e;have:=aK h;clear h;subst this;rw[cy,se,se]at e;exact t8 _ _ rfl rfl e.1 e.2 q
   ·exact nN h
  |f=>
   simp only at h;split at h
   ·rename_i e;have:=aK h;clear h;subst this;rw[cy,cy,se,se,ff]at e;exact Fl _ _ rfl rfl e.1.1 e.1.2 e.2 q
   ·exact nN h
  |o=>
   simp only at h;split at h
   ·rename_i e;have:=aK h;clear h;subst this;rw[ff]at e;exact fy _ _ rfl rfl e q
   ·exact nN h
 ·split at h
  ·split at h
   ·rename_i e1 e2;split at h
    ·rename_i e3;have:=aK h;clear h;subst this;exact .inr<|fy _ _ e1 e2 e3 q
    ·exact nN h
   ·exact nN h
  ·exact nN h
set_option tactic.hygienic true in
theorem ZH(h:gH H a i=some r)(q:Q r):Am H a i Q:=by
 unfold gH at h;split at h
 ·refine bG h λp hp h=>?_;exact .inr<|.inr<|pX p.1 p.2 _ r (KQ hp) rfl h q
 ·split at h
  ·rename_i l e;refine bG h λj hj h=>?_;exact .inl<|pY l _ j r e rfl hj h q
  ·refine bG h λf hf h=>?_;refine gY h λv hv er=>?_;clear h;clear h;subst er;exact .inr<|.inl<|lY f _ v (KP hf) rfl hv q
 ·exact nN h
set_option tactic.hygienic true in
theorem KV{n d j:Nat}{p:PV}(h:ny n d p=some j):(p=.n/\j=d)\/∃k,p=.i k/\small k/\j=cutAt k n:=by
 unfold ny at h;split at h
 ·exact .inl ⟨rfl,(aK h).symm⟩
 ·split at h
  ·rename_i hs;exact .inr<|cM _ rfl (se.mp hs) ((aK h).symm)
  ·exact nN h
 ·exact nN h
theorem ZI(h:ja H a lo hi=some r)(q:Q r):G7 H a lo hi Q:=by
 unfold ja at h;refine bG h λl hl' h=>?_;have hl:fh H a=some l\/a=.r l:=by
  unfold rz at hl';split at hl'
  ·exact .inr<|by exact rR (aK hl') rfl
  ·exact .inl hl'
 refine bG h λi hi' h=>?_;refine gY h λj hj er=>?_;clear h;clear h;subst er;exact lY l i j hl (KV hi') (KV hj) q
end
end
section
theorem KW{l r:List<|PySem.Str×Value}{n:PySem.Str}(h:n∉l.map (·.1)):(l++r).lookup n=r.lookup n:=by
 induction l with
 |nil=>rfl
 |cons p l ih=>
  rw[fK,eO,not_or]at h;refine rR List.cons_append<|rR m8 ?_
  have:(n==p.1)=false:=by simpa using h.1
  refine rR this ?_;exact ih h.2
theorem ZJ{l:List<|PySem.Str×Value}{n:PySem.Str}(h:n∉l.map (·.1)):l.lookup n=none:=by
 have:=KW (r:=[]) h
 rwa[pM]at this
theorem KY{l:List<|PySem.Str×Value}{n:PySem.Str}(h:n∈l.map (·.1)):∃v,l.lookup n=some v:=by
 induction l with
 |nil=>simp at h
 |cons p l ih=>
  refine rR m8 ?_;cases hb:n==p.1 with
  |true=>exact⟨p.2,rfl⟩
  |false=>
   rw[fK,eO]at h;rcases h with h|h
   ·rw[h]at hb;simp at hb
   ·exact ih h
theorem qv{ns:List PySem.Str}:∀{ws:cz},(ns.zip ws).map (·.1)=ns.take ws.length:=by
 induction ns with
 |nil=>intro ws;simp
 |cons n ns ih=>intro ws;induction ws using b9 with
  |nil=>simp
  |cons w ws=>simp[ih]
theorem KZ:∀{ns:List PySem.Str}{ws:cz}(pre:List<|PySem.Str×Value),ns.Nodup->(∀n∈ns,n∉pre.map (·.1))->ws.length=ns.length->
  ns.filterMap (λn=>((pre++ns.zip ws).lookup n).map λx=>(n,x))=ns.zip ws
 |[],ws,pre,_,_,_=>by simp
 |n::ns,[],pre,_,_,h=>by simp at h
 |n::ns,w::ws,pre,hn,hp,hl=>by
  refine U1 (kC.mp hn) λh1 h2=>?_;have e:∀m,(pre++(n::ns).zip (w::ws)).lookup m=((pre++[(n,w)])++ns.zip ws).lookup m:=λm=>by rw[List.append_assoc];rfl
  have e1:(pre++(n::ns).zip (w::ws)).lookup n=some w:=by refine rR (KW<|hp n cR) ?_;simp
  refine rR lg<|rR e1 ?_
  simp only[Option.map_some,List.zip_cons_cons]
  have ih:=KZ (pre++[(n,w)]) h2 (λm hm=>by
   refine rR kB ?_;rewrite[dR,not_or];refine⟨hp m<|dh _ hm,?_⟩;simp only[List.map_cons,List.map_nil,List.mem_singleton]
   exactλq=>h1<|q▸hm)<|by simpa using hl
  have cg:∀(f g:PySem.Str->Option (PySem.Str×Value))(l:List PySem.Str),(∀m∈l,f m=g m)->l.filterMap f=l.filterMap g:=λf g l h=>by
   induction l with
   |nil=>rfl
   |cons m l CT=>exact rR lg<|rR lg<|rR (h m cR)<|rR (CT λy hy=>h y<|dh _ hy) rfl
  have z:=cg (λm=>Option.map (λx=>(m,x))<|List.lookup m<|pre++(n::ns).zip (w::ws)) _ ns λm U=>by exact rR (e m) rfl
  exact congrArg _ (z.trans ih)
theorem CW{α β:Type}:∀(k:Nat)(ns:List α)(ws:List β),(ns.zip ws).take k=(ns.take k).zip (ws.take k)
 |0,ns,ws=>by simp
 |k+1,[],ws=>by simp
 |k+1,n::ns,[]=>by simp
 |k+1,n::ns,w::ws=>by simp[CW k ns ws]
theorem K1{α β:Type}:∀(k:Nat)(ns:List α)(ws:List β),(ns.zip ws).drop k=(ns.drop k).zip (ws.drop k)
 |0,ns,ws=>by simp
 |k+1,[],ws=>by simp
 |k+1,n::ns,[]=>by simp
 |k+1,n::ns,w::ws=>by simp[K1 k ns ws]
noncomputable def bindG(acc:List<|PySem.Str×Value)(x:PySem.Str×Value):List (PySem.Str×Value):=if(acc.lookup x.1).isNone then acc++[x]else acc
theorem K3:∀(l acc:List<|PySem.Str×Value),(∀x∈l,x.1∈acc.map (·.1))->l.foldl bindG acc=acc
 |[],acc,_=>rfl
 |x::l,acc,h=>by
  refine X1 (KY<|h x cR) λv hv=>?_;refine rR pN ?_;have:bindG acc x=acc:=by unfold bindG;refine rR hv ?_;rfl
  refine rR this ?_;exact K3 l acc λy hy=>h y<|dh _ hy
theorem K4:∀(l acc:List<|PySem.Str×Value),(∀x∈l,x.1∉acc.map (·.1))->(l.map (·.1)).Nodup->l.foldl bindG acc=acc++l
 |[],acc,_,_=>by simp
 |x::l,acc,h,hn=>by
  rw[fK]at hn;refine U1 (kC.mp hn) λh1 h2=>?_;refine rR pN ?_;have:bindG acc x=acc++[x]:=by unfold bindG;refine rR (ZJ<|h x cR) ?_;rfl
  rw[this,K4 l _ (λy hy=>by
   refine rR kB ?_;rewrite[dR,not_or];refine⟨h y<|dh _ hy,?_⟩;simp only[List.map_cons,List.map_nil,List.mem_singleton]
   exactλq=>h1<|q▸q5 hy) h2]
  simp
set_option tactic.hygienic true in
theorem ZK(l acc:List<|PySem.Str×Value):(forIn l acc λx __s=>if(List.lookup x.fst __s).isNone=true then(pure (ForInStep.yield<|__s++[(x.fst,x.snd)]):Sem _)
        else pure (ForInStep.yield __s))=pure (l.foldl bindG acc):=by
 induction l generalizing acc with
 |nil=>rfl
 |cons x l ih=>
  rewrite[List.forIn_cons];refine rR pN ?_;unfold bindG;split
  ·rename_i h;simp only[pure_bind];rw[ih];rfl
  ·rename_i h;simp only[pure_bind];rw[ih];rfl
theorem ZL{ns:List PySem.Str}{vals dv:cz}{a b:Nat}(hn:ns.Nodup)(hv:vals.length=a+b)(hl:vals.length<=ns.length):((ns.drop a).zip dv).foldl bindG (ns.zip vals)=ns.zip (vals++dv.drop b):=by
 have hsplit:((ns.drop a).zip dv).drop b=(ns.drop vals.length).zip (dv.drop b):=by(rewrite[K1];exact rR List.drop_drop<|rR hv rfl)
 have hk:(ns.zip vals).map (·.1)=ns.take vals.length:=qv;have hnd:(ns.take vals.length++ns.drop vals.length).Nodup:=by rw[q7];exact hn
 have g1:∀x∈((ns.drop a).zip dv).take b,x.1∈(ns.zip vals).map (·.1):=λx hx=>by
  have h7:x.1∈(((ns.drop a).zip dv).take b).map (·.1):=q5 hx;rw[CW,qv,List.take_take,List.take_drop]at h7;refine rR hk<|rR hv ?_
  exact(List.take_sublist_take_left<|Nat.add_le_add_left (by refine rR gU ?_;exact eR (jN _ _)<|jN _ _) a).subset<|List.mem_of_mem_drop h7
 have g2:∀x∈(ns.drop vals.length).zip (dv.drop b),x.1∉(ns.zip vals).map (·.1):=λx hx=>by have h7:x.1∈((ns.drop vals.length).zip<|dv.drop b).map (·.1):=q5 hx;rw[qv]at h7;refine rR hk ?_;exactλhx'=>(List.nodup_append.mp hnd).2.2 _ hx' _ (List.mem_of_mem_take h7) rfl
 have g3:(((ns.drop vals.length).zip<|dv.drop b).map (·.1)).Nodup:=by refine rR qv ?_;exact(hn.sublist<|List.drop_sublist _ _).sublist<|List.take_sublist _ _
 refine rL (q7 b<|(ns.drop a).zip dv)<|rR hsplit<|rR List.foldl_append<|rR (K3 _ (ns.zip vals) g1)<|rR (K4 _ _ g2 g3)<|rL (q7 vals.length ns)<|rR (List.zip_append<|by rw[gU];exact oz hl) ?_
 rewrite[q7];congr 1;refine rL (tO (l:=ns.zip vals) (i:=vals.length)<|by rw[List.length_zip];exact lV _ _) ?_;rewrite[CW];exact rR m_ rfl
theorem bind_none{ns:List PySem.Str}{vals:cz}{a:Nat}(h:a<=vals.length):(ns.take a).filter (λn=>(List.lookup n<|ns.zip vals).isNone)=[]:=by rw[List.filter_eq_nil_iff];intro n hm;refine X1 (KY (l:=ns.zip vals) (n:=n)<|by refine rR qv ?_;exact(List.take_sublist_take_left h).subset hm) λv hv=>?_;refine rR hv ?_;exact gE
theorem K5{α:Type}{M:Model}{A:Around}{c:Prop}[Decidable c]{a b:Sem α}{Q:α->Shared->Prop}{E:cJ}{s:Shared}(h:¬c)(k:wpAny M A b Q E s):wpAny M A (if c then a else b) Q E s:=by refine rR (bO h) ?_;exact k
theorem ZM{M:Model}{A:Around}{l acc r:List<|PySem.Str×Value}{Q:List (PySem.Str×Value)->Shared->Prop}{E:cJ}{s:Shared}(h:l.foldl bindG acc=r)(q:Q r s):wpAny M A (forIn l acc λx __s=>if(List.lookup x.fst __s).isNone=true then(pure (ForInStep.yield<|__s++[(x.fst,x.snd)]):Sem _)
        else pure (ForInStep.yield __s)) Q E s:=by
 rewrite[ZK];refine rR h ?_;exact cF q
theorem ZN{fd:FuncData}{s:Shared}{vals dv:cz}{ns:List PySem.Str}(h1:fd.params.posonlyargs=[])(h2:fd.params.kwonlyargs=[])(h3:fd.params.vararg=none)(h4:fd.params.kwarg=none)
  (h5:fd.params.args.map (·.arg)=ns)(hn:ns.Nodup)(hd:∀(M:Model) (A:Around) (E:cJ) (Q:Option dg->Shared->Prop),(∀o,(o.getD #[]).toList=dv->Q o s)->wpAny M A (seqItems? fd.defaults) Q E s)
  (hl:vals.length<=ns.length)(hl2:ns.length<=vals.length+dv.length)(CX:dv.length<=ns.length):
  BindsTo s fd ⟨vals,[]⟩ (ns.zip<|vals++dv.drop (dv.length-(ns.length-vals.length))):=by
 intro M A E Q q;obtain⟨nm,qn,⟨po,ar,va,ko,kd,kw,df⟩,f3,f4,f5,f6,f7,f8,f9⟩:=fd;dsimp only at h1 h2 h3 h4 h5 hd;subst h1 h2 h3 h4 h5;show wpAny M A (seqItems? _>>=_) Q E s;refine a_ (hd M A _ _ λo ho=>?_);clear hd;subst ho;generalize ar.map (λx=>x.arg)=ns at hn hl hl2 CX q;have hb:vals.length=(ns.length-(o.getD #[]).toList.length)+((o.getD #[]).toList.length-(ns.length-vals.length)):=Qg hl hl2 CX;have c2:(o.getD #[]).toList.drop ((o.getD #[]).toList.length-ns.length)=(o.getD #[]).toList:=by exact rR (Nat.sub_eq_zero_of_le CX)<|rR List.drop_zero rfl
 refine K5 (show¬(decide (vals.length>ns.length)&&true)=true by refine rR (dG<|Nat.not_lt.mpr hl) ?_;exact gE) ?_
 refine K5 (show¬(!((ns.take<|ns.length-((o.getD #[]).toList.drop<|(o.getD #[]).toList.length-ns.length).length).filter λn=>(List.lookup n<|ns.zip vals).isNone).isEmpty)=true by
  refine rR c2<|rR (bind_none<|hb▸jt _ _) ?_;exact gE) ?_
 refine a_ (ZM (r:=ns.zip<|vals++(o.getD #[]).toList.drop ((o.getD #[]).toList.length-(ns.length-vals.length))) (show List.foldl bindG (ns.zip vals) ((ns.drop<|ns.length-((o.getD #[]).toList.drop<|(o.getD #[]).toList.length-ns.length).length).zip<|(o.getD #[]).toList.drop<|(o.getD #[]).toList.length-ns.length)=_ by
  refine rR c2 ?_;exact ZL hn hb hl) ?_)
 refine cF ?_;have:=KZ (ns:=ns) (ws:=vals++(o.getD #[]).toList.drop ((o.getD #[]).toList.length-(ns.length-vals.length))) [] hn (λU U=>List.not_mem_nil)<|by refine rR gF<|rR pO ?_;exact Qh hl hb
 rw[<-this]at q;show Q (List.filterMap _ (ns++[])) s;rw[pM];exact q
end
section
def all2(f:Value->PV->Bool):cz->au->Bool
 |[],l=>l.isEmpty
 |v::vs,l=>lC (λp ps=>f v p&&all2 f vs ps) l
def CY(v:Value):PV->Bool
 |.n=>decide<|v=.none
 |.b b=>decide<|v=.bool b
 |.i b=>vInt (λi=>decide<|i=b) v
 |.s b=>vStr (λi=>decide<|i=Sx b) v
 |.t _=>false
 |.l _=>false
 |.r _=>false
 |.d _=>false
 |.c _ _=>false
 |.o _ _ _=>false
 |.e _=>false
def K6(K:Frag)(f:Value->PV->Bool)(v:Value)(p:PV):Bool:=xW (λa=>oS (λo=>decide (o.cls=.type "tuple")&&xX (λvs=>decide (vs.size<=2^20)&&(xo p λl=>some<|all2 f vs.toList l).getD false) o.data)<|K.lookup a) v
def qw(K:Frag):Nat->Value->PV->Bool
 |0,v,p=>CY v p
 |n+1,v,p=>CY v p||K6 K (qw K n) v p
section
variable {X:Cx}{cf:Cf}{h:Heap}
theorem K7{f:Value->PV->Bool}(hf:∀v p,f v p=true->Rep X cf h p v):∀(vs:cz){l:au},all2 f vs l=true->aO X cf h l vs:=by
 intro vs
 induction vs with
 |nil=>exactλe=>jF _ e aO.gk
 |cons v vs ih=>exactλe=>xV _ e λp ps e=>aO.fD (hf v p (band e).1)<|ih (band e).2
theorem K8{v:Value}{p:PV}(e:CY v p=true):Rep X cf h p v:=by
 induction p using d7 with
 |n=>refine rR (cG e) ?_;exact kL
 |b b=>refine rR (cG e) ?_;exact lA
 |i b=>exact Yb v e λi t e=>cG e▸gm
 |s b=>exact Yc v e λi t e=>cG e▸BZ
 |_=>nomatch e
theorem ZO{o:Option Bool}(e:o.getD false=true):o=some true:=by
 induction o using e9 with
 |none=>nomatch e
 |some b=>exact congrArg some e
theorem ZP(T:eK X)(S:aU X cf h){f:Value->PV->Bool}(hf:∀v p,f v p=true->Rep X cf h p v){v:Value}{p:PV}(e:K6 X.K f v p=true):Rep X cf h p v:=by
 refine JE v e λa e=>?_;cases ho:X.K.lookup a with
 |none=>rw[ho]at e;nomatch e
 |some o=>
  rw[ho]at e;refine U1 (band e) λe1 e2=>?_;refine U1 (S.base a o<|T.wZ a o ho) λg1 g2=>?_;obtain⟨vs,k,hd,e2⟩:∃vs k,o.data=.seq vs k/\(decide (vs.size<=2^20)&&(xo p λl=>some<|all2 f vs.toList l).getD false)=true:=JF o.data e2 λvs k e=>gR vs k rfl e;refine xq (ZO (band e2).2) λl el e3=>?_;clear e;clear e;subst el;exact⟨a,vs,rfl,g2,t7 o g1 (cG e1) k hd,cG (band e2).1,K7 hf _ (aK e3)⟩
theorem K9(T:eK X)(S:aU X cf h):∀(n:Nat)(v:Value)(p:PV),qw X.K n v p=true->Rep X cf h p v:=by
 intro n
 induction n with
 |zero=>exactλv p e=>K8 e
 |succ n ih=>exactλv p e=>(qV.mp e).elim K8<|ZP T S ih
end
structure FnAt (X:Cx)(f:Addr)(fd:FuncData)(body:List Stmt)(ns:aY)(np:Nat)(dv:au):Prop where
 obj:∃oc od osl,X.K.lookup f=some ⟨oc,od,.func fd,osl⟩
 ZQ:fd.body=.stmts body
 ZR:fd.globals=mainGlobals
 blt:fd.builtins=builtinsNs
 ZT:fd.closure=[]
 co:fd.scope.isCoroutine=false
 gen:fd.scope.isGenerator=false
 kind:fd.scope.kind=.function
 code:codeIn X.K fd.code fd.qualname=true
 p1:fd.params.posonlyargs=[]
 p2:fd.params.kwonlyargs=[]
 p3:fd.params.vararg=none
 p4:fd.params.kwarg=none
 args:fd.params.args.map (·.arg)=(ns.take np).map Sx
 pe:np<=ns.length
 nodup:ns.Nodup
 snd:(fd.scope.names.map (·.1)).Nodup
 kinds:∀x∈ns.take np,fd.scope.names.lookup (Sx x)=some .local\/fd.scope.names.lookup (Sx x)=some .cell
 dflt:(fd.defaults=.none/\dv=[])\/∃T o items n,fd.defaults=.ref T/\X.K.lookup T=some o/\o.data=.seq items n/\all2 (qw X.K 3) items.toList dv=true
 ZU:dv.length<=np
section
variable {k:PySem.Str->Option NameKind}
theorem K_:∀{binds:List<|PySem.Str×Value}{m:PySem.Str->Option Value}{n:PySem.Str},n∉binds.map (·.1)->bindL k binds m n=m n
 |[],m,n,_=>rfl
 |(y,v)::r,m,n,h=>by
  rw[fK,eO,not_or]at h;unfold bindL;refine rR (K_ h.2) ?_;split
  ·show(if n=y then some v else m n)=m n;exact rR (bO h.1) rfl
  ·rfl
theorem La:∀{binds:List<|PySem.Str×Value}{m:PySem.Str->Option Value}{n:PySem.Str}{v:Value},(binds.map (·.1)).Nodup->(n,v)∈binds->k n=some .local->bindL k binds m n=some v
 |[],_,_,_,_,hm,_=>absurd hm List.not_mem_nil
 |(y,w)::r,m,n,v,hn,hm,hk=>by
  rw[fK]at hn;refine U1 (kC.mp hn) λh1 h2=>?_;unfold bindL;rcases eO.mp hm with e|hm
  ·clear hm;clear hn;obtain⟨rfl,rfl⟩:=jv e;refine rR (K_ h1)<|rR (bw hk) ?_
   simp
  ·exact La h2 hm hk
theorem Lc:∀{binds:List<|PySem.Str×Value}{m:PySem.Str->Option Value}{n:PySem.Str},n∉binds.map (·.1)->bindC k binds m n=m n
 |[],m,n,_=>rfl
 |(y,v)::r,m,n,h=>by
  rw[fK,eO,not_or]at h;unfold bindC;refine rR (Lc h.2) ?_;split
  ·rfl
  ·show(if n=y then some v else m n)=m n;exact rR (bO h.1) rfl
theorem Ld:∀{binds:List<|PySem.Str×Value}{m:PySem.Str->Option Value}{n:PySem.Str}{v:Value},(binds.map (·.1)).Nodup->(n,v)∈binds->k n=some .cell->bindC k binds m n=some v
 |[],_,_,_,_,hm,_=>absurd hm List.not_mem_nil
 |(y,w)::r,m,n,v,hn,hm,hk=>by
  rw[fK]at hn;refine U1 (kC.mp hn) λh1 h2=>?_;unfold bindC;rcases eO.mp hm with e|hm
  ·clear hm;clear hn;obtain⟨rfl,rfl⟩:=jv e;refine rR (Lc h1)<|rR (bO<|by rw[hk];decide) ?_
   simp
  ·exact Ld h2 hm hk
end
theorem CZ{p:PySem.Str×Addr}:∀{ai:List<|PySem.Str×NameKind}{n:Nat}{acc:List<|PySem.Str×Addr},p∈acc->p∈cellsFrom n ai acc
 |[],_,_,h=>h
 |(y,k)::r,n,acc,h=>by
  unfold cellsFrom;split
  ·exact CZ<|dh _ h
  ·exact CZ h
theorem Lf{x:PySem.Str}:∀{ai:List<|PySem.Str×NameKind}{n:Nat}{acc:List<|PySem.Str×Addr},(x,NameKind.cell)∈ai->∃c,(x,c)∈cellsFrom n ai acc
 |(y,k)::r,n,acc,h=>by
  unfold cellsFrom;rcases eO.mp h with e|h
  ·clear h;obtain⟨rfl,rfl⟩:=jv e;simp only[beq_self_eq_true,if_true];exact⟨_,CZ cR⟩
  ·split<;>exact Lf h
theorem C0:∀{ai:List<|PySem.Str×NameKind}{n:Nat}{acc:List<|PySem.Str×Addr},(acc.map (·.1)++ai.map (·.1)).Nodup->((cellsFrom n ai acc).map (·.1)).Nodup
 |[],n,acc,h=>by simpa[cellsFrom]using h
 |(y,k)::r,n,acc,h=>by
  unfold cellsFrom;rw[fK]at h;split
  ·refine C0 ?_;refine rR fK<|rR List.cons_append ?_
   exact(List.perm_middle.nodup_iff).mp h
  ·refine C0 ?_;exact h.sublist<|List.Sublist.append_left (List.sublist_cons_self _ _) _
theorem C1{x:PySem.Str}{ai:List<|PySem.Str×NameKind}{n:Nat}(h:ai.lookup x=some .cell):∃c,(cellsFrom n ai []).lookup x=some c:=by
 refine X1 (Lf (n:=n) (acc:=[])<|iG h) λc hm=>?_;cases e:(cellsFrom n ai []).lookup x with
 |some c'=>exact⟨c',rfl⟩
 |none=>rw[List.lookup_eq_none_iff]at e;have:=e _ hm;simp at this
theorem Lg{α:Type}:∀{l:List<|PySem.Str×α}{n:PySem.Str}{c:α},(l.map (·.1)).Nodup->(n,c)∈l->l.lookup n=some c
 |[],_,_,_,hm=>absurd hm List.not_mem_nil
 |(y,d)::r,n,c,hn,hm=>by
  rw[fK]at hn;refine U1 (kC.mp hn) λh1 h2=>?_;refine rR m8 ?_;rcases eO.mp hm with e|hm
  ·clear hm;clear hn h1;obtain⟨rfl,rfl⟩:=jv e;simp
  ·have:(n==y)=false:=by have:n≠y:=λq=>h1 (q▸q5 (f:=(·.1)) hm);simpa using this
   refine rR this ?_;exact Lg h2 hm
section
variable {X:Cx}{d:Nat}{A:Around}{cf:Cf}{s:Shared}
theorem ZV{fd:FuncData}{body:List Stmt}{ns:aY}{np:Nat}{dv jX:au}{vs:cz}{f:Addr}{aa:Env}{s':Shared}{binds:List<|PySem.Str×Value}(F:FnAt X f fd body ns np dv)(S:aU X cf s.heap)(r:aO X cf s.heap jX vs)(hl:jX.length=np)
  (hb:binds=((ns.take np).map Sx).zip vs)(he:aa=newEnv fd.scope s.heap.objs.size fd.globals (cellsFrom (s.heap.objs.size+1) fd.scope.names []) (fd.qualname++".<locals>.") (some f) fd.code none fd.builtins)
  (x:InCallC s aa.locals (bindL aa.kindOf binds λU=>none) aa.cells (bindC aa.kindOf binds λU=>none) s'):
  ∃W,Step cf s (iA cf W) s'/\aU X (iA cf W) s'.heap/\(∀b∈W,(iA cf W).O b/\¬Own (iA cf W) b)/\(∀b∈W,s.heap.get? b=none)/\(∀b,cN aa b->b∈W)/\c5 s.heap s'.heap/\(∀b∈W,∃o,s'.heap.get? b=some o)/\
   cK X (iA cf W) aa (ns.map some) (jX.map some++List.replicate (ns.length-np) none) s'.heap:=by
 have hL:aa.locals=s.heap.objs.size:=by refine rR he ?_;rfl
 have hC:aa.cells=cellsFrom (s.heap.objs.size+1) fd.scope.names []:=by refine rR he ?_;rfl
 have hS:aa.scope=fd.scope:=by refine rR he ?_;rfl
 have hk:∀y,aa.kindOf y=fd.scope.names.lookup y:=λy=>by unfold Env.kindOf;exact rR hS rfl
 have nd:(aa.cells.map (·.1)).Nodup:=by refine rR hC ?_;exact C0<|by simpa using F.snd
 refine X2 x.toInCall.same λh' t aR=>?_;subst aR;have g:c5 s.heap h':=x.toInCall.keep;have ZW:∀n c,(n,c)∈aa.cells->h'.IsCell c (bindC aa.kindOf binds (λU=>none) n):=λn c hm=>x.cell n c<|Lg nd hm
 have new:∀b∈aa.locals::aa.cells.map (·.2),s.heap.get? b=none:=λb hb=>by
  rcases eO.mp hb with rfl|hb
  ·refine rR hL ?_;exact jB<|bY _
  ·(refine aC (bV.mp hb) λaT hm aL=>?_;obtain⟨n,c⟩:=aT;clear hb;clear hb;subst aL)
   have h1:=x.above n c hm;rw[hL]at h1;exact jB<|Nat.le_of_lt h1
 have live:∀b∈aa.locals::aa.cells.map (·.2),∃o,h'.get? b=some o:=λb hb=>by
  rcases eO.mp hb with rfl|hb
  ·refine tY x.toInCall.ns λo U U e U=>?_;exact⟨o,e⟩
  ·(refine aC (bV.mp hb) λaM hm aP=>?_;obtain⟨n,c⟩:=aM;clear hb;clear hb;subst aP)
   refine aC (ZW n c hm) λo e U=>?_;exact⟨o,e⟩
 refine U2 (aside (t:=t) S g new live) λst S' hW=>?_;have fr:∀b,cN aa b->b∈aa.locals::aa.cells.map (·.2):=λb hb=>by
  rcases hb with rfl|⟨n,hm⟩
  ·exact cR
  ·exact dh _ (q5 (f:=(·.2)) hm)
 refine PB (aa.locals::aa.cells.map (·.2)) st S' hW new fr g live ?_;have gJ:vs.length=np:=by exact rR r.length<|rR hl rfl
 have sA:((ns.take np).map Sx).length=np:=by(rewrite[bI];refine rR gU ?_);have:=F.pe;exact FT this
 have Lh:(binds.map (·.1)).Nodup:=by
  refine rR hb<|rR qv<|rR (tO<|by rw[sA,gJ];exact bY _) ?_
  exact(wj.mpr<|pQ.mpr ((wj.mp<|F.nodup.sublist<|List.take_sublist _ _).imp λh e=>h<|lq e))
 refine⟨by refine rR hS ?_;exact F.kind,by refine rR he ?_;exact F.ZR,by refine rR he ?_;exact F.blt,(hW _ cR).1,λn c hm=>⟨(hW _ (fr c<|.inr ⟨n,hm⟩)).1,λe=>?_⟩,x.apart,λy hy=>?_,λb Li=>⟨λe=>?_,λn c hm e=>?_⟩,
  _,_,x.toInCall.ns,x.cell,λi y pv hi hp=>?_⟩
 ·have:=x.above n c hm;rw[e]at this;exact q8 _ this
 ·rw[hk]at hy;refine rR hC ?_;exact C1 hy
 ·exact(hW b<|fr b<|.inl e).2 Li
 ·exact(hW b<|fr b<|.inr ⟨n,e▸hm⟩).2 Li
 ·rw[cQ]at hi;refine aC (gV.mp hi) λy' hy e=>?_;cases e;have pg:i<np:=by
   rcases dm i np with h|h
   ·exact h
   ·rw[ku<|by(rewrite[bI];refine rR hl ?_);exact h]at hp;have:=dY hp;rw[List.mem_replicate]at this;cases this.2
  rw[iZ<|by(rewrite[bI];refine rR hl ?_);exact pg,cQ]at hp;refine aC (gV.mp hp) λpv' ZX e=>?_;cases e;refine aC (r.get ZX) λv hv rv=>?_;have Lj:(ns.take np)[i]?=some y:=by rw[tJ pg];exact hy
  have hm:(Sx y,v)∈binds:=by refine rR hb ?_;refine dY (i:=i) ?_;rw[List.getElem?_zip_eq_some];exact⟨by rw[cQ,Lj];rfl,hv⟩
  refine aA v (rv.mono<|st.kept S.own) ?_;rcases F.kinds y (dY Lj)with h1|h1
  ·exact .inl ⟨(hk _).trans h1,La Lh hm<|(hk _).trans h1⟩
  ·exact .inr ⟨(hk _).trans h1,by refine rR hC ?_;exact C1 h1,Ld Lh hm<|(hk _).trans h1⟩
theorem yo{fd:FuncData}{body:List Stmt}{ns:aY}{np:Nat}{dv args:au}{vs:cz}{f:Addr}{P:dW->ak->Prop}{R:Result->Shared->Prop}(T:eK X)(hA:c7 (d+1) A)(F:FnAt X f fd body ns np dv)(S:aU X cf s.heap)
  (r:aO X cf s.heap args vs)(hl:args.length<=np)(hl2:np<=args.length+dv.length)
  (h:∀aa,aa.scope.names=fd.scope.names->aa.scope.kind=.function->iQ X d aa (ns.map some) ((args++dv.drop (dv.length-(np-args.length))).map some++List.replicate (ns.length-np) none) body cf.H (λaf U h=>P af h))
  (k:∀aI af v s',Step cf s aI s'->aU X aI s'.heap->Rep X aI s'.heap (fX af) v->P af aI.H->R (.ok<|.ret v) s'):codeAny (model X.prog X.w) A (.call (.ref f) ⟨vs,[]⟩) R s:=by
 refine X3 F.obj λoc od osl hK=>?_;have KI:=qd T S;have hb0:∀b o,X.b0.get? b=some o->s.heap.get? b=some o:=λb o e=>(S.base b o e).1;have lim:s.heap.NoLimit:=T.nolimit.keeps hb0
 
 obtain⟨mJ,rd,hd⟩:∃mJ:cz,aO X cf s.heap dv mJ/\(∀(M:Model)(A:Around)(E:cJ)(Q:Option dg->Shared->Prop),(∀o,(o.getD #[]).toList=mJ->Q o s)->wpAny M A (seqItems? fd.defaults) Q E s):=by
  clear hl2 h;rcases F.dflt with⟨e,rfl⟩|⟨T',o,items,n,e,hT,hdt,ha⟩
  ·exact aA [] aO.gk λM A E Q q=>by refine rR e ?_;exact cF<|q none rfl
  ·exact aA items.toList (K7 (λv p=>K9 T S 3 v p) _ ha) λM A E Q q=>by refine rR e ?_;exact pU (KI _ _ hT) hdt<|q _ rfl
 have C2:vs.length=args.length:=r.length;have C3:mJ.length=dv.length:=rd.length;have sA:((ns.take np).map Sx).length=np:=by(rewrite[bI];refine rR gU ?_);have:=F.pe;exact FT this
 have ZY:((ns.take np).map Sx).Nodup:=wj.mpr<|(pQ.mpr ((wj.mp<|F.nodup.sublist<|List.take_sublist _ _).imp λh e=>h<|lq e))
 refine codeAny_call_function (by have:=hA.dep;show A.depth<1000;exact Qi this) (KI _ _ hK) rfl F.co F.gen F.ZQ (codeRec_of KI F.code) ?_;have dl:=F.ZU;refine ZN F.p1 F.p2 F.p3 F.p4 F.args ZY hd (Qj hl C2 sA) (Qk hl2 C2 C3 sA) (Ql C3 sA dl) _ _ _ _ ?_;refine rR F.ZT ?_;have ZZ:aO X cf s.heap (args++dv.drop (dv.length-(np-args.length))) (vs++mJ.drop (dv.length-(np-args.length))):=r.append<|rd.drop _
 have Z0:(args++dv.drop (dv.length-(np-args.length))).length=np:=by refine rR gF<|rR pO ?_;exact Qm hl hl2
 refine wpAny_newFunctionEnv_cells F.kind (λy hy=>?_) λaa he s' x=>?_
 ·have:y.1∈(((ns.take np).map Sx).zip<|vs++mJ.drop (mJ.length-(((ns.take np).map Sx).length-vs.length))).map (·.1):=q5 hy;rw[qv]at this;refine aC (bV.mp<|List.mem_of_mem_take this) λz hz e=>?_;refine rL e ?_;rcases F.kinds z hz with h1|h1
  ·exact .inl h1
  ·refine X1 (C1 (n:=s.heap.objs.size+1) h1) λc hc=>?_;exact .inr ⟨h1,by refine rR hc ?_;rfl⟩
 ·have Z1:((ns.take np).map Sx).zip (vs++mJ.drop (mJ.length-(((ns.take np).map Sx).length-vs.length)))=((ns.take np).map Sx).zip (vs++mJ.drop (dv.length-(np-args.length))):=by exact rR sA<|rR C2<|rR C3 rfl
  rw[Z1]at x;refine Pn (ZV F S ZZ Z0 rfl he x) λW st S' hW new fr g live R'=>?_;refine⟨lim.keeps x.toInCall.keep,codeAny_func ?_⟩;have hs1:aa.scope.names=fd.scope.names:=by refine rR he ?_;rfl
  have hs2:aa.scope.kind=.function:=by refine rR he ?_;exact F.kind
  refine bz (h aa hs1 hs2 (A.deeper aa) (iA cf W) s' _ (hA.deeper aa) rfl S' R') (λfl s₂ y=>?_) λU U y=>y;obtain⟨aI,af,cZ,cU,S₂,fN,uQ,q⟩:=y;have B:mF X (λU=>False) cf s [] W:=⟨S,λU h=>h.elim,new,λU hb=>by simp at hb⟩
  have L:LI X (λU=>False) cf s [] W (λU U=>True) 0 (iA cf W) s':=⟨st.toF,S',hW,trivial⟩
  have L₂:=LI.body (G:=cN aa) B L (λU U U U hb=>by simp at hb) (λU U U U U=>trivial) live (λb hb=>.inr<|fr b hb) (λU hb=>by simp at hb) cU S₂;refine U2 (LI.drop (h':=s₂.heap) (t:=s₂.toks) B L₂ λU U U e=>e) λsd Sd Kd=>?_;refine k (oW aI W) af _ s₂ sd.toStep Sd ?_ q
  induction af using dW.casesOn with
  |n=>obtain rfl:fl=.next:=uQ;exact kL
  |b=>obtain rfl:fl=.brk:=uQ;exact kL
  |c=>obtain rfl:fl=.cont:=uQ;exact kL
  |r p=>
   refine aC uQ λv aN rv=>?_;clear uQ;subst aN;exact rv.mono Kd
end
end
section
theorem c7.under{d:Nat}{A:Around}(x:c7 (d+1) A)(C:Addr)(vals:cz):c7 d (A.under<|.builtin "type.__call__" ⟨.ref C::vals,[]⟩):=by
 have h1:=x.dep;have h2:=x.units;have e1:(A.under<|.builtin "type.__call__" ⟨.ref C::vals,[]⟩).depth=A.depth+1:=depth_under_kw A C vals [];have e2:(A.under<|.builtin "type.__call__" ⟨.ref C::vals,[]⟩).units=A.units+(Code.builtin "type.__call__" ⟨.ref C::vals,[]⟩).cUnits:=rfl;have e3:(Code.builtin "type.__call__" ⟨.ref C::vals,[]⟩).cUnits<=9:=by
  have:(Code.builtin "type.__call__" ⟨.ref C::vals,[]⟩).cUnits=(Code.builtin "type.__call__" ⟨[.none],[]⟩).cUnits:=rfl;refine rR this ?_
  decide+kernel
 exact⟨x.hh,by refine rR e1 ?_;exact A5 h1,by refine rR e2 ?_;exact Qn h2 e3⟩
theorem Ll{α:Type}{c:Bool}{x:Option α}{y:α}{G:Prop}(h:(if c=true then x else none)=some y)(k:c=true->x=some y->G):G:=by
 induction c using cP with
 |false=>exact nN h
 |true=>exact k rfl h
def BodyOk(X:Cx)(d:Nat)(Γ:b7)(ir:bl)(fd:FuncData)(body:List Stmt):Prop:=
 ∀aa ae H r,aa.scope.names=fd.scope.names->aa.scope.kind=.function->ae.length=ir.names.length->aF Γ ir.body ae H=some r->
  iQ X d aa (ir.names.map some) ae body H (λaf cZ h=>af=r.1/\h=r.2.2)
theorem Z2{ir:bl}{vs:au}(h:vs.length<=ir.names.length):(g7 ir vs).length=ir.names.length:=by unfold g7;(refine rR gF ?_;rewrite[bI];refine rR List.length_replicate ?_);exact uc h
set_option tactic.hygienic true in
theorem Lm{ir:bl}{args vs:au}(h:jb ir args=some vs):args.length<=ir.arity/\ir.arity<=args.length+ir.defaults.length/\vs=args++ir.defaults.drop (ir.defaults.length-(ir.arity-args.length))/\vs.length=ir.arity:=by
 unfold jb at h;split at h
 ·rename_i q;have h:=aK h;subst h;exact⟨q.1,q.2,rfl,by exact rR gF<|rR pO<|rR (Nat.sub_sub_self<|Nat.sub_le_iff_le_add'.mpr q.2)<|rR (Nat.add_sub_cancel' q.1) rfl⟩
 ·exact nN h
section
variable {X:Cx}{d:Nat}{Γ:b7}{ir:bl}{fd:FuncData}{body:List Stmt}{args:au}{H H':ak}{p:PV}{f C:Addr}
noncomputable def qx(cf:Cf):Cf:={ρ:=[],O:=cf.O,H:=[]}
theorem C4{cf:Cf}{b:Addr}(h:Own (qx cf) b):False:=by obtain⟨n,ao,q,e,_⟩:=h;simp[qx]at e
theorem C5{cf:Cf}{h:Heap}(S:aU X cf h):aU X (qx cf) h:=
 ⟨rfl,λn ao q e=>by simp[qx]at e,λb h=>(C4 h).elim,λn m ao bo q u e=>by simp[qx]at e,S.here,S.base⟩
theorem Lo{cf aI lE:Cf}{s s':Shared}{v:Value}{n:Nat}{p0:PV}{G:Value->Cf->Shared->Prop}(S:aU X cf s.heap)(h0:∀b,¬Own lE b\/s.heap.get? b=none)(hO:∀b,cf.O b->lE.O b)(st:Step lE s aI s')(S':aU X aI s'.heap)
  (r:Rep X aI s'.heap p0 v)(hz:b8 n aI.H p0=some p)(q:Rep X cf s'.heap p v->G v cf s'):bC X cf s G v s':=by
 have g:c5 s.heap s'.heap:=λb o e=>st.keep b o ((h0 b).resolve_right λq=>by rw[q]at e;exact nN e) e
 have rr:Rep X cf s'.heap p v:=ZC S' (λa ha hc=>ha (by
   refine X1 (S.here a hc) λo e=>?_
   exact st.avoid a o (hO a hc) ((h0 a).resolve_right λq=>by rw[q]at e;exact nN e) e))
  (λb hb hc=>by
   refine X1 (S.here b hc) λo e=>?_;rcases st.owned b hb with h|h
   ·rcases h0 b with h'|h'
    ·exact h' h
    ·rw[e]at h';exact sN h'
   ·rw[e]at h;exact sN h) n hz r
 refine X2 st.same λh2 t2 aQ=>?_;clear st S' r;subst aQ;exact bC.grown S g<|q rr
inductive C6 (Γ:b7)(ir:bl)(vs:au)(p:PV)(H H':ak):Prop
 |pure (r:dW×bF×ak) (hz:vs.all (fz 8)=true) (hr:aF Γ ir.body (g7 ir vs) []=some r) (hf:b8 6 r.2.2 (fX r.1)=some p) (e:H'=H):C6 Γ ir vs p H H'
 |imp (r:dW×bF×ak) (hr:aF Γ ir.body (g7 ir vs) H=some r) (e:p=fX r.1) (e2:H'=r.2.2):C6 Γ ir vs p H H'
theorem Z3(hk:ir.kind=.f)(h:jA Γ ir args H=some (p,H')):∃vs,jb ir args=some vs/\C6 Γ ir vs p H H':=by
 unfold jA at h;refine bG h λws hf h=>?_;rw[hk]at h;refine aA ws hf ?_;clear hf hk;cases hp:ir.pure with
 |true=>
  rw[hp]at h;refine Ll h λhz h=>?_;refine bG h λr1 hr h=>?_;refine gY h λp' lB e=>?_;clear h;clear h;obtain⟨rfl,rfl⟩:=jv e;exact .pure r1 hz hr lB rfl
 |false=>
  rw[hp]at h;refine gY h λr1 hr e=>?_;clear h;clear h;obtain⟨rfl,rfl⟩:=jv e;exact .imp r1 hr rfl rfl
theorem yp{vs:au}{m:Nat}{r:dW×bF×ak}{aa:Env}(B:BodyOk X d Γ ir fd body)(h1:aa.scope.names=fd.scope.names)(h2:aa.scope.kind=.function)(l3:vs.length=m)(pe:m<=ir.names.length)(hr:aF Γ ir.body (g7 ir vs) H=some r):
  iQ X d aa (ir.names.map some) (vs.map some++List.replicate (ir.names.length-m) none) body H (λaf U h=>af=r.1/\h=r.2.2):=by
 subst l3;exactλA cf s E a b c e=>bz (B aa _ _ r h1 h2 (Z2 pe) hr A cf s E a b c e) (λU U y=>y.mono λU U U z=>z) λU U y=>y
theorem Lp(T:eK X)(F:FnAt X f fd body ir.names ir.arity ir.defaults)(hk:ir.kind=.f)(B:BodyOk X d Γ ir fd body)(h:jA Γ ir args H=some (p,H')):
  nG X (d+1) (.ref f) args H (λq h=>q=p/\h=H'):=λA cf s E vs hA hH S r=>by
 subst hH;refine aC (Z3 hk h) λws hf h=>?_;refine U3 (Lm hf) λl1 l2 aR l3=>?_;clear hf;subst aR;refine wpAny_call ?_;cases h with
 |pure r1 hz hr hp e=>
  clear h;subst e;rw[List.all_append,cy]at hz;refine yo T hA F (C5 S) (o_ (cf:=qx cf) (aI:=cf) (λa h=>h) 8 args hz.1 r) l1 l2 (P:=λaf h=>af=r1.1/\h=r1.2.2) (λaa h1 h2=>yp B h1 h2 l3 F.pe hr) λaI af v s' st S' rv q=>?_;refine U1 q λaT hq=>?_;clear q;subst aT;rw[<-hq]at hp;exact Lo S (λb=>.inl C4) (λU h=>h) st S' rv hp λrr=>⟨p,rr,rfl,rfl⟩
 |imp r1 hr e e2=>
  clear h;subst e e2;refine yo T hA F S r l1 l2 (P:=λaf h=>af=r1.1/\h=r1.2.2) (λaa h1 h2=>yp B h1 h2 l3 F.pe hr) λaI af v s' st S' rv q=>?_;refine U1 q λaL hq=>?_;clear q;subst aL;exact⟨aI,st,S',fX r1.1,rv,rfl,hq⟩
structure Z4 (X:Cx)(C f:Addr):Prop where
 makes:makesIn X.K C=true
 init:findIn X.K (.ref C) "__init__"=some (some<|.ref f)
 fn:typeIn X.K (.ref f)=some (.type "function")
set_option tactic.hygienic true in
theorem Lq{r:dW×bF×ak}{h:ak}(e:rC r=some h):r.1=.n/\h=r.2.2:=by
 unfold rC at e;split at e
 ·rename_i q;exact⟨q,(aK e).symm⟩
 ·exact nN e
theorem Z5:jy [] []:=aA [] rfl rfl
theorem Lr{cf:Cf}{s:Shared}{c:String}(S:aU X cf s.heap)(hC:jQ X.K c=some C):
  Step cf s (eU cf (s.heap.objs.size+1) s.heap.objs.size<|.n c [] []) {s with heap:=(s.heap.push emptyDict).push<|instObj C s.heap.objs.size,toks:=s.toks}/\
  aU X (eU cf (s.heap.objs.size+1) s.heap.objs.size<|.n c [] []) ((s.heap.push emptyDict).push<|instObj C s.heap.objs.size)/\
  Rep X (eU cf (s.heap.objs.size+1) s.heap.objs.size<|.n c [] []) ((s.heap.push emptyDict).push<|instObj C s.heap.objs.size) (.e cf.H.length) (.ref<|s.heap.objs.size+1)/\
  Kept cf s.heap (eU cf (s.heap.objs.size+1) s.heap.objs.size<|.n c [] []) ((s.heap.push emptyDict).push<|instObj C s.heap.objs.size):=by
 have e1:((s.heap.push emptyDict).push<|instObj C s.heap.objs.size).get? (s.heap.objs.size+1)=some (instObj C s.heap.objs.size):=by
  have:=ik (s.heap.push emptyDict) (o:=instObj C s.heap.objs.size) rfl
  rwa[Heap.size_push]at this
 have e2:((s.heap.push emptyDict).push<|instObj C s.heap.objs.size).get? s.heap.objs.size=some (dictOf [] 0):=jq _ (ik _ rfl);exact xx S ((c5.push _ _).trans<|c5.push _ _) (Nat.le_succ _) (bY _) ⟨_,e1⟩ ⟨_,e2⟩
  ⟨λe=>absurd (show(s.heap.objs.size:Nat)=s.heap.objs.size+1 from e) Qo,C,[],0,hC,e1,e2,Z5,aO.gk⟩
inductive C7 (Γ:b7)(ir:bl)(vs:au)(p:PV)(H H':ak):Prop
 |pure (r:dW×bF×ak) (hz:vs.all (fz 8)=true) (hr:aF Γ ir.body (g7 ir<|PV.e 0::vs) [some<|.n ir.name [] []]=some r) (hn:r.1=.n) (hf:b8 6 r.2.2 (.e 0)=some p) (e:H'=H):C7 Γ ir vs p H H'
 |imp (r:dW×bF×ak) (hr:aF Γ ir.body (g7 ir<|PV.e H.length::vs) (H++[some<|.n ir.name [] []])=some r) (hn:r.1=.n) (e:p=.e H.length) (e2:H'=r.2.2):C7 Γ ir vs p H H'
theorem Z6(hk:ir.kind=.c)(h:jA Γ ir args H=some (p,H')):∃vs,jb ir args=some vs/\C7 Γ ir vs p H H':=by
 unfold jA at h;refine bG h λws hf h=>?_;rw[hk]at h;refine aA ws hf ?_;clear hf hk;cases hp:ir.pure with
 |true=>
  rw[hp]at h;refine Ll h λhz h=>?_;refine bG h λr1 hr h=>?_;refine bG h λh1 hn h=>?_;refine gY h λp' lB e=>?_;clear h;obtain⟨rfl,rfl⟩:=jv e;refine U1 (Lq hn) λez aM=>?_;clear hn h;subst aM;exact .pure r1 hz hr ez lB rfl
 |false=>
  rw[hp]at h;refine bG h λr1 hr h=>?_;refine gY h λh1 hn e=>?_;clear h;obtain⟨rfl,rfl⟩:=jv e;refine U1 (Lq hn) λez aP=>?_;clear h hn;clear h e;subst aP;exact .imp r1 hr ez rfl rfl
theorem Ls{a:PV}(l1:args.length<=ir.arity)(l2:ir.arity<=args.length+ir.defaults.length):(a::args).length<=ir.arity+1/\ir.arity+1<=(a::args).length+ir.defaults.length/\
  (a::args)++ir.defaults.drop (ir.defaults.length-(ir.arity+1-(a::args).length))=a::(args++ir.defaults.drop (ir.defaults.length-(ir.arity-args.length))):=
 ⟨tR l1,by(refine rR i4 ?_;rewrite[Nat.succ_add]);exact tR l2,by(refine rR i4 ?_;rewrite[Nat.add_sub_add_right]);rfl⟩
theorem Lu{cf:Cf}{h:Heap}{v:Value}{af:dW}(e:af=.n)(r:Rep X cf h (fX af) v):v=.none:=by subst e;exact r
theorem Z7(T:eK X)(F:FnAt X f fd body ir.names (ir.arity+1) ir.defaults)(hk:ir.kind=.c)(hC:jQ X.K ir.name=some C)(M:Z4 X C f)(B:BodyOk X d Γ ir fd body)(h:jA Γ ir args H=some (p,H')):
  nG X (d+2) (.ref C) args H (λq h=>q=p/\h=H'):=λA cf s E vs hA hH S r=>by
 subst hH;refine aC (Z6 hk h) λws hf h=>?_;refine U3 (Lm hf) λl1 l2 aN l3=>?_;clear hf;subst aN;have KI:=qd T S;refine wpAny_call ?_;obtain⟨hh,g,dr,t,os⟩:=s;refine make_core (makes_of KI M.makes) (looks_findIn KI M.init) (λself=>bind_fn KI self M.fn) (.inl rfl) ?_;cases h with
 |pure r1 hz hr hn hp e=>
  clear h;subst e;rw[List.all_append,cy]at hz;refine U3 (Lr (s:=⟨hh,g,dr,t,os⟩) (C5 S) hC) λC8 S0 rc k0=>?_;refine U2 (Ls (a:=.e 0) l1 l2) λm1 m2 m3=>?_;refine yo T (c7.under (d:=d+1) hA C vs) F S0 (aO.fD rc<|(o_ (cf:=qx cf) (aI:=cf) (λa h=>h) 8 args hz.1 r).mono k0 _) m1 m2 (P:=λaf h=>af=r1.1/\h=r1.2.2) (λaa h1 h2=>m3▸yp B h1 h2 (congrArg (·+1) l3) F.pe hr) λaI af v s' st S' rv q=>?_;refine U1 q λaQ hq=>?_;clear q;subst aQ;rw[<-hq]at hp;exact⟨Lu hn rv,Lo (s:=⟨hh,g,dr,t,os⟩) S (λb=>.inl C4) (λU h=>h) (C8.trans (C5 S).own st) S' (rc.mono (st.kept S0.own) _) hp λrr=>⟨p,rr,rfl,rfl⟩⟩
 |imp r1 hr hn e e2=>
  clear h;subst e e2;refine U3 (Lr (s:=⟨hh,g,dr,t,os⟩) S hC) λC8 S0 rc k0=>?_;refine U2 (Ls (a:=.e cf.H.length) l1 l2) λm1 m2 m3=>?_;refine yo T (c7.under (d:=d+1) hA C vs) F S0 (aO.fD rc<|r.mono k0 _) m1 m2 (P:=λaf h=>af=r1.1/\h=r1.2.2) (λaa h1 h2=>m3▸yp B h1 h2 (congrArg (·+1) l3) F.pe hr) λaI af v s' st S' rv q=>?_;refine U1 q λaR hq=>?_;clear q;subst aR;exact⟨Lu hn rv,aI,C8.trans S.own st,S',_,rc.mono (st.kept S0.own) _,rfl,hq⟩
end
end
section
abbrev Sn:=List<|PySem.Str×NameKind
noncomputable def nameAt(ai:b5)(i:Nat)(y:PySem.Str):Bool:=match ai[i]? with
 |some (some x)=>y==Sx x&&!(Sx x==("__debug__":PySem.Str))
 |_=>false
noncomputable def lF(sc:Sn)(f:String)(y:PySem.Str):Bool:=y==Sx f&&decide (sc.lookup (Sx f)=some .globalImplicit)&&!(Sx f==("__debug__":PySem.Str))
def yq(x:String)(p:PV):Bool:=match xu.lookup x with
 |some q=>fj p q
 |none=>false
noncomputable def kindB(sc:Sn)(lc:Bool)(y:PySem.Str):Bool:=decide (sc.lookup y=some .local)||(lc&&decide (sc.lookup y=some .cell))
noncomputable def Lv(e:Expr):Bool:=!(Nat.beq e.ctorIdx 26)
noncomputable def C9(e:Expr):Bool:=!(Nat.beq e.ctorIdx 7)
noncomputable def uR:CE->Bool
 |.c .n=>true
 |_=>false
theorem Lw{e:CE}(h:uR e=true):e=.c .n:=by
 induction e using CE.casesOn with
 |c p=>induction p using d7<;>first|rfl|exact nB h
 |_=>exact nB h
noncomputable def Z8:oG->String
 |.l=>"len"
 |.i=>"list"
 |.s=>"list"
 |.o=>"sorted"
 |.m=>"min"
 |.n=>"min"
 |.a=>"max"
 |.B=>"isinstance"
def yr(sc:Sn)(ai:b5)(lc:Bool):aG->bL->Bool
 |[],[]=>true
 |i::is,e::es=>mw (λy=>nameAt ai i y&&kindB sc lc y) e&&yr sc ai lc is es
 |_,_=>false
def C_(sc:Sn)(ai:b5)(lc tp:Bool)(is:aG)(e:Expr):Bool:=match tp with
 |false=>l1 (λi=>mw (λy=>nameAt ai i y&&kindB sc lc y) e) is
 |true=>rW (λes=>yr sc ai lc is es) e
noncomputable def yt(sc l:Sn):Sn:=l.map λ(n,k)=>if(k==NameKind.free&&sc.lookup n==some NameKind.cell)then(n,NameKind.cell)else(n,k)
noncomputable def Dc(sc:Sn)(scope:Scope):Bool:=decide (scope.kind=.function)&&scope.names.all (λy=>decide (y.2≠.cell)&&(decide (y.2≠.local)||decide (scope.names.lookup y.1=some .local))&&(decide (y.2≠.free)||decide (sc.lookup y.1=some .cell)))&&decide ((scope.names.map (·.1)).Nodup)
noncomputable def Lx(ai:b5):Bool:=decide<|(ai.filterMap id).Nodup
def yu(f:bL->Bool)(k:IK)(sc:Sn)(tp:Bool)(iter:Expr):Bool:=C9 iter&&(match k with
 |.v=>f [iter]
 |.r=>oT (λy args=>lF sc "range" y&&f args) iter
 |.e=>tp&&oT (λy args=>lF sc "enumerate" y&&f args) iter
 |.z=>tp&&oT (λy args=>lF sc "zip" y&&f args) iter
 |.n=>tp&&oT (λy l=>l1 (λc=>oT (λz args=>lF sc "enumerate" y&&lF sc "zip" z&&f args) c) l) iter)
mutual
noncomputable def mE:CE->Sn->b5->Expr->Bool
 |.c p,_,_,e=>oR (λc=>qh c p) e
 |.v i,_,ai,e=>mw (λy=>nameAt ai i y) e
 |.g x p,sc,_,e=>mw (λy=>lF sc x y&&yq x p) e
 |.t es,sc,ai,e=>rW (λl=>decide (es.length<=1000)&&fY es sc ai l) e
 |.l es,sc,ai,e=>rV (λl=>decide (es.length<=1000)&&fY es sc ai l) e
 |.e es,sc,ai,e=>rV (λl=>decide (es.length<=1000)&&fY es sc ai l) e
 |.b op a b,sc,ai,e=>uD (λl o r=>decide (o=B0 op)&&mE a sc ai l&&mE b sc ai r) e
 |.n a,sc,ai,e=>rS (λo x=>decide (o=.USub)&&mE a sc ai x) e
 |.o a,sc,ai,e=>rS (λo x=>decide (o=.Not)&&mE a sc ai x) e
 |.m op a b,sc,ai,e=>uF (λl os rs=>l1 (λo=>l1 (λr=>decide (o=gz op)&&!behindInMarks (gz op) r&&mE a sc ai l&&mE b sc ai r) rs) os) e
 |.p o1 o2 a b c,sc,ai,e=>uF (λl os rs=>l2 (λp1 p2=>l2 (λr1 r2=>decide (p1=gz o1)&&decide (p2=gz o2)&&!lastMarks [gz o1,gz o2] [r1,r2]&&mE a sc ai l&&mE b sc ai r1&&mE c sc ai r2) rs) os) e
 |.a cA es,sc,ai,e=>xO (λo l=>decide (o=iP cA)&&!es.isEmpty&&fY es sc ai l) e
 |.i t a b,sc,ai,e=>xP (λt' a' b'=>mE t sc ai t'&&mE a sc ai a'&&mE b sc ai b') e
 |.d a i,sc,ai,e=>qe (λv s=>Lv s&&mE a sc ai v&&mE i sc ai s) e
 |.s a lo hi,sc,ai,e=>qe (λv s=>xT (λlo' hi' st=>st.isNone&&mE a sc ai v&&(match lo' with
    |none=>uR lo
    |some x=>mE lo sc ai x)&&(match hi' with
    |none=>uR hi
    |some x=>mE hi sc ai x)) s) e
 |.r a,sc,ai,e=>qe (λv s=>xT (λlo hi st=>lo.isNone&&hi.isNone&&oS (λx=>rS (λo c=>decide (o=.USub)&&oR (λc=>qh c (.i 1)&&mE a sc ai v) c) x) st) s) e
 |.f a x,sc,ai,e=>rU (λv y U=>y==Sx x&&jD v&&mE a sc ai v) e
 |.h f es,sc,ai,e=>oT (λy args=>lF sc f y&&fY es sc ai args) e
 |.j o m es,sc,ai,e=>qg (λv y args=>y==Sx m&&decide (args.length<30)&&mE o sc ai v&&fY es sc ai args) e
 |.k b es,sc,ai,e=>oT (λy args=>lF sc (Z8 b) y&&(match b with
   |.B=>l2 (λa z=>mw (λz=>lF sc "bool" z&&fY es sc ai [a]) z) args
   |_=>fY es sc ai args)) e
 |.q a b,sc,ai,e=>qg (λv y args=>y==("append":PySem.Str)&&l1 (λw=>notStar w&&mE a sc ai v&&mE b sc ai w) args) e
 |.x a b,sc,ai,e=>qg (λv y args=>y==("extend":PySem.Str)&&l1 (λw=>notStar w&&mE a sc ai v&&mE b sc ai w) args) e
 |.u a,sc,ai,e=>qg (λv y args=>y==("pop":PySem.Str)&&args.isEmpty&&mE a sc ai v) e
 |.w dd k,sc,ai,e=>qg (λv y args=>y==("get":PySem.Str)&&l1 (λw=>notStar w&&mE dd sc ai v&&mE k sc ai w) args) e
 |.y dd k u,sc,ai,e=>qg (λv y args=>y==("get":PySem.Str)&&l2 (λw x=>notStar w&&notStar x&&mE dd sc ai v&&mE k sc ai w&&mE u sc ai x) args) e
 |.z n,sc,ai,e=>uD (λl o r=>decide (o=.Mult)&&rV (λl=>l1 (λc=>oR (λc=>decide (c=.none)&&mE n sc ai r) c) l) l) e
 |.A,_,_,e=>rT (λk v=>k.isEmpty&&v.isEmpty) e
 |.B,_,_,e=>rT (λk v=>k.isEmpty&&v.isEmpty) e
 |.C ks ps,_,_,e=>rT (λkeys vals=>litOk keys vals ks ps&&!ks.isEmpty&&decide (ks.length<=15)&&decide ks.Nodup) e
 |.D elt tp tn k bZ cond,sc,ai,e=>xQ (λelt' g scope=>l1 (λg=>decide (g.is_async=0)&&Dc sc scope&&(tp||decide (tn.length=1))&&Lx (fQ scope ai++tn.map some)&&
    C_ (yt sc scope.names) (fQ scope ai++tn.map some) false tp (List.range' ai.length tn.length) g.target&&yu (fY bZ sc ai) k sc tp g.iter&&
    mE elt (yt sc scope.names) (fQ scope ai++tn.map some) elt'&&fY cond (yt sc scope.names) (fQ scope ai++tn.map some) g.ifs) g) e
noncomputable def fY:List CE->Sn->b5->bL->Bool
 |[],_,_,l=>l.isEmpty
 |e::es,sc,ai,l=>(match l with
  |[]=>false
  |x::r=>notStar x&&mE e sc ai x&&fY es sc ai r)
end
theorem uS{e:CE}{es:List CE}{sc:Sn}{ai:b5}{l:bL}(h:fY (e::es) sc ai l=true):∃x r,l=x::r/\(notStar x&&mE e sc ai x&&fY es sc ai r)=true:=by
 induction l using b9 with
 |nil=>exact nB h
 |cons x r=>exact gR x r rfl h
noncomputable def Dd:Expr->Bool
 |.Tuple vs _ _=>!(vs.all<|constantsAlone 8)
 |_=>true
mutual
noncomputable def mS:CS->Sn->b5->Stmt->Bool
 |.a i e,sc,ai,st=>rX (λt v=>l1 (λt=>mw (λy=>nameAt ai i y&&kindB sc true y&&mE e sc ai v) t) t) st
 |.s is e,sc,ai,st=>rX (λt v=>l1 (λt=>rW (λelts=>yr sc ai true is elts&&decide is.Nodup&&Dd v&&mE e sc ai v) t) t) st
 |.e o f e,sc,ai,st=>rX (λt w=>l1 (λt=>rU (λv y U=>y==Sx f&&mE o sc ai v&&mE e sc ai w) t) t) st
 |.t o i e,sc,ai,st=>rX (λt w=>l1 (λt=>qe (λv s=>mE o sc ai v&&mE i sc ai s&&mE e sc ai w) t) t) st
 |.f tp tgt k bZ body,sc,ai,st=>Cn (λtarget iter body' els=>els.isEmpty&&C_ sc ai true tp tgt target&&yu (fY bZ sc ai) k sc tp iter&&jf body sc ai body') st
 |.w t body,sc,ai,st=>Co (λtest body' els=>els.isEmpty&&mE t sc ai test&&jf body sc ai body') st
 |.i t a b,sc,ai,st=>Cp (λtest a' b'=>mE t sc ai test&&jf a sc ai a'&&jf b sc ai b') st
 |.r e,sc,ai,st=>Cm (λv=>match v with
  |some v=>mE e sc ai v
  |none=>uR e) st
 |.x e,sc,ai,st=>Cq (λv=>r6 v&&mE e sc ai v) st
 |.b,_,_,st=>Jw 26 st
 |.c,_,_,st=>Jw 27 st
 |.z _,_,_,_=>false
noncomputable def jf:List CS->Sn->b5->List Stmt->Bool
 |[],_,_,l=>l.isEmpty
 |s::r,sc,ai,l=>(match s with
  |.z i=>(match ai[i]? with
   |some (some _)=>jf r sc ai l
   |_=>false)
  |s'=>(match l with
   |[]=>false
   |x::t=>mS s' sc ai x&&jf r sc ai t))
end
end
section
def Ly(K:Frag)(v:Value)(dv:au):Bool:=(decide (v=.none)&&dv.isEmpty)||xW (λt=>oS (λo=>xX (λitems=>all2 (qw K 3) items.toList dv) o.data)<|K.lookup t) v
noncomputable def Df(q:List Stmt->Bool)(b:FuncBody):Bool:=if h:Nat.beq b.ctorIdx 0=true then FuncBody.stmts.elim (motive:=λU=>Bool) b (b_ h) q else false
theorem Z9{q:List Stmt->Bool}{b:FuncBody}{G:Prop}(h:Df q b=true)(K:∀l,b=.stmts l->q l=true->G):G:=
 FuncBody.stmts.elim (motive:=λv=>v=b->Df q v=true->G) b (b_<|dz h) (λl e h=>K l e.symm h) rfl h
def uT(K:Frag)(f:Addr)(ir:bl)(np:Nat):Bool:=oS (λo=>Cs (λfd=>Df (λbody=>
 decide (fd.globals=mainGlobals)&&(decide (fd.builtins=builtinsNs)&&(fd.closure.isEmpty&&(!fd.scope.isCoroutine&&(!fd.scope.isGenerator&&(decide (fd.scope.kind=.function)&&(codeIn K fd.code fd.qualname&&
    (fd.params.posonlyargs.isEmpty&&(fd.params.kwonlyargs.isEmpty&&(fd.params.vararg.isNone&&(fd.params.kwarg.isNone&&(decide (fd.params.args.map (·.arg)=(ir.names.take np).map Sx)&&(decide (np<=ir.names.length)&&(decide ir.names.Nodup&&
    (decide ((fd.scope.names.map (·.1)).Nodup)&&((ir.names.take np).all (λx=>kindB fd.scope.names true<|Sx x)&&(Ly K fd.defaults ir.defaults&&(decide (ir.defaults.length<=np)&&jf ir.body fd.scope.names (ir.names.map some) body)))))))))))))))))) fd.body) o.data)<|K.lookup f
def sC(K:Frag)(c:String)(ir:bl):Bool:=match ir.kind with
 |.c=>c==""&&(match nsIn K mainGlobals (Sx ir.name)with
  |some (some<|.ref C)=>makesIn K C&&keepIn K (.ref C)&&(match findIn K (.ref C) "__init__" with
   |some (some<|.ref f)=>decide (typeIn K (.ref f)=some (.type "function"))&&uT K f ir (ir.arity+1)
   |_=>false)
  |_=>false)
 |.f=>if c=="" then(match nsIn K mainGlobals (Sx ir.name)with
   |some (some<|.ref f)=>keepIn K (.ref f)&&uT K f ir ir.arity
   |_=>false)
  else(match nsIn K mainGlobals (Sx c)with
   |some (some<|.ref C)=>plainGet K C (Sx ir.name)&&(match findIn K (.ref C) (Sx ir.name)with
    |some (some<|.ref f)=>isFn K (.ref f)&&keepIn K (.ref f)&&uT K f ir ir.arity
    |_=>false)
   |_=>false)
end
section
structure eA (X:Cx):Prop where
 T:eK X
 glob:∀x p,yq x p=true->Cb X x p
 fld:∀c x,qa c x=true->w9 X c x/\storeOk X c x
 Z_:gp X "len" (.builtin "len")
 Lz:gp X "list" (.type "list")
 Z':gp X "sorted" (.builtin "sorted")
 LA:gp X "min" (.builtin "min")
 ac:gp X "max" (.builtin "max")
 ag:gp X "isinstance" (.builtin "isinstance")
 al:gp X "bool" (.type "bool")
 am:gp X "range" (.type "range")
 LB:gp X "enumerate" (.type "enumerate")
 LC:gp X "zip"<|.type "zip"
structure g9 (X:Cx)(d:Nat)(Γ:b7):Prop where
 fn:∀f args H r,Γ "" f args H=some r->∃fv,nsIn X.K mainGlobals (Sx f)=some (some fv)/\keepIn X.K fv=true/\nG X d fv args H (λq h=>q=r.1/\h=r.2)
 mt:∀c m args H r,c≠""->Γ c m args H=some r->∃C f,jQ X.K c=some C/\plainGet X.K C (Sx m)=true/\findIn X.K (.ref C) (Sx m)=some (some<|.ref f)/\isFn X.K (.ref f)=true/\keepIn X.K (.ref f)=true/\
  nG X d (.ref f) args H (λq h=>q=r.1/\h=r.2)
abbrev Pin(r:PV×ak):PV->ak->Prop:=λq h=>q=r.1/\h=r.2
abbrev LD(r:au×ak):au->ak->Prop:=λq h=>q=r.1/\h=r.2
def bJ(X:Cx)(d:Nat)(Γ:b7)(c:CE):Prop:=∀(aa:Env)(ai:b5)(ae:bF)(e:Expr)(H:ak)(r:PV×ak),
 aa.scope.kind=.function->d8 ai->ae.length=ai.length->mE c aa.scope.names ai e=true->az Γ c ae H=some r->AE X d aa ai ae e H (Pin r)
def gA(X:Cx)(d:Nat)(Γ:b7)(c:CE):Prop:=∀(aa:Env)(ai:b5)(ae:bF)(e:Expr)(H:ak)(b:Bool)(h':ak),
 aa.scope.kind=.function->d8 ai->ae.length=ai.length->mE c aa.scope.names ai e=true->az Γ c ae H=some (.b b,h')->AT X d aa ai ae e H (λq h=>q=b/\h=h')
section
variable {X:Cx}{d:Nat}{Γ:b7}{aa:Env}{ai:b5}{ae:bF}{H:ak}
theorem AE.pin{e:Expr}{r:PV×ak}{Q:eF}(h:AE X d aa ai ae e H<|Pin r)(q:Q r.1 r.2):AE X d aa ai ae e H Q:=h.mono λU U z=>by(refine U1 z λaT aL=>?_;clear z;subst aT;subst aL);exact q
theorem fM.pin{es:bL}{r:au×ak}{Q:au->ak->Prop}(h:fM X d aa ai ae es H<|LD r)(q:Q r.1 r.2):fM X d aa ai ae es H Q:=h.mono λU U z=>by(refine U1 z λaM aP=>?_;clear z;subst aM;subst aP);exact q
theorem AT.pin{e:Expr}{b:Bool}{h':ak}{Q:Bool->ak->Prop}(h:AT X d aa ai ae e H λq h=>q=b/\h=h')(q:Q b h'):AT X d aa ai ae e H Q:=h.mono λU U z=>by(refine U1 z λaN aQ=>?_;clear h z;subst aN;subst aQ);exact q
set_option tactic.hygienic true in
theorem yv{i:Nat}{y:PySem.Str}(h:nameAt ai i y=true):∃x,ai[i]?=some (some x)/\y=Sx x/\(Sx x==("__debug__":PySem.Str))=false:=by
 unfold nameAt at h;split at h
 ·rename_i x e;rw[cy,gQ,k9]at h;exact cM x e h.1 h.2
 ·exact nB h
theorem mK{sc:Sn}{f:String}{y:PySem.Str}(h:lF sc f y=true):y=Sx f/\sc.lookup (Sx f)=some .globalImplicit/\(Sx f==("__debug__":PySem.Str))=false:=by unfold lF at h;rw[cy,cy,gQ,k9,ff]at h;exact⟨h.1.1,h.1.2,h.2⟩
theorem jZ{es:List CE}(hg:∀c∈es,bJ X d Γ c):∀{l:bL}{H:ak}{r:au×ak},aa.scope.kind=.function->d8 ai->ae.length=ai.length->fY es aa.scope.names ai l=true->cX Γ es ae H=some r->
  fM X d aa ai ae l H (LD r)/\r.1.length=es.length/\l.all notStar=true/\l.length=es.length:=by
 induction es with
 |nil=>
  intro l H r hk hN hl hm hr;have:l=[]:=lh.mp hm;clear hm;subst this;obtain rfl:=aK hr;exact⟨xC ⟨rfl,rfl⟩,rfl,rfl,rfl⟩
 |cons c es ih=>
  intro l H r hk hN hl hm hr;revert hm;refineλh0=>gG (uS h0) λx t nK hm=>?_;clear h0;subst nK
  ·skip
   rw[cy,cy]at hm;refine bG hr λp hp hr=>?_;refine omap hr λq hq=>?_;refine U3 (ih (λc hc=>hg c<|dh _ hc) hk hN hl hm.2 hq) λh1 h2 h3 h4=>?_;refine⟨uw hm.1.1<|(hg c cR aa ai ae x H p hk hN hl hm.1.2 hp).pin<|h1.pin ⟨rfl,rfl⟩,by exact rR i4<|rR i4<|rR h2 rfl,by refine rR oj<|rR hm.1.1<|rR h3 ?_;rfl,by exact rR i4<|rR i4<|rR h4 rfl⟩
theorem mL{p:PV}{b:Bool}(h:truth p=some b):p=.b b:=by
 unfold truth at h;split at h
 ·exact rR (aK h) rfl
 ·exact nN h
set_option tactic.hygienic true in
theorem LF{cA:Bool}{pos:Pos}:∀{es:List CE}(hg:∀c∈es,bJ X d Γ c){l:bL}{H:ak}{r:PV×ak},aa.scope.kind=.function->d8 ai->ae.length=ai.length->fY es aa.scope.names ai l=true->es≠[]->jz Γ cA es ae H=some r->
  AE X d aa ai ae (.BoolOp (iP cA) l pos) H (Pin r)
 |[],_,_,_,_,_,_,_,_,hne,_=>absurd rfl hne
 |c::es,hg,l,H,r,hk,hN,hl,hm,_,hr=>by
  revert hm;refineλh0=>gG (uS h0) λx t nK hm=>?_;clear h0;subst nK
  ·skip
   rw[cy,cy]at hm;refine bG hr λp hp hr=>?_;refine bG hr λb hb hr=>?_;have LG:=mL hb;have h1:=hg c cR aa ai ae x H p hk hN hl hm.1.2 hp
   induction es using List.casesOn with
   |nil=>
    have:t=[]:=lh.mp hm.2;clear hm;subst this;have e:p=r:=by
     change ite _ _ _=_ at hr;split at hr
     ·rename_i q;have hr:=aK hr;subst hr;exact rL q<|rL LG rfl
     ·exact aK hr
    clear hr;clear hr;subst e;exact Xl h1
   |cons c2 es=>
    have hm2:=hm.2;revert hm2;refineλh0=>gG (uS h0) λx2 t2 nK hm2=>?_;clear h0;subst nK
    ·skip
     refine Xm<|h1.pin<|cM b LG (λe=>?_) λe=>?_
     ·rw[bw e]at hr;exact LF (λc hc=>hg c<|dh _ hc) hk hN hl hm.2 (by simp) hr
     ·rw[bO<|by refine rR e ?_;clear hr e;induction cA using Bool.casesOn<;>decide]at hr;have hr:=aK hr;subst hr;exact⟨rfl,rfl⟩
theorem LH{cA:Bool}{pos:Pos}:∀{es:List CE}(hg:∀c∈es,gA X d Γ c){l:bL}{H:ak}{b:Bool}{h':ak},aa.scope.kind=.function->d8 ai->ae.length=ai.length->fY es aa.scope.names ai l=true->jz Γ cA es ae H=some (.b b,h')->
  AT X d aa ai ae (.BoolOp (iP cA) l pos) H (λq h=>q=b/\h=h')
 |[],_,l,H,b,h',_,_,_,hm,hr=>by
  have:l=[]:=lh.mp hm;clear hm;subst this;have hr:=jv<|aK hr
  exact Xn ⟨PV.b.inj hr.1,hr.2⟩
 |c::es,hg,l,H,b,h',hk,hN,hl,hm,hr=>by
  revert hm;refineλh0=>gG (uS h0) λx t nK hm=>?_;clear h0;subst nK
  ·skip
   rw[cy,cy]at hm;refine i_ hr λp hH hp hr=>?_;refine bG hr λc' hb hr=>?_;obtain rfl:=mL hb;refine Xp<|(hg c cR aa ai ae x H c' hH hk hN hl hm.1.2 hp).pin ⟨λe=>?_,λe=>?_⟩
   ·rw[bw e]at hr;exact LH (λc hc=>hg c<|dh _ hc) hk hN hl hm.2 hr
   ·rw[bO<|by refine rR e ?_;clear hr e;induction cA using cP<;>decide]at hr;simp only[Option.some.injEq,Prod.mk.injEq,PV.b.injEq]at hr;exact hr
theorem an{p pz pos:Pos}{a:Expr}{Q:eF}(T:eK X)(e1:gp X "isinstance"<|.builtin "isinstance")(e2:gp X "bool"<|.type "bool")(k1:aa.kindOf (Sx "isinstance")=some .globalImplicit)(k2:aa.kindOf (Sx "bool")=some .globalImplicit)(hs:notStar a=true)
  (h:AE X d aa ai ae a H λv H'=>∃b,((∃c,v=.b c/\b=true)\/((v=.n\/(∃i,v=.i i)\/∃x,v=.s x)/\b=false))/\Q (.b b) H'):AE X d aa ai ae (.Call (.Name (Sx "isinstance") p) [a,.Name (Sx "bool") pz] [] pos) H Q:=by
 refine fm λA cf s E hA hH S R=>?_;rw[arm_eval_Call_Name'];refine a_<|uC T e1 k1 (by decide) S R ?_
 show wpAny _ A (callWith pos (.builtin "isinstance") [] (backTo pos<|starEach [a,.Name (Sx "bool") pz] aa) []) _ E s;refine mq (P:=λU=>True) (by refine rR oj<|rR oj<|rR hs ?_;rfl) (λh U=>oQ h trivial) ?_;rw[rG hs,rG<|by rfl];refine Calls.spliced_cons (bz (h A cf s E hA hH S R) (λv s₁ y=>?_) λU U y=>y);obtain⟨aS,pv,st,S₁,r,b,hb,q⟩:=y;refine Calls.spliced_cons<|uC T e2 k2 (by decide) S₁ (R.step S st)<|Calls.spliced_nil ⟨trivial,?_⟩
 exact bz (XJ S₁ r hb q) (λU U z=>z.after S st) λU U y=>y
theorem LJ{a:CE}{r:au×ak}(h:cX Γ [a] ae H=some r):∃x,az Γ a ae H=some x/\r=([x.1],x.2):=by refine bG h λx hx h=>?_;refine omap h λq hq=>?_;have hq:=aK hq;subst hq;exact aA x hx rfl
end
end
section
section
variable {X:Cx}{d:Nat}{Γ:b7}
theorem aw{p:PV}:bJ X d Γ (.c p):=λaa ai ae e H r hk hN hl hm hr=>by refine uH e hm λc k p' hm=>?_;obtain rfl:=aK hr;exact Ye hm ⟨rfl,rfl⟩
theorem ax{i:Nat}:bJ X d Γ (.v i):=λaa ai ae e H r hk hN hl hm hr=>by refine qf e hm λy p hm=>?_;refine c_ (yv hm) λx h1 aR h3=>?_;clear hm;subst aR;refine bG hr λo ho hr=>?_;refine omap hr λv hv=>?_;exact V4 h1 h3 (hv▸ho) ⟨rfl,rfl⟩
theorem a8(G:eA X){x:String}{p:PV}:bJ X d Γ (.g x p):=λaa ai ae e H r hk hN hl hm hr=>by refine qf e hm λy p' hm=>?_;rw[cy]at hm;refine U2 (mK hm.1) λaT h2 h3=>?_;subst aT;obtain rfl:=aK hr;exact Xa G.T (G.glob x p hm.2) h2 h3 ⟨rfl,rfl⟩
theorem a9{es:List CE}(hg:∀c∈es,bJ X d Γ c):bJ X d Γ (.t es):=λaa ai ae e H r hk hN hl hm hr=>by refine Ck e hm λl k p hm=>?_;rw[cy,ff]at hm;refine omap hr λq hq=>?_;refine U3 (jZ hg hk hN hl hm.2 hq) λh1 h2 U U=>?_;exact Xb<|h1.pin ⟨by refine rR h2 ?_;have:=hm.1;(first|lia|omega),rfl,rfl⟩
theorem ba{es:List CE}(hg:∀c∈es,bJ X d Γ c):bJ X d Γ (.l es):=λaa ai ae e H r hk hN hl hm hr=>by refine Cj e hm λl p hm=>?_;rw[cy,ff]at hm;refine omap hr λq hq=>?_;refine U3 (jZ hg hk hN hl hm.2 hq) λh1 h2 U U=>?_;exact Jm<|h1.pin ⟨by refine rR h2 ?_;have:=hm.1;(first|lia|omega),rfl,rfl⟩
theorem bb{es:List CE}(hg:∀c∈es,bJ X d Γ c):bJ X d Γ (.e es):=λaa ai ae e H r hk hN hl hm hr=>by refine Cj e hm λl p hm=>?_;rw[cy,ff]at hm;refine omap hr λq hq=>?_;refine U3 (jZ hg hk hN hl hm.2 hq) λh1 h2 U U=>?_;exact Xc<|h1.pin ⟨by refine rR h2 ?_;have:=hm.1;(first|lia|omega),rfl,rfl⟩
theorem be{op:lu}{a b:CE}(ha:bJ X d Γ a)(hb:bJ X d Γ b):bJ X d Γ (.b op a b):=λaa ai ae e H r hk hN hl hm hr=>by refine Jy e hm λl o r' p hm=>?_;rw[cy,cy,ff]at hm;refine U1 hm λaL m2=>?_;revert aL;refine V1 λaM m1=>?_;clear hm;subst aM;refine bG hr λx hx hr=>?_;refine bG hr λy hy hr=>?_;refine omap hr λv hv=>?_;refine I0 (P:=λp1 p2 H'=>w7 H' op p1 p2 λq=>Pin (v,y.2) q H') ((ha aa ai ae _ H x hk hN hl m1 hx).pin<|(hb aa ai ae _ x.2 y hk hN hl m2 hy).pin<|ZG hv ⟨rfl,rfl⟩) ?_;exactλA cf s E v1 v2 p1 p2 hA S R r1 r2 hP=>WQ hA S r1 r2 op hP
theorem bi{a:CE}(ha:bJ X d Γ a):bJ X d Γ (.n a):=λaa ai ae e H r hk hN hl hm hr=>by refine uE e hm λo x p hm=>?_;rw[cy,ff]at hm;refine U1 hm λaP m1=>?_;clear hm;subst aP;refine bG hr λx hx hr=>?_;refine nA hr λi hi hr=>?_;obtain rfl:=aK hr;exact Xd<|(ha aa ai ae _ H x hk hN hl m1 hx).pin<|cM i hi rfl rfl
theorem bm{a:CE}(ha:bJ X d Γ a):bJ X d Γ (.o a):=λaa ai ae e H r hk hN hl hm hr=>by refine uE e hm λo x p hm=>?_;rw[cy,ff]at hm;refine U1 hm λaN m1=>?_;clear hm;subst aN;refine bG hr λx hx hr=>?_;refine omap hr λb hb=>?_;exact Xe<|(ha aa ai ae _ H x hk hN hl m1 hx).pin<|cM b (mL hb) rfl rfl
theorem bp{a:CE}(ha:gA X d Γ a):gA X d Γ (.o a):=λaa ai ae e H b h' hk hN hl hm hr=>by refine uE e hm λo x p hm=>?_;rw[cy,ff]at hm;refine U1 hm λaQ m1=>?_;clear hm;subst aQ;refine i_ hr λp h1 hx hr=>?_;refine gY hr λc hb hr=>?_;simp only[Prod.mk.injEq,PV.b.injEq]at hr;refine U1 hr λaR aT=>?_;clear hr;subst aR;clear hr;subst aT;clear hr;obtain rfl:=mL hb;exact Xi<|(ha aa ai ae _ H c h1 hk hN hl m1 hx).pin ⟨rfl,rfl⟩
theorem bt{op:gw}{a b:CE}(ha:bJ X d Γ a)(hb:bJ X d Γ b):bJ X d Γ (.m op a b):=λaa ai ae e H r hk hN hl hm hr=>by refine xR e hm λl os rs p hm=>?_;refine iz os hm λo hm=>?_;refine iz rs hm λq hm=>?_;simp only[Bool.and_eq_true,decide_eq_true_iff,Bool.not_eq_true']at hm;refine U1 hm λaL m2=>?_;revert aL;refine V1 λaM m1=>?_;revert aM;refine V1 λaP m0=>?_;clear hm;clear hm;subst aP;refine bG hr λx hx hr=>?_;refine bG hr λy hy hr=>?_;refine omap hr λv hv=>?_;exact Xg m0<|(ha aa ai ae _ H x hk hN hl m1 hx).pin<|(hb aa ai ae _ x.2 y hk hN hl m2 hy).pin<|su hv ⟨rfl,rfl⟩
theorem bv{op:gw}{a b:CE}(ha:bJ X d Γ a)(hb:bJ X d Γ b):gA X d Γ (.m op a b):=λaa ai ae e H r h' hk hN hl hm hr=>by refine xR e hm λl os rs p hm=>?_;refine iz os hm λo hm=>?_;refine iz rs hm λq hm=>?_;simp only[Bool.and_eq_true,decide_eq_true_iff,Bool.not_eq_true']at hm;refine U1 hm λaN m2=>?_;revert aN;refine V1 λaQ m1=>?_;revert aQ;refine V1 λaR m0=>?_;clear hm;clear hm;subst aR;refine bG hr λx hx hr=>?_;refine bG hr λy hy hr=>?_;refine gY hr λv hv hr=>?_;simp only[Prod.mk.injEq,PV.b.injEq]at hr;refine U1 hr λaT aL=>?_;clear hr;subst aT;clear hr;clear hr;subst aL;exact Xh m0<|(ha aa ai ae _ H x hk hN hl m1 hx).pin<|(hb aa ai ae _ x.2 y hk hN hl m2 hy).pin<|su hv ⟨rfl,rfl⟩
theorem ca{o1 o2:gw}{a b c:CE}(ha:bJ X d Γ a)(hb:bJ X d Γ b)(hc:bJ X d Γ c):bJ X d Γ (.p o1 o2 a b c):=λaa ai ae e H r hk hN hl hm hr=>by
 refine xR e hm λl os rs p hm=>?_;refine rY os hm λp1 p2 hm=>?_;refine rY rs hm λr1 r2 hm=>?_;simp only[Bool.and_eq_true,decide_eq_true_iff,Bool.not_eq_true']at hm;refine U1 hm λaM m3=>?_;revert aM;refine V1 λaP m2=>?_;revert aP;refine V1 λaN m1=>?_;revert aN;refine V1 λaQ m0=>?_;revert aQ;refine V1 λaR aT=>?_;clear hm;subst aR;clear hm;clear hm;subst aT;refine bG hr λx hx hr=>?_;refine bG hr λy hy hr=>?_;refine bG hr λt ht hr=>?_;refine Xq m0<|(ha aa ai ae _ H x hk hN hl m1 hx).pin<|(hb aa ai ae _ x.2 y hk hN hl m2 hy).pin<|su ht ⟨λe=>?_,λe=>?_⟩
 ·rw[bw e]at hr;refine bG hr λz hz hr=>?_;refine omap hr λv hv=>?_;exact(hc aa ai ae _ y.2 z hk hN hl m3 hz).pin<|su hv ⟨rfl,rfl⟩
 ·rw[bO<|by refine rR e ?_;decide]at hr;have hr:=aK hr;subst hr;exact⟨rfl,rfl⟩
theorem cb{o1 o2:gw}{a b c:CE}(ha:bJ X d Γ a)(hb:bJ X d Γ b)(hc:bJ X d Γ c):gA X d Γ (.p o1 o2 a b c):=λaa ai ae e H r h' hk hN hl hm hr=>by
 refine xR e hm λl os rs p hm=>?_;refine rY os hm λp1 p2 hm=>?_;refine rY rs hm λr1 r2 hm=>?_;simp only[Bool.and_eq_true,decide_eq_true_iff,Bool.not_eq_true']at hm;refine U1 hm λaL m3=>?_;revert aL;refine V1 λaM m2=>?_;revert aM;refine V1 λaP m1=>?_;revert aP;refine V1 λaN m0=>?_;revert aN;refine V1 λaQ aR=>?_;clear hm;subst aQ;clear hm;clear hm;subst aR;refine bG hr λx hx hr=>?_;refine bG hr λy hy hr=>?_;refine bG hr λt ht hr=>?_;refine Xr m0<|(ha aa ai ae _ H x hk hN hl m1 hx).pin<|(hb aa ai ae _ x.2 y hk hN hl m2 hy).pin<|su ht ⟨λe=>?_,λe=>?_⟩
 ·rw[bw e]at hr;refine bG hr λz hz hr=>?_;refine gY hr λv hv hr=>?_;simp only[Prod.mk.injEq,PV.b.injEq]at hr;refine U1 hr λaT aL=>?_;clear hr;subst aT;clear hr;clear hr;subst aL;exact(hc aa ai ae _ y.2 z hk hN hl m3 hz).pin<|su hv ⟨rfl,rfl⟩
 ·rw[bO<|by refine rR e ?_;decide]at hr;simp only[Option.some.injEq,Prod.mk.injEq,PV.b.injEq]at hr;exact hr
theorem g_bool{cA:Bool}{es:List CE}(hg:∀c∈es,bJ X d Γ c):bJ X d Γ (.a cA es):=λaa ai ae e H r hk hN hl hm hr=>by refine Jx e hm λo l p hm=>?_;simp only[Bool.and_eq_true,decide_eq_true_iff,Bool.not_eq_true']at hm;refine U1 hm λaM m1=>?_;revert aM;refine V1 λaP m0=>?_;clear hm;subst aP;exact LF hg hk hN hl m1 (by intro q;rw[q]at m0;exact tB m0) hr
theorem gt_bool{cA:Bool}{es:List CE}(hg:∀c∈es,gA X d Γ c):gA X d Γ (.a cA es):=λaa ai ae e H b h' hk hN hl hm hr=>by refine Jx e hm λo l p hm=>?_;simp only[Bool.and_eq_true,decide_eq_true_iff,Bool.not_eq_true']at hm;refine U1 hm λaN m1=>?_;revert aN;refine V1 λaQ m0=>?_;clear hm;subst aQ;exact LH hg hk hN hl m1 hr
theorem ce{t a b:CE}(ht:gA X d Γ t)(ha:bJ X d Γ a)(hb:bJ X d Γ b):bJ X d Γ (.i t a b):=λaa ai ae e H r hk hN hl hm hr=>by
 refine Jz e hm λt' a' b' p hm=>?_;simp only[Bool.and_eq_true]at hm;refine U1 hm λaR m3=>?_;revert aR;refine V1 λm1 m2=>?_;refine i_ hr λp h1 hx hr=>?_;refine bG hr λc hc hr=>?_;obtain rfl:=mL hc;refine Xj<|(ht aa ai ae _ H c h1 hk hN hl m1 hx).pin ⟨λe=>?_,λe=>?_⟩
 ·rw[bw e]at hr;exact ha aa ai ae _ h1 r hk hN hl m2 hr
 ·rw[bO<|by refine rR e ?_;decide]at hr;exact hb aa ai ae _ h1 r hk hN hl m3 hr
theorem ci{t a b:CE}(ht:gA X d Γ t)(ha:gA X d Γ a)(hb:gA X d Γ b):gA X d Γ (.i t a b):=λaa ai ae e H r h' hk hN hl hm hr=>by
 refine Jz e hm λt' a' b' p hm=>?_;simp only[Bool.and_eq_true]at hm;refine U1 hm λaT m3=>?_;revert aT;refine V1 λm1 m2=>?_;refine i_ hr λp h1 hx hr=>?_;refine bG hr λc hc hr=>?_;obtain rfl:=mL hc;refine Xk<|(ht aa ai ae _ H c h1 hk hN hl m1 hx).pin ⟨λe=>?_,λe=>?_⟩
 ·rw[bw e]at hr;exact ha aa ai ae _ h1 r h' hk hN hl m2 hr
 ·rw[bO<|by refine rR e ?_;decide]at hr;exact hb aa ai ae _ h1 r h' hk hN hl m3 hr
theorem cp{s:Expr}(h:Lv s=true)(o i:Value):subscripted s false o i=operate [o,i] (getItem o i):=by
 induction s using Expr.casesOn<;>first|rfl|exact nB h
theorem cq{a i:CE}(ha:bJ X d Γ a)(hi:bJ X d Γ i):bJ X d Γ (.d a i):=λaa ai ae e H r hk hN hl hm hr=>by refine xS e hm λv s p hm=>?_;simp only[Bool.and_eq_true]at hm;refine U1 hm λaL m2=>?_;revert aL;refine V1 λm0 m1=>?_;refine bG hr λx hx hr=>?_;refine bG hr λy hy hr=>?_;refine omap hr λv hv=>?_;exact WW ((ha aa ai ae _ H x hk hN hl m1 hx).pin<|(hi aa ai ae _ x.2 y hk hN hl m2 hy).pin<|ZH hv ⟨rfl,rfl⟩)<|cp m0
theorem LK{lo:CE}(h:bJ X d Γ lo){lo':Option Expr}{aa:Env}{ai:b5}{ae:bF}{H:ak}{x:PV×ak}(hk:aa.scope.kind=.function)(hN:d8 ai)(hl:ae.length=ai.length)
  (hm:(match lo' with
    |none=>uR lo
    |some x=>mE lo aa.scope.names ai x)=true)(hx:az Γ lo ae H=some x){Q:eF}(q:Q x.1 x.2):AP X d aa ai ae lo' H Q:=by
 induction lo' using e9 with
 |none=>
  clear h;obtain rfl:=Lw hm;obtain rfl:=aK hx;exact Xs q
 |some e=>exact Xu<|(h aa ai ae e H x hk hN hl hm hx).pin q
theorem ct{a lo hi:CE}(ha:bJ X d Γ a)(hlo:bJ X d Γ lo)(hhi:bJ X d Γ hi):bJ X d Γ (.s a lo hi):=λaa ai ae e H r hk hN hl hm hr=>by refine xS e hm λv s p hm=>?_;refine JC s hm λlo' hi' st p' hm=>?_;refine Cr st (band (band (band hm).1).1).1 ?_;refine U1 (band hm) λhm m3=>?_;refine U1 (band hm) λhm m2=>?_;have m1:=(band hm).2;refine bG hr λx hx hr=>?_;refine bG hr λy hy hr=>?_;refine bG hr λz hz hr=>?_;refine omap hr λv hv=>?_;exact Xw<|(ha aa ai ae _ H x hk hN hl m1 hx).pin<|LK hlo hk hN hl m2 hy<|LK hhi hk hN hl m3 hz<|ZI hv ⟨rfl,rfl⟩
theorem cv{c:Const}{i:Int}(h:qh c (.i i)=true):c=.int i:=(aK<|cG h).symm
theorem cw{a:CE}(ha:bJ X d Γ a):bJ X d Γ (.r a):=λaa ai ae e H r hk hN hl hm hr=>by refine xS e hm λv s p hm=>?_;refine JC s hm λlo' hi' st p' hm=>?_;refine Cr lo' (band (band hm).1).1 ?_;refine Cr hi' (band (band hm).1).2 ?_;refine JD st (band hm).2 λx hm=>?_;refine uE x hm λo c p1 hm=>?_;refine U1 (band hm) λho hm=>?_;obtain rfl:=cG ho;refine uH c hm λc k p2 hm=>?_;rw[cy]at hm;refine U1 hm λm0 m1=>?_;clear hm;obtain rfl:=cv m0;refine bG hr λx hx hr=>?_;refine omap hr λl jd=>?_;exact Xy<|(ha aa ai ae _ H x hk hN hl m1 hx).pin<|cM l jd rfl rfl
set_option tactic.hygienic true in
theorem cx(G:eA X){a:CE}{x:String}(ha:bJ X d Γ a):bJ X d Γ (.f a x):=λaa ai ae e H r hk hN hl hm hr=>by
 refine Ci e hm λv y p hm=>?_;rw[cy,cy,gQ]at hm;refine U1 hm λaM m1=>?_;revert aM;refine V1 λaP m0=>?_;clear hm;subst aP;refine bG hr λy hy hr=>?_;refine bG hr λo ho hr=>?_;split at hr
 ·rename_i hf;refine omap hr λv hv=>?_;exact WY G.T m0<|(ha aa ai ae _ H y hk hN hl m1 hy).pin<|pY o.1 o.2.1 o.2.2 v ho ((G.fld _ _ hf).1) hv rfl rfl
 ·exact nN hr
theorem da(G:eA X)(hΓ:g9 X d Γ){f:String}{es:List CE}(hg:∀c∈es,bJ X d Γ c):bJ X d Γ (.h f es):=λaa ai ae e H r hk hN hl hm hr=>by refine oU e hm λy p args p2 hm=>?_;rw[cy]at hm;refine U2 (mK hm.1) λaN h2 h3=>?_;subst aN;refine bG hr λq hq hr=>?_;refine U3 (jZ hg hk hN hl hm.2 hq) λg1 U g3 U=>?_;refine c_ (hΓ.fn f q.1 q.2 r hr) λfv e1 e2 e3=>?_;exact Yp G.T h2 h3 g3 e1 e2<|g1.pin e3
set_option tactic.hygienic true in
theorem db(G:eA X)(hΓ:g9 X d Γ){o:CE}{m:String}{es:List CE}(ho:bJ X d Γ o)(hg:∀c∈es,bJ X d Γ c):bJ X d Γ (.j o m es):=λaa ai ae e H r hk hN hl hm hr=>by
 refine rZ e hm λv y p' args p m0 m2 hm=>?_;simp only[Bool.and_eq_true,beq_iff_eq,decide_eq_true_iff]at hm;refine U1 hm λaQ m4=>?_;revert aQ;refine V1 λaR m3=>?_;revert aR;refine V1 λaT m1=>?_;clear hm;subst aT;refine bG hr λx hx hr=>?_;refine bG hr λc hc hr=>?_;refine bG hr λq hq hr=>?_;split at hq
 ·exact nN hq
 ·rename_i hne;rw[Bool.not_eq_true,Bool.or_eq_false_iff]at hne;refine U3 (jZ hg hk hN hl m4 hq) λg1 U g3 U=>?_;refine E8 (hΓ.mt c.1 m (x.1::q.1) q.2 r (by simpa using hne.2) hr) λC f e1 e2 e3 e4 e5 e6=>?_;exact Yq G.T m0 g3 m1 m2<|(ho aa ai ae _ H x hk hN hl m3 hx).pin<|PF c.1 c.2.1 c.2.2 C f hc hne.1 e1 e2 e3 e4 e5<|g1.pin e6
end
end
section
section
variable {X:Cx}{d:Nat}{Γ:b7}
theorem yw{α β:Type}{f:α->Option β}{r:β}{l:List α}{G:Prop}(h:u1 l f=some r)(K:∀i,l=[i]->f i=some r->G):G:=by revert K;exact xm l h λi h K=>K i rfl h
theorem de{α β:Type}{f:α->α->Option β}{r:β}{l:List α}{G:Prop}(h:u2 l f=some r)(K:∀i j,l=[i,j]->f i j=some r->G):G:=by revert K;exact Ao l h λi j h K=>K i j rfl h
theorem dk{v:PV}{b:Bool}(h:Hg v=some b):(∃c,v=.b c/\b=true)\/((v=.n\/(∃i,v=.i i)\/∃x,v=.s x)/\b=false):=by
 induction v using d7<;>cases h<;>first|exact .inl (aA _ rfl rfl)|exact .inr ⟨.inl rfl,rfl⟩|exact .inr ⟨.inr<|.inl ⟨_,rfl⟩,rfl⟩|exact .inr ⟨.inr<|.inr ⟨_,rfl⟩,rfl⟩
theorem dp{l:bk}{m:Int}(h:Hh l=some m):∃n ns,l=n::ns/\ns.foldl min n=m:=by
 induction l using b9 with
 |nil=>exact nN h
 |cons n ns=>exact gR n ns rfl<|aK h
theorem uU(G:eA X){b:oG}{es:List CE}{f:String}{v:Value}(hg:∀c∈es,bJ X d Γ c)(eb:gp X f v)(hv:(∃id,v=.builtin id)\/∃t,v=.type t){aa:Env}{ai:b5}{ae:bF}{p pos:Pos}{args:bL}{H:ak}{q:au×ak}{r:PV×ak}(hk:aa.scope.kind=.function)(hN:d8 ai)(hl:ae.length=ai.length)
  (h2:aa.kindOf (Sx f)=some .globalImplicit)(h3:(Sx f==("__debug__":Str))=false)(hm:fY es aa.scope.names ai args=true)(hq:cX Γ es ae H=some q)(w:PV)(ev:q.1=[w])
  (op:∀(A:Around) (cf:Cf) (s:Shared) (E:cJ) (x:Value),c7 d A->aU X cf s.heap->Rep X cf s.heap w x->cf.H=q.2->wpAny (model X.prog X.w) A (call v [x] []) (bC X cf s<|GV X<|Pin r) E s):
  AE X d aa ai ae (.Call (.Name (Sx f) p) args [] pos) H (Pin r):=by
 refine U3 (jZ hg hk hN hl hm hq) λg1 U g3 U=>?_;refine Jr G.T eb hv h2 h3 g3 g1 λA cf s E vs ps hA S rl hP=>?_;refine U1 hP λaL hH=>?_;clear hP;subst aL;rw[ev]at rl;refine aC (rO rl) λx aM rx=>?_;clear rl;subst aM;exact op A cf s E x hA S rx hH
theorem LL(G:eA X){es:List CE}{f:String}{v:Value}(hg:∀c∈es,bJ X d Γ c)(eb:gp X f v)(hv:(∃id,v=.builtin id)\/∃t,v=.type t){aa:Env}{ai:b5}{ae:bF}{p pos:Pos}{args:bL}{H:ak}{q:au×ak}{r:PV×ak}(hk:aa.scope.kind=.function)(hN:d8 ai)(hl:ae.length=ai.length)
  (h2:aa.kindOf (Sx f)=some .globalImplicit)(h3:(Sx f==("__debug__":Str))=false)(hm:fY es aa.scope.names ai args=true)(hq:cX Γ es ae H=some q)(i j:Int)(ev:q.1=[.i i,.i j])
  (op:∀(A:Around) (cf:Cf) (s:Shared) (E:cJ) (t u:Tok),c7 d A->aU X cf s.heap->cf.H=q.2->wpAny (model X.prog X.w) A (call v [.int i t,.int j u] []) (bC X cf s<|GV X<|Pin r) E s):
  AE X d aa ai ae (.Call (.Name (Sx f) p) args [] pos) H (Pin r):=by
 refine U3 (jZ hg hk hN hl hm hq) λg1 U g3 U=>?_;refine Jr G.T eb hv h2 h3 g3 g1 λA cf s E vs ps hA S rl hP=>?_;refine U1 hP λaP hH=>?_;clear hP;subst aP;rw[ev]at rl;refine Po (xM rl) λx y aN aQ u aR=>?_;subst aN;revert aQ;refine Y1 λt aT=>?_;clear rl;subst aT;subst aR;exact op A cf s E t u hA S hH
theorem dq(G:eA X){es:List CE}(hg:∀c∈es,bJ X d Γ c):bJ X d Γ (.k .B es):=λaa ai ae e H r hk hN hl hm hr=>by
 refine oU e hm λy py args pos hm=>?_;refine U1 (band hm) λm0 hm2=>?_;clear hm;refine bG hr λq hq hr=>?_;refine U2 (mK m0) λaL h2 h3=>?_;clear m0;subst aL;refine yw hr λv ev hr=>?_;refine omap hr λb hb=>?_;refine rY args hm2 λa z hm=>?_;refine qf z hm λz pz hm=>?_;refine U1 (band hm) λm1 LM=>?_;clear hm;refine U2 (mK m1) λaM k2 k3=>?_;clear m1;subst aM;refine U3 (jZ hg hk hN hl LM hq) λg1 g2 g3 g4=>?_;obtain⟨c,rfl⟩:∃c,es=[c]:=List.length_eq_one_iff.mp<|by refine rL g4 ?_;rfl
 refine aC (LJ hq) λx hx aP=>?_;clear g1 hq g2;subst aP;clear hr;obtain rfl:=(qZ ev).1;refine U1 (band LM) λhm U=>?_;exact an G.T G.ag G.al h2 k2 (band hm).1<|(hg c cR aa ai ae a H x hk hN hl (band hm).2 hx).pin<|cM b (dk hb) rfl rfl
theorem ds(G:eA X){b:oG}{es:List CE}(hg:∀c∈es,bJ X d Γ c):bJ X d Γ (.k b es):=by
 induction b using oG.casesOn with
 |B=>exact dq G hg
 |_=>
  refineλaa ai ae e H r hk hN hl hm hr=>?_;refine oU e hm λy py args pos hm=>?_;refine U1 (band hm) λm0 hm2=>?_;clear hm;refine bG hr λq hq hr=>?_;refine U2 (mK m0) λaN h2 h3=>?_;clear m0;subst aN
  first
  |refine yw hr λv ev hr=>?_
   refine omap hr λl jd=>?_
   first
   |exact uU (b:=.l) G hg G.Z_ (.inl ⟨_,rfl⟩) hk hN hl h2 h3 hm2 hq v ev λA cf s E x hA S rx hH=>Xz S rx (hH▸jd) ⟨rfl,hH⟩
   |exact uU (b:=.i) G hg G.Lz (.inr ⟨_,rfl⟩) hk hN hl h2 h3 hm2 hq v ev λA cf s E x hA S rx hH=>XD S rx (hH▸jd) ⟨rfl,hH⟩
   |exact uU (b:=.s) G hg G.Lz (.inr ⟨_,rfl⟩) hk hN hl h2 h3 hm2 hq v ev λA cf s E x hA S rx hH=>XE S rx (hH▸jd)<|hH▸⟨rfl,rfl⟩
  |refine yw hr λv ev hr=>?_
   refine bG hr λl jd hr=>?_;refine bG hr λns hns hr=>?_
   first
   |exact G8 hr λh64=>uU (b:=.o) G hg G.Z' (.inl ⟨_,rfl⟩) hk hN hl h2 h3 hm2 hq v ev λA cf s E x hA S rx hH=>XF S rx (hH▸jd) hns h64 ⟨rfl,hH⟩
   |refine omap hr λn hn=>?_
    refine gG (dp hn) λn ns aQ aR=>?_;clear hr;clear hn;subst aQ;subst aR;exact uU (b:=.m) G hg G.LA (.inl ⟨_,rfl⟩) hk hN hl h2 h3 hm2 hq v ev λA cf s E x hA S rx hH=>XI hA S rx (hH▸jd) hns ⟨rfl,hH⟩
  |refine de hr λv w ev hr=>?_
   refine nA hr λi hi hr=>?_;refine nA hr λj hj hr=>?_;subst hi hj;obtain rfl:=aK hr
   first
   |exact LL G hg G.LA (.inl ⟨_,rfl⟩) hk hN hl h2 h3 hm2 hq i j ev λA cf s E t u hA S hH=>XG hA S ⟨rfl,hH⟩
   |exact LL G hg G.ac (.inl ⟨_,rfl⟩) hk hN hl h2 h3 hm2 hq i j ev λA cf s E t u hA S hH=>XH hA S ⟨rfl,hH⟩
set_option tactic.hygienic true in
theorem du{a b:CE}(ha:bJ X d Γ a)(hb:bJ X d Γ b):bJ X d Γ (.q a b):=λaa ai ae e H r hk hN hl hm hr=>by
 refine rZ e hm λv y p' args p m0 m2 hm=>?_;refine U1 (band hm) λh0 hm=>?_;obtain rfl:=gQ.mp h0;refine iz args hm λw hm=>?_;refine U1 (band hm) λhm m4=>?_;refine U1 (band hm) λm1 m3=>?_;refine bG hr λx hx hr=>?_;refine i_ hr λn0 l0 hc0 hr=>?_;refine bG hr λy hy hr=>?_;refine i_ hr λn1 l1 hc1 hr=>?_;split at hr
 ·rename_i hz;have hr:=aK hr;subst hr;refine U1 (sq hc0) λe0 h0=>?_;refine U1 (sq hc1) λe1 h1=>?_;rw[e0]at e1;clear hc1 hr;clear hr;obtain rfl:=PV.e.inj e1;exact W2 m0 m1 m2<|(ha aa ai ae _ H x hk hN hl m3 hx).pin<|fg n0 l0 e0 h0<|(hb aa ai ae _ x.2 y hk hN hl m4 hy).pin<|iq l1 h1 hz rfl rfl
 ·exact nN hr
set_option tactic.hygienic true in
theorem dx{a b:CE}(ha:bJ X d Γ a)(hb:bJ X d Γ b):bJ X d Γ (.x a b):=λaa ai ae e H r hk hN hl hm hr=>by
 refine rZ e hm λv y p' args p m0 m2 hm=>?_;refine U1 (band hm) λh0 hm=>?_;obtain rfl:=gQ.mp h0;refine iz args hm λw hm=>?_;refine U1 (band hm) λhm m4=>?_;refine U1 (band hm) λm1 m3=>?_;refine bG hr λx hx hr=>?_;refine i_ hr λn0 l0 hc0 hr=>?_;refine bG hr λy hy hr=>?_;refine i_ hr λn1 l1 hc1 hr=>?_;refine bG hr λrr dy hr=>?_;split at hr
 ·rename_i hz;have hr:=aK hr;subst hr;refine U1 (sq hc0) λe0 h0=>?_;refine U1 (sq hc1) λe1 h1=>?_;rw[e0]at e1;clear hc1 hr;clear hr;obtain rfl:=PV.e.inj e1;exact W4 m0 m1 m2<|(ha aa ai ae _ H x hk hN hl m3 hx).pin<|fg n0 l0 e0 h0<|(hb aa ai ae _ x.2 y hk hN hl m4 hy).pin<|t8 l1 rr h1 dy hz rfl rfl
 ·exact nN hr
theorem dA{l:au}{v:PV}(h:l.getLast?=some v):l=l.dropLast++[v]:=by
 induction l using b9 with
 |nil=>simp at h
 |cons a t=>
  have e:=List.dropLast_concat_getLast (l:=a::t)<|by simp
  rw[List.getLast?_eq_getLast<|by simp]at h;refine rL (aK h) ?_;exact e.symm
theorem dC{a:CE}(ha:bJ X d Γ a):bJ X d Γ (.u a):=λaa ai ae e H r hk hN hl hm hr=>by refine rZ e hm λv y p' args p m0 m2 hm=>?_;refine U1 (band hm) λhm m3=>?_;refine U1 (band hm) λh0 hm=>?_;obtain rfl:=gQ.mp h0;refine jF args hm ?_;refine bG hr λx hx hr=>?_;refine i_ hr λn0 l0 hc0 hr=>?_;refine omap hr λv hv=>?_;refine U1 (sq hc0) λe0 h0=>?_;exact W5 m0 m2<|(ha aa ai ae _ H x hk hN hl m3 hx).pin<|lY n0 l0.dropLast v e0 (by exact rR h0<|rL (dA hv) rfl) rfl rfl
theorem dE{a b:CE}(ha:bJ X d Γ a)(hb:bJ X d Γ b):bJ X d Γ (.w a b):=λaa ai ae e H r hk hN hl hm hr=>by refine rZ e hm λv y p' args p m0 m2 hm=>?_;refine U1 (band hm) λh0 hm=>?_;obtain rfl:=gQ.mp h0;refine iz args hm λw hm=>?_;refine U1 (band hm) λhm m4=>?_;refine U1 (band hm) λm1 m3=>?_;refine bG hr λx hx hr=>?_;refine V_ hr λks l hxs hr=>?_;refine bG hr λy hy hr=>?_;refine G_ hr λs hys hr=>?_;obtain rfl:=aK hr;exact W6 m0 m1 m2<|(ha aa ai ae _ H x hk hN hl m3 hx).pin<|gR ks l hxs<|(hb aa ai ae _ x.2 y hk hN hl m4 hy).pin<|cM s hys rfl rfl
theorem dL{a b c:CE}(ha:bJ X d Γ a)(hb:bJ X d Γ b)(hc:bJ X d Γ c):bJ X d Γ (.y a b c):=λaa ai ae e H r hk hN hl hm hr=>by refine rZ e hm λv y p' args p m0 m2 hm=>?_;refine U1 (band hm) λh0 hm=>?_;obtain rfl:=gQ.mp h0;refine rY args hm λw u hm=>?_;refine U1 (band hm) λhm m5=>?_;refine U1 (band hm) λhm m4=>?_;refine U1 (band hm) λhm m3=>?_;refine U1 (band hm) λm1 dT=>?_;refine bG hr λx hx hr=>?_;refine V9 hr λf hxs hr=>?_;refine bG hr λy hy hr=>?_;refine bG hr λz hz hr=>?_;refine nA hr λi hi hr=>?_;refine nA hr λj hj hr=>?_;obtain rfl:=aK hr;exact W7 m0 m1 dT m2<|(ha aa ai ae _ H x hk hN hl m3 hx).pin<|aA f hxs<|(hb aa ai ae _ x.2 y hk hN hl m4 hy).pin<|(hc aa ai ae _ y.2 z hk hN hl m5 hz).pin<|fy i j hi hj rfl rfl
theorem d0{n:CE}(hn:bJ X d Γ n):bJ X d Γ (.z n):=λaa ai ae e H r hk hN hl hm hr=>by refine Jy e hm λl o r' p hm=>?_;refine U1 (band hm) λh0 hm=>?_;obtain rfl:=cG h0;refine Cj l hm λl p' hm=>?_;refine iz l hm λc hm=>?_;refine uH c hm λc k p2 hm=>?_;refine U1 (band hm) λh0 m1=>?_;clear hm;obtain rfl:=cG h0;refine bG hr λx hx hr=>?_;refine nA hr λk hxs hr=>?_;refine G8 hr λhb=>?_;exact Yo<|(hn aa ai ae _ H x hk hN hl m1 hx).pin<|wz k hxs hb.1 hb.2 rfl rfl
theorem d4(G:eA X):bJ X d Γ .A:=λaa ai ae e H r hk hN hl hm hr=>by refine Cg e hm λk v p hm=>?_;refine U1 (band hm) λh0 hm=>?_;refine jF k h0 ?_;refine jF v hm ?_;obtain rfl:=aK hr;exact Yh G.T ⟨rfl,rfl⟩
theorem d5(G:eA X):bJ X d Γ .B:=λaa ai ae e H r hk hN hl hm hr=>by refine Cg e hm λk v p hm=>?_;refine U1 (band hm) λh0 hm=>?_;refine jF k h0 ?_;refine jF v hm ?_;obtain rfl:=aK hr;exact Yi G.T ⟨rfl,rfl⟩
theorem d6(G:eA X){ks:aY}{ps:au}:bJ X d Γ (.C ks ps):=λaa ai ae e H r hk hN hl hm hr=>by refine Cg e hm λk v p hm=>?_;simp only[Bool.and_eq_true,decide_eq_true_iff,Bool.not_eq_true']at hm;refine U1 hm λaT m3=>?_;revert aT;refine V1 λaL m2=>?_;revert aL;refine V1 λm0 m1=>?_;obtain rfl:=aK hr;exact Ym G.T m0 (by intro q;rw[q]at m1;exact tB m1) m2 m3 ⟨rfl,rfl⟩
end
end
section
abbrev j0(h:Heap)(z TI TO:Addr)(f0 f1:Value):Prop:=
 h.get? z=some {cls:=.type "zip",dict:=none,data:=.fields #[f0,f1,.bool false,.ref TI,.ref TO],slots:=#[]}
section
variable {prog:Program}{w:World}{A:Around}{E:cJ}{s:Shared}
theorem eh{a:Addr}{Q:Option Obj->Shared->Prop}(h:Q (s.heap.get? a) s):wpAny (model prog w) A (loadIfAlive a) Q E s:=λU U U=>h
theorem LO{z TI TO:Addr}{f0 f1:Value}{Q:Bool->Shared->Prop}(hz:j0 s.heap z TI TO f0 f1)(hf:f0=.none\/∃t:Nat,f0=rawInt t)
  (h1:Q true s)(h2:∀h',(∃Dg,j0 h' z TI TO f0 Dg)->Heap.SameBut z s.heap h'->Q false {s with heap:=h'}):wpAny (model prog w) A (Builtin.SmallTypes.ownedTupleIsFree<|.ref z) Q E s:=by
 unfold Builtin.SmallTypes.ownedTupleIsFree;refine a_<|jw hz rfl (x:=f0) rfl ?_
 rcases hf with rfl|⟨t,rfl⟩
 ·exact cF h1
 ·show wpAny _ _ (loadIfAlive _>>=_) _ _ s;refine a_<|eh ?_
  cases s.heap.get? (Int.toNat (t:Int))with
  |none=>simp only[Option.isNone_none,if_true];exact cF h1
  |some o=>
   simp only[Option.isNone_some,Bool.false_eq_true,if_false];refine a_<|jw hz rfl (x:=f1) rfl ?_
   split
   ·refine a_ (lj hz (by simp) λh' hz' hs'=>cF<|h2 h' ⟨_,hz'⟩ hs')
   ·exact cF<|h2 s.heap ⟨_,hz⟩<|Heap.SameBut.refl _ _
inductive ZF (h:Heap)(z TI TO:Addr):Prop
 |mk (f0 f1:Value) (hz:j0 h z TI TO f0 f1) (hf:f0=.none\/∃t:Nat,f0=rawInt t):ZF h z TI TO
inductive uV (h:Heap)(T:Addr):Prop
 |mk (a b:Value) (e:IsPair h T a b):uV h T
structure ZS (z TI TO i1 i2 l1 l2:Addr)(xs ys:dg)(i:Nat)(h:Heap):Prop where
 hz:ZF h z TI TO
 hTI:IsPair h TI (.ref i1) (.ref i2)
 hTO:uV h TO
 h1:h.IsListIter i1 l1 i
 h2:h.IsListIter i2 l2 i
 hl1:h.IsList l1 xs
 hl2:h.IsList l2 ys
theorem ZS.next{z TI TO i1 i2 l1 l2:Addr}{xs ys:dg}{i:Nat}{h h':Heap}(D:ZipApart z TI TO i1 i2 l1 l2)(Z:ZS z TI TO i1 i2 l1 l2 xs ys i h)(hz:ZF h' z TI TO)(hTO:uV h' TO)(h1:h'.IsListIter i1 l1<|i+1)(h2:h'.IsListIter i2 l2<|i+1)
  (k:∀c o,c≠z->c≠TO->c≠i1->c≠i2->h.get? c=some o->h'.get? c=some o):ZS z TI TO i1 i2 l1 l2 xs ys (i+1) h':=
 ⟨hz,k _ _ D.TIz D.TITO D.TIi1 D.TIi2 Z.hTI,hTO,h1,h2,Z.hl1.at λo q=>k _ o D.l1z D.l1TO D.l1i1 D.l1i2 q,Z.hl2.at λo q=>k _ o D.l2z D.l2TO D.l2i1 D.l2i2 q⟩
theorem ei{z TI TO i1 i2 l1 l2:Addr}{i:Nat}{xs ys:dg}{x y:Value}{Q:Fin->Shared->Prop}(D:ZipApart z TI TO i1 i2 l1 l2)(Z:ZS z TI TO i1 i2 l1 l2 xs ys i s.heap)(hx:xs[i]?=some x)(hy:ys[i]?=some y)
  (hQ:∀h' T,ZS z TI TO i1 i2 l1 l2 xs ys (i+1) h'->IsPair h' T x y->s.heap.objs.size<=T->(∀c o,c≠z->c≠TO->c≠i1->c≠i2->s.heap.get? c=some o->h'.get? c=some o)->Q (.done<|.ret<|.ref T) {s with heap:=h'}):
  wpAny (model prog w) A (Builtin.«zip.__next__» ⟨[.ref z],[]⟩) Q E s:=by
 obtain⟨hp,gn,dr,tk,os⟩:=s;obtain⟨f0,f1,hz,hf⟩:=Z.hz;obtain⟨a,b,hTO⟩:=Z.hTO;have hTI:=Z.hTI;have h1:=Z.h1;have h2:=Z.h2;have hl1:=Z.hl1;have hl2:=Z.hl2;show wpAny _ _ (field (.ref z) 2>>=_) _ _ _;refine a_<|jw hz rfl (x:=.bool false) rfl ?_
 show wpAny _ _ (field (.ref z) 3>>=_) _ _ _;refine a_<|jw hz rfl (x:=.ref TI) rfl ?_
 refine a_<|pU hTI rfl ?_
 show wpAny _ _ (Builtin.SmallTypes.ownedTupleIsFree (.ref z)>>=_) _ _ _;refine a_ (LO hz hf ?_ λh₁ j4 hs₁=>?_)
 ·
  simp only[if_true];refine a_<|wpAny_rule ?_
  refine a_<|jw hz rfl (x:=.ref TO) rfl ?_
  refine a_ (lj hz (by simp) λh₁ j4 hs₁=>?_)
  replace j4:j0 h₁ z TI TO .ellipsis f1:=j4
  refine a_ ?_;simp only[List.zipIdx_cons,List.zipIdx_nil,List.forIn_cons,List.forIn_nil];refine a_<|a_<|wpAny_onRaise ?_
  show wpAny _ _ (Builtin.SmallTypes.nextOf (.ref i1)>>=_) _ _ _;refine a_ (wo (h1.extBut hs₁.extBut D.i1z) (hl1.extBut hs₁.extBut D.l1z) hx λh₂ Dh hs₂=>cF ?_);have LP:IsPair h₂ TO a b:=hs₂.extBut _ _ D.TOi1 (hs₁.extBut _ _ D.TOz hTO);refine a_<|pU LP rfl ?_
  refine a_ (wpAny_updateSeq_pair LP λh₃ Di iR=>?_)
  replace Di:IsPair h₃ TO x b:=Di
  refine a_<|wpAny_letGo<|cF ?_
  refine a_<|a_<|wpAny_onRaise ?_
  show wpAny _ _ (Builtin.SmallTypes.nextOf (.ref i2)>>=_) _ _ _
  refine a_ (wo (((h2.extBut hs₁.extBut D.i2z).extBut hs₂.extBut D.i12.symm).extBut iR.extBut D.TOi2.symm)
   (((hl2.extBut hs₁.extBut D.l2z).extBut hs₂.extBut D.l2i1).extBut iR.extBut D.l2TO) hy λh₄ Dj mO=>cF ?_)
  have LQ:IsPair h₄ TO x b:=mO.extBut _ _ D.TOi2 Di;refine a_<|pU LQ rfl ?_
  refine a_ (wpAny_updateSeq_pair LQ λh₅ yx nM=>?_)
  replace yx:IsPair h₅ TO x y:=yx
  refine a_<|wpAny_letGo<|cF<|cF ?_
  refine a_<|pU yx rfl ?_
  refine a_<|wpAny_newTuple ?_
  have hsz:h₅.objs.size=hp.objs.size:=by exact rR nM.1<|rR mO.1<|rR iR.1<|rR hs₂.1<|rR hs₁.1 rfl
  have LS:j0 h₅ z TI TO .ellipsis f1:=nM.extBut _ _ D.TOz.symm (mO.extBut _ _ D.i2z.symm (iR.extBut _ _ D.TOz.symm (hs₂.extBut _ _ D.i1z.symm j4)));have eC:∀c o,c≠z->c≠TO->c≠i1->c≠i2->hp.get? c=some o->h₅.get? c=some o:=λc o c1 c2 c3 c4 e=>
   nM.extBut _ _ c2 (mO.extBut _ _ c4 (iR.extBut _ _ c2 (hs₂.extBut _ _ c3 (hs₁.extBut _ _ c1 e))))
  have eD:h₅.IsListIter i1 l1 (i+1):=((Dh.extBut iR.extBut D.TOi1.symm).extBut mO.extBut D.i12).extBut nM.extBut D.TOi1.symm;have eP:h₅.IsListIter i2 l2 (i+1):=Dj.extBut nM.extBut D.TOi2.symm;have LU:z<h₅.objs.size:=fJ LS;show wpAny _ _ (Builtin.SmallTypes.ownedTupleHandOut (.ref z) (.ref h₅.objs.size)>>=_) _ _ _;refine a_ ?_;unfold Builtin.SmallTypes.ownedTupleHandOut;have eQ:j0 (h₅.push {cls:=.type "tuple",data:=.seq #[x,y]}) z TI TO .ellipsis f1:=jq _ LS;refine a_ (lj eQ (by simp) λsD Dk sE=>?_)
  replace Dk:j0 sD z TI TO (rawInt h₅.objs.size) f1:=Dk
  refine lj Dk (by simp) λuW Dl LV=>?_
  replace Dl:j0 uW z TI TO (rawInt h₅.objs.size) (.bool false):=Dl
  have up:∀c o,c≠z->h₅.get? c=some o->uW.get? c=some o:=λc o c1 e=>LV.extBut _ _ c1 (sE.extBut _ _ c1 (jq _ e));have fe:IsPair uW h₅.objs.size x y:=LV.extBut _ _ (Nat.ne_of_gt LU) (sE.extBut _ _ (Nat.ne_of_gt LU) (ik _ rfl));have k:∀c o,c≠z->c≠TO->c≠i1->c≠i2->hp.get? c=some o->uW.get? c=some o:=λc o c1 c2 c3 c4 e=>up c o c1<|eC c o c1 c2 c3 c4 e
  exact cF<|hQ uW h₅.objs.size (Z.next D ⟨_,_,Dl,.inr ⟨_,rfl⟩⟩ ⟨_,_,up _ _ D.TOz yx⟩ (eD.at λo e=>up _ o D.i1z e) (eP.at λo e=>up _ o D.i2z e) k) fe (cj hsz.symm) k
 ·(revert j4;refine Y1 λDg j4=>?_)
  simp only[Bool.false_eq_true,if_false];refine a_ ?_;refine rL Array.forIn_toList ?_;simp only[List.forIn_cons,List.forIn_nil];refine a_<|a_<|wpAny_holding ?_
  show wpAny _ _ (Builtin.SmallTypes.nextOf (.ref i1)>>=_) _ _ _;refine a_ (wo (h1.extBut hs₁.extBut D.i1z) (hl1.extBut hs₁.extBut D.l1z) hx λh₂ Dh hs₂=>cF<|cF ?_);refine a_<|a_<|wpAny_holding ?_
  show wpAny _ _ (Builtin.SmallTypes.nextOf (.ref i2)>>=_) _ _ _
  refine a_ (wo ((h2.extBut hs₁.extBut D.i2z).extBut hs₂.extBut D.i12.symm)
   ((hl2.extBut hs₁.extBut D.l2z).extBut hs₂.extBut D.l2i1) hy λh₄ Dj mO=>cF<|cF<|cF ?_)
  show wpAny _ _ (newTuple [x,y]>>=_) _ _ _;refine a_<|wpAny_newTuple ?_
  have hsz:h₄.objs.size=hp.objs.size:=by exact rR mO.1<|rR hs₂.1<|rR hs₁.1 rfl
  have fi:j0 h₄ z TI TO f0 Dg:=mO.extBut _ _ D.i2z.symm (hs₂.extBut _ _ D.i1z.symm j4);have uX:∀c o,c≠z->c≠i1->c≠i2->hp.get? c=some o->h₄.get? c=some o:=λc o c1 c3 c4 e=>mO.extBut _ _ c4 (hs₂.extBut _ _ c3 (hs₁.extBut _ _ c1 e));have fo:h₄.IsListIter i1 l1 (i+1):=Dh.extBut mO.extBut D.i12;have up:∀c o,h₄.get? c=some o->(h₄.push {cls:=.type "tuple",data:=.seq #[x,y]}).get? c=some o:=λc o e=>jq _ e;have k:∀c o,c≠z->c≠TO->c≠i1->c≠i2->hp.get? c=some o->(h₄.push {cls:=.type "tuple",data:=.seq #[x,y]}).get? c=some o:=λc o c1 c2 c3 c4 e=>up c o<|uX c o c1 c3 c4 e
  exact cF<|hQ _ h₄.objs.size (Z.next D ⟨_,_,up _ _ fi,hf⟩ ⟨_,_,up _ _ (uX _ _ D.TOz D.TOi1 D.TOi2 hTO)⟩ (fo.at λo e=>up _ o e) (Dj.at λo e=>up _ o e) k) (ik _ rfl) (cj hsz.symm) k
theorem ft{z TI TO i1 i2 l1:Addr}{k1:Nat}{xs:dg}{f0 f1:Value}{Q:Fin->Shared->Prop}(hh:A.handled=none)(d1:i1≠z)(d2:l1≠z)
  (hz:j0 s.heap z TI TO f0 f1)(hf:f0=.none\/∃t:Nat,f0=rawInt t)(hTI:IsPair s.heap TI (.ref i1)<|.ref i2)
  (h1:s.heap.IsListIter i1 l1 k1)(hl1:s.heap.IsList l1 xs)(hx:xs[k1]?=none)
  (hE:∀h' e,(∀c o,c≠z->c≠i1->s.heap.get? c=some o->h'.get? c=some o)->(∃o,h'.get? e=some o/\o.cls=.type "StopIteration")->E (.ref e) {s with heap:=h'}):
  wpAny (model prog w) A (Builtin.«zip.__next__» ⟨[.ref z],[]⟩) Q E s:=by
 obtain⟨hp,gn,dr,tk,os⟩:=s;show wpAny _ _ (field (.ref z) 2>>=_) _ _ _;refine a_<|jw hz rfl (x:=.bool false) rfl ?_
 show wpAny _ _ (field (.ref z) 3>>=_) _ _ _;refine a_<|jw hz rfl (x:=.ref TI) rfl ?_
 refine a_<|pU hTI rfl ?_
 show wpAny _ _ (Builtin.SmallTypes.ownedTupleIsFree (.ref z)>>=_) _ _ _;refine a_ (LO hz hf ?_ λh₁ j4 hs₁=>?_)
 ·simp only[if_true];refine a_<|wpAny_rule ?_
  refine a_<|jw hz rfl (x:=.ref TO) rfl ?_
  refine a_ (lj hz (by simp) λh₁ j4 hs₁=>?_)
  replace j4:j0 h₁ z TI TO .ellipsis f1:=j4
  refine a_ ?_;simp only[List.zipIdx_cons,List.zipIdx_nil,List.forIn_cons,List.forIn_nil];refine a_<|a_<|wpAny_onRaise ?_
  show wpAny _ _ (Builtin.SmallTypes.nextOf (.ref i1)>>=_) _ _ _;refine a_ (wpAny_nextOf_list_end hh (h1.extBut hs₁.extBut d1) (hl1.extBut hs₁.extBut d2) hx λh₂ e hs₂ he=>?_);refine aC he λoe Dm hce=>?_;have LW:j0 h₂ z TI TO .ellipsis f1:=hs₂ _ _ d1.symm j4;have fw:e≠z:=λx=>by clear d1 d2 hz hE hs₁ j4;subst x;rw[LW]at Dm;obtain rfl:=aK Dm;simp at hce
  refine lj LW (by simp) λh₃ U iR=>hE h₃ e (λc o c1 c3 x=>iR.extBut _ _ c1 (hs₂ _ _ c3 (hs₁.extBut _ _ c1 x)))<|aA oe (iR.extBut _ _ fw Dm) hce
 ·simp only[Bool.false_eq_true,if_false];refine a_ ?_;refine rL Array.forIn_toList ?_;simp only[List.forIn_cons,List.forIn_nil];refine a_<|a_<|wpAny_holding ?_
  show wpAny _ _ (Builtin.SmallTypes.nextOf (.ref i1)>>=_) _ _ _;refine a_ (wpAny_nextOf_list_end hh (h1.extBut hs₁.extBut d1) (hl1.extBut hs₁.extBut d2) hx λh₂ e hs₂ he=>?_);exact hE h₂ e (λc o c1 c3 x=>hs₂ _ _ c3 (hs₁.extBut _ _ c1 x)) he
theorem fA{z TI TO i1 i2 l1 l2:Addr}{i:Nat}{xs ys:dg}{x y:Value}{Q:cJ}(D:ZipApart z TI TO i1 i2 l1 l2)(Z:ZS z TI TO i1 i2 l1 l2 xs ys i s.heap)(hx:xs[i]?=some x)(hy:ys[i]?=some y)
  (hQ:∀h' T,ZS z TI TO i1 i2 l1 l2 xs ys (i+1) h'->IsPair h' T x y->s.heap.objs.size<=T->(∀c o,c≠z->c≠TO->c≠i1->c≠i2->s.heap.get? c=some o->h'.get? c=some o)->Q (.ref T) {s with heap:=h'}):
  wpAny (model prog w) A (Builtin.SmallTypes.nextOf<|.ref z) Q E s:=by
 obtain⟨_,_,hz,_⟩:=Z.hz;have hT:s.TypeIs (.ref z) "zip":=aA _ hz rfl;unfold Builtin.SmallTypes.nextOf
 exact a_ (tW (name:=Str.ofString "__next__") hT F.slot_zip_next
  (wpAny_call_entry F.slot_zip_next hT F.entry_zip_next
   (ei D Z hx hy λh' T a1 a2 a3 a4=>aA _ rfl (cF<|hQ h' T a1 a2 a3 a4)) (F.args_zip_next_1 _)))
theorem fI{z TI TO i1 i2 l1:Addr}{k1:Nat}{xs:dg}{f0 f1:Value}{Q:cJ}(hh:A.handled=none)(d1:i1≠z)(d2:l1≠z)
  (hz:j0 s.heap z TI TO f0 f1)(hf:f0=.none\/∃t:Nat,f0=rawInt t)(hTI:IsPair s.heap TI (.ref i1)<|.ref i2)
  (h1:s.heap.IsListIter i1 l1 k1)(hl1:s.heap.IsList l1 xs)(hx:xs[k1]?=none)
  (hE:∀h' e,(∀c o,c≠z->c≠i1->s.heap.get? c=some o->h'.get? c=some o)->(∃o,h'.get? e=some o/\o.cls=.type "StopIteration")->E (.ref e) {s with heap:=h'}):
  wpAny (model prog w) A (Builtin.SmallTypes.nextOf<|.ref z) Q E s:=by
 have hT:s.TypeIs (.ref z) "zip":=aA _ hz rfl;unfold Builtin.SmallTypes.nextOf
 exact a_ (tW (name:=Str.ofString "__next__") hT F.slot_zip_next
  (wpAny_call_entry F.slot_zip_next hT F.entry_zip_next (ft hh d1 d2 hz hf hTI h1 hl1 hx hE)<|F.args_zip_next_1 _))
theorem ga{e it:Addr}{i:Int}{old:Value}{Q:cJ}(he:IsEnum s.heap e it i old)
  (hn:∀(A':Around) (K:cJ) (E':cJ),A'.handled=A.handled->(∀x h₁,IsEnum h₁ e it i old->(∀h' T t,IsEnumOut h' e it (i+1) x T->h'.get? T=some {cls:=.type "tuple",data:=.seq #[.int i t,x]}->h₁.objs.size<=T->
   (∀b o,b≠e->h₁.get? b=some o->h'.get? b=some o)->∀tk,Q (.ref T) {s with heap:=h',toks:=tk})->K x {s with heap:=h₁})->wpAny (model prog w) A' (Builtin.SmallTypes.nextOf<|.ref it) K E' s):
  wpAny (model prog w) A (Builtin.«enumerate.__next__» ⟨[.ref e],[]⟩) (λfin s'=>∃v,fin=.done (.ret v)/\Q v s') E s:=by
 obtain⟨hp,g,d,tk,os⟩:=s;show wpAny _ _ (field (.ref e) 2>>=_) _ _ _;refine a_<|jw he rfl (x:=.ref it) rfl ?_
 refine a_ (hn _ _ _ rfl λx h₁ uY hQ=>?_);show wpAny _ _ (field (.ref e) 3>>=_) _ _ ⟨h₁,g,d,tk,os⟩;refine a_<|jw uY rfl (x:=rawInt i) rfl ?_
 show wpAny _ _ (field (.ref e) 4>>=_) _ _ ⟨h₁,g,d,tk,os⟩;refine a_<|jw uY rfl (x:=.none) rfl ?_
 show wpAny _ _ (mkInt i>>=_) _ _ ⟨h₁,g,d,tk,os⟩;refine a_<|wpAny_mkInt ?_
 show wpAny _ _ (setField (.ref e) 3 (rawInt<|i+1)>>=_) _ _ ⟨h₁,g,d,tk+1,os⟩;refine a_ (lj uY (by simp) λh₂ Dn hs₂=>?_)
 replace hs₂:Heap.SameBut e h₁ h₂:=hs₂
 replace Dn:IsEnum h₂ e it (i+1) old:=Dn
 show wpAny _ _ (setField (.ref e) 4 .none>>=_) _ _ ⟨h₂,g,d,tk+1,os⟩;refine a_ (lj Dn (by simp) λh₃ yy iR=>?_)
 replace iR:Heap.SameBut e h₂ h₃:=iR
 replace yy:IsEnum h₃ e it (i+1) old:=yy
 show wpAny _ _ (newTuple [.int i tk,x]>>=_) _ _ ⟨h₃,g,d,tk+1,os⟩;refine a_<|wpAny_newTuple ?_
 have yC:IsEnum (h₃.push {cls:=.type "tuple",data:=.seq #[.int i tk,x]}) e it (i+1) old:=jq _ yy;have LX:(h₃.push {cls:=.type "tuple",data:=.seq #[.int i tk,x]}).get? h₃.objs.size=some {cls:=.type "tuple",data:=.seq #[.int i tk,x]}:=ik _ rfl;have hsz:h₃.objs.size=h₁.objs.size:=by exact rR iR.1<|rR hs₂.1 rfl
 have hel:e<h₃.objs.size:=fJ yy;have uX:∀b o,b≠e->h₁.get? b=some o->(h₃.push {cls:=.type "tuple",data:=.seq #[.int i tk,x]}).get? b=some o:=λb o LY hb=>jq _ (iR.extBut b o LY<|hs₂.extBut b o LY hb);generalize h₃.push {cls:=.type "tuple",data:=.seq #[.int i tk,x]}=h₄ at yC LX uX;show wpAny _ _ (Builtin.SmallTypes.ownedTupleIsFree (.ref e)>>=_) _ _ ⟨h₄,g,d,tk+1,os⟩;refine a_ ?_;unfold Builtin.SmallTypes.ownedTupleIsFree;refine a_<|jw yC rfl (x:=.none) rfl<|cF ?_
 simp only[if_true];refine a_<|wpAny_rule ?_
 refine a_<|jw yC rfl (x:=old) rfl ?_
 refine a_ (lj yC (by simp) λh₅ Dp nM=>?_)
 replace nM:Heap.SameBut e h₄ h₅:=nM
 replace Dp:IsEnum h₅ e it (i+1) x:=Dp
 show wpAny _ _ (Builtin.SmallTypes.ownedTupleHandOut (.ref e) (.ref h₃.objs.size)>>=_) _ _ ⟨h₅,g,d,tk+1,os⟩;refine a_ ?_;unfold Builtin.SmallTypes.ownedTupleHandOut;refine a_ (lj Dp (by simp) λqu Dq sj=>?_)
 replace sj:Heap.SameBut e h₅ qu:=sj
 replace Dq:IsEnumOut qu e it (i+1) x h₃.objs.size:=Dq
 refine lj Dq (by simp) λsD Dr sE=>?_
 replace sE:Heap.SameBut e qu sD:=sE
 replace Dr:IsEnumOut sD e it (i+1) x h₃.objs.size:=Dr
 have up:∀b o,b≠e->h₄.get? b=some o->sD.get? b=some o:=λb o hb q=>sE.extBut _ _ hb (sj.extBut _ _ hb (nM.extBut _ _ hb q));refine a_<|wpAny_letGo<|cF<|aA _ rfl (hQ sD h₃.objs.size tk Dr (up _ _ (Nat.ne_of_gt hel) LX) (cj hsz.symm) (λb o hb q=>up b o hb<|uX b o hb q) _)
set_option tactic.hygienic true in
theorem gd(z TI TO:Addr)(f0:Value):
  Meets (Builtin.«enumerate.__new__» ⟨[.type "enumerate",.ref z],[]⟩) (λU R s=>IsZip s.heap z TI TO f0/\
   R (.ok<|.ret<|.ref s.heap.objs.size)
    {s with heap:=s.heap.push {cls:=.type "enumerate",data:=.fields #[.none,.bool false,.ref z,rawInt 0,.none,.none]}}):=
 .of_wp λprog w A R s h=>by
  obtain⟨hp,g,d,tk,os⟩:=s;(revert h;refine V1 λhl h=>?_);have hsub:=sub_enumerate;have hL:IsZip (Shared.heap ⟨hp,g,d,tk,os⟩) z TI TO f0:=hl
  wp_walk using wd hl
  refine wpAny_stack_any λst=>cF ?_;split
  ·rename_i c _ _ _ _ _;cases (c==Value.type "enumerate")
   ·wp_walk using wd hl,wpAny_pyIter_zip hL
    exact aA _ rfl h
   ·wp_walk using wd hl,wpAny_pyIter_zip hL
    exact aA _ rfl h
  ·wp_walk using wd hl,wpAny_pyIter_zip hL
   exact aA _ rfl h
theorem ge{z TI TO:Addr}{f0:Value}{Q:cJ}(hz:IsZip s.heap z TI TO f0)
  (h:∀h',IsEnum h' s.heap.objs.size z 0 .none->h'.objs.size=s.heap.objs.size+1->(∀b o,s.heap.get? b=some o->h'.get? b=some o)->Q (.ref s.heap.objs.size) {s with heap:=h'}):
  wpAny (model prog w) A (call (.type "enumerate") [.ref z]) Q E s:=by
 refine callType_new F.called_enumerate (by decide) (F.typeCall_enumerate_1 _) (F.newCall_enumerate_1 _) (λobj=>F.args_object_init_2 obj _) F.entry_enumerate_new
  (gd z TI TO f0) ⟨hz,?_⟩
 show _/\_;have he:IsEnum (s.heap.push {cls:=.type "enumerate",data:=.fields #[.none,.bool false,.ref z,rawInt 0,.none,.none]}) s.heap.objs.size z 0 .none:=ik _ rfl;exact⟨aA _ he rfl,h _ he (Heap.size_push ..) λb o x=>jq _ x⟩
end
theorem ZS.keep{z TI TO i1 i2 l1 l2:Addr}{xs ys:dg}{i:Nat}{h h':Heap}(Z:ZS z TI TO i1 i2 l1 l2 xs ys i h)(k:∀c∈[z,TI,TO,i1,i2,l1,l2],∀o,h.get? c=some o->h'.get? c=some o):ZS z TI TO i1 i2 l1 l2 xs ys i h':=
 ⟨let ⟨f0,f1,hz,hf⟩:=Z.hz;⟨f0,f1,k _ (.head _) _ hz,hf⟩,k _ (.tail _ (.head _)) _ Z.hTI,let ⟨a,b,e⟩:=Z.hTO;⟨a,b,k _ (.tail _ (.tail _ (.head _))) _ e⟩,Z.h1.at<|k _ (.tail _ (.tail _ (.tail _ (.head _)))),Z.h2.at<|k _ (.tail _ (.tail _ (.tail _ (.tail _ (.head _))))),
  Z.hl1.at (k _ (.tail _ (.tail _ (.tail _ (.tail _ (.tail _ (.head _))))))),Z.hl2.at<|k _ (.tail _ (.tail _ (.tail _ (.tail _ (.tail _ (.tail _ (.head _)))))))⟩
theorem ZF.get{z TI TO:Addr}{h:Heap}(x:ZF h z TI TO):∃o,h.get? z=some o:=let ⟨_,_,e,_⟩:=x;⟨_,e⟩
theorem uV.get{T:Addr}{h:Heap}(x:uV h T):∃o,h.get? T=some o:=let ⟨_,_,e⟩:=x;⟨_,e⟩
inductive yD (h:Heap)(e z:Addr)(i:Nat):Prop
 |mk (old:Value) (he:IsEnum h e z i old):yD h e z i
inductive Ds (h:Heap)(e z:Addr)(i:Nat)(v:Value):Prop
 |mk (T:Addr) (x:Value) (ev:v=.ref T) (he:IsEnumOut h e z ((i:Int)+1) x T):Ds h e z i v
inductive Dt (xs ys:dg)(i:Nat)(v:Value)(h h':Heap):Prop
 |mk (T S:Addr) (t:Tok) (x y:Value) (e:v=.ref T) (hx:xs[i]?=some x) (hy:ys[i]?=some y) (hS:h.objs.size<=S) (tS:h'.IsTuple S #[x,y]) (hT:h.objs.size<=T) (tT:h'.IsTuple T #[.int i t,.ref S]):Dt xs ys i v h h'
section
variable {X:Cx}{A:Around}{elts:bL}{k:Nat}{pos:Pos}{e z TI TO i1 i2 l1 l2:Addr}{xs ys:dg}{i:Nat}{s:Shared}{E:cJ}
theorem gl{Q:Option Value->Shared->Prop}(D:ZipApart z TI TO i1 i2 l1 l2)(De:∀c∈[z,TI,TO,i1,i2,l1,l2],c≠e)(hsz:xs.size=ys.size)(hi:i<xs.size)(he:yD s.heap e z i)(Z:ZS z TI TO i1 i2 l1 l2 xs ys i s.heap)
  (hQ:∀v h' tk,Ds h' e z i v->ZS z TI TO i1 i2 l1 l2 xs ys (i+1) h'->Dt xs ys i v s.heap h'->(∀b o,b∉[e,z,TO,i1,i2]->s.heap.get? b=some o->h'.get? b=some o)->Q (some v) {s with heap:=h',toks:=tk}):wpAny (model X.prog X.w) A (pyNext<|.ref e) Q E s:=by
 obtain⟨old,he⟩:=he;have hx:xs[i]?=some xs[i]:=Array.getElem?_eq_getElem hi;have hi2:i<ys.size:=hsz▸hi;have hy:ys[i]?=some ys[i]:=Array.getElem?_eq_getElem hi2;generalize xs[i]=x at hx;generalize ys[i]=y at hy;have hT:s.TypeIs (.ref e) "enumerate":=aA _ he rfl;unfold pyNext
 refine a_ (wpAny_attempt (tW (name:=Str.ofString "__next__") hT F.slot_enumerate_next
  (wpAny_call_entry F.slot_enumerate_next hT F.entry_enumerate_next (ga (Q:=λv s'=>wpAny _ _ _ _ _ s') he λA' K E' U hK=>?_)<|F.args_enumerate_next_1 _)))
 refine fA D Z hx hy λh₁ S gt a5 a6 a7=>?_;have k:∀b o,b∉[e,z,TO,i1,i2]->s.heap.get? b=some o->h₁.get? b=some o:=λb o hb q=>by simp only[List.mem_cons,List.not_mem_nil,or_false,not_or]at hb;exact a7 b o hb.2.1 hb.2.2.1 hb.2.2.2.1 hb.2.2.2.2 q
 have s1:S≠e:=λq=>absurd (fJ he)<|Nat.not_lt.mpr<|q▸a6
 have hlt:=eR a6<|Nat.le_of_lt<|fJ a5
 have uY:=a7 _ _ (De z<|.head _).symm (De TO<|.tail _ (.tail _ (.head _))).symm (De i1<|.tail _ (.tail _ (.tail _ (.head _)))).symm (De i2<|.tail _ (.tail _ (.tail _ (.tail _ (.head _))))).symm he;refine hK (.ref S) h₁ uY λh' T t hout gL hle hk tk=>?_
 exact cF (hQ (.ref T) h' tk ⟨T,.ref S,rfl,hout⟩ (gt.keep λc hc o q=>hk c o (De c hc) q)
  ⟨T,S,t,x,y,rfl,hx,hy,a6,t7 _ (hk _ _ s1 a5) rfl _ rfl,eR hlt hle,t7 _ gL rfl _ rfl⟩ λc o hc q=>hk c o (λq=>hc<|q▸.head _)<|k c o hc q)
theorem gN{Q:Option Value->Shared->Prop}(hh:A.handled=none)(D:ZipApart z TI TO i1 i2 l1 l2)(he:yD s.heap e z xs.size)(Z:ZS z TI TO i1 i2 l1 l2 xs ys xs.size s.heap)
  (hQ:∀h' tk,(∀b o,b∉[e,z,TO,i1,i2]->s.heap.get? b=some o->h'.get? b=some o)->Q none {s with heap:=h',toks:=tk}):wpAny (model X.prog X.w) A (pyNext<|.ref e) Q E s:=by
 obtain⟨old,he⟩:=he;obtain⟨f0,f1,hz,hf⟩:=Z.hz;have hT:s.TypeIs (.ref e) "enumerate":=aA _ he rfl;unfold pyNext
 refine a_ (wpAny_attempt (tW (name:=Str.ofString "__next__") hT F.slot_enumerate_next
  (wpAny_call_entry F.slot_enumerate_next hT F.entry_enumerate_next ?_<|F.args_enumerate_next_1 _)))
 show wpAny _ _ (field (.ref e) 2>>=_) _ _ _;refine a_<|jw he rfl (x:=.ref z) rfl ?_
 refine a_ (fI hh D.i1z D.l1z hz hf Z.hTI Z.h1 Z.hl1 (Array.getElem?_eq_none<|bY _) λh' ex hk hex=>?_);refine aC hex λo ho hc=>?_;refine a_<|wpAny_isInstance (T:="StopIteration") (b:=true) (aA o ho hc) isSubtype_stop ?_
 exact cF (hQ _ _ λc o hc q=>hk c o (λq'=>hc<|q'▸.tail _ (.head _)) (λq'=>hc<|q'▸.tail _ (.tail _ (.tail _ (.head _)))) q)
theorem Tn.hY(hh:A.handled=none)(D:ZipApart z TI TO i1 i2 l1 l2)(De:∀c∈[z,TI,TO,i1,i2,l1,l2],c≠e)(hsz:xs.size=ys.size):
  Tn X A (.Tuple elts k pos) e [e,z,TI,TO,i1,i2,l1,l2] [e,z,TO,i1,i2] xs.size (Dt xs ys) (λi v h=>Ds h e z i v/\ZS z TI TO i1 i2 l1 l2 xs ys (i+1) h) (λi h=>yD h e z i/\ZS z TI TO i1 i2 l1 l2 xs ys i h) where
 sub:=mc (.head _) (mc (.tail _ (.head _))<|mc (.tail _ (.tail _ (.tail _ (.head _))))<|mc (.tail _ (.tail _ (.tail _ (.tail _ (.head _)))))<|mc (.tail _ (.tail _ (.tail _ (.tail _ (.tail _ (.head _)))))) mz)
 frame:=λi h h' st hk=>⟨let ⟨old,he⟩:=st.1;⟨old,hk e (.head _) _ he⟩,st.2.keep λc hc=>hk c<|.tail _ hc⟩
 live:=λi h st=>mc (let ⟨old,he⟩:=st.1;⟨_,he⟩) (mc st.2.hz.get<|mc ⟨_,st.2.hTI⟩<|mc st.2.hTO.get<|mc (lD st.2.h1)<|mc (lD st.2.h2)<|mc (p8 st.2.hl1)<|mc (p8 st.2.hl2) mz)
 r7:=λi v h hm=>mc (let ⟨_,_,_,he⟩:=hm.1;⟨_,he⟩) (mc hm.2.hz.get<|mc hm.2.hTO.get<|mc (lD hm.2.h1)<|mc (lD hm.2.h2) mz)
 item:=λi s Q E hi st hQ=>gl D De hsz hi st.1 st.2 λv h' tk a b c d=>hQ v h' tk ⟨a,b⟩ c d
 go:=λi v s Q E hm hQ=>by refine U1 hm λaM Z=>?_;clear hm;obtain⟨T,x,rfl,he⟩:=aM;exact wpAny_letOwnedTupleGo_enum he λh' he' hs'=>hQ h' ⟨⟨x,by simpa using he'⟩,Z.keep λc hc o q=>(hs'.2 c<|De c hc).trans q⟩ λc o hc q=>(hs'.2 c λq'=>hc<|q'▸.head _).trans q
 done:=λs Q E st hQ=>gN hh D st.1 st.2 hQ
 self:=λi s Q E st hQ=>by refine U1 st λaP U=>?_;obtain⟨old,he⟩:=aP;exact wpAny_pyIter_enum he hQ
end
section
variable {X:Cx}{d:Nat}{aa:Env}{ai:b5}{ae:bF}{H:ak}
theorem hZ{n e a b:Nat}(he:e=n+5)(ha:a<n)(hb:b<n):∀c∈[n+4,n+2,n+3,n,n+1,a,b],@Ne Nat c e:=by subst he;exact mc Qp<|mc Qq<|mc Qs<|mc Qt<|mc Qu<|mc (FU ha)<|mc (FU hb) mz
theorem ib{A:Around}{cf aS:Cf}{s s₁:Shared}{P:au->ak->Prop}{elts:bL}{k:Nat}{tpos:Pos}{t₂:Nat}{e z TI TO i1 i2 a b:Addr}{xs ys:dg}{l r:au}{h'':Heap}(hh:A.handled=none)(D:ZipApart z TI TO i1 i2 a b)(De:∀c∈[z,TI,TO,i1,i2,a,b],c≠e)(fr:∀b∈[e,z,TI,TO,i1,i2],s₁.heap.objs.size<=b)
  (he:IsEnum h'' e z 0 .none)(Z:ZS z TI TO i1 i2 a b xs ys 0 h'')(e1:xs.size=l.length)(e2:ys.size=r.length)(hlen:l.length=r.length)(ea:∃o,s₁.heap.get? a=some o)(qp:¬aS.O a)(eb:∃o,s₁.heap.get? b=some o)(qq:¬aS.O b)
  (hz1:xs.size<=2^20)(st:Step cf s aS s₁)(S:aU X aS s₁.heap)(g:c5 s₁.heap h'')(r1:aO X aS s₁.heap l xs.toList)(r2:aO X aS s₁.heap r ys.toList)(q:P (dU<|gZ l r) aS.H):nH X A (.Tuple elts k tpos) cf s P (.ref e) {s₁ with heap:=h'',toks:=t₂}:=
 yd [e,z,TI,TO,i1,i2] [a,b] (Tn.hY hh D De<|e1.trans<|hlen.trans e2.symm) (mc (.head _)<|mc (.tail _ (.head _))<|mc (.tail _ (.tail _ (.tail _ (.head _))))<|mc (.tail _ (.tail _ (.tail _ (.tail _ (.head _)))))<|mc (.tail _ (.tail _ (.tail _ (.tail _ (.tail _ (.head _)))))) mz) fr
  (mc ⟨ea,qp⟩<|mc ⟨eb,qq⟩ mz) hz1 ⟨by simp[dU,gZ,e1,hlen],λi cf h h' v rr live K it=>by
   obtain⟨T,S,t,x,y,rfl,hx,hy,hS,ii,hT,ij⟩:=it;refine aC (J5 rr e1 hx) λp hp rp=>?_;refine aC (J6 rr e1 hy) λp' lB rp'=>?_
   exact(aA _ (J3<|J4 hp lB) (yg live hT ij gm<|yg live hS ii (rp.mono K)<|rp'.mono K))⟩ st S g ⟨⟨_,he⟩,Z⟩ (r1.append r2) q
theorem il{elts:bL}{k:Nat}{tpos p pos p2 pos2:Pos}{args:bL}{P:au->ak->Prop}(T:eK X)(e1:gp X "enumerate"<|.type "enumerate")(e2:gp X "zip"<|.type "zip")
  (io:aa.kindOf (Sx "enumerate")=some .globalImplicit)(LZ:aa.kindOf (Sx "zip")=some .globalImplicit)(h2:args.all notStar=true)
  (h:fM X d aa ai ae args H (λvs H'=>∃l r,vs=[.l l,.l r]/\l.length=r.length/\P (dU<|gZ l r) H')):
  jY X d aa ai ae (.Tuple elts k tpos) (.Call (.Name (Sx "enumerate") p) [.Call (.Name (Sx "zip") p2) args [] pos2] [] pos) H P:=λA cf s E hA hH S R=>by
 rw[arm_eval_Call_Name'];refine a_<|uC T e1 io (by decide) S R ?_
 show wpAny _ A (callWith pos (.type "enumerate") [] (backTo pos<|starEach [.Call (.Name (Sx "zip") p2) args [] pos2] aa) []) _ E s;refine mq (P:=λU=>True) (by rfl) (λh U=>B7 h trivial) ?_;rw[rG<|by rfl];refine Calls.spliced_cons ?_;refine ye T e2 (.inr ⟨_,rfl⟩) LZ (by decide) h2 h hA hH S R λaS s₁ vs ps st S₁ cI rs q=>?_;revert q;refine Ff λl r aN hlen q=>?_;subst aN;refine d_ (xM rs) λv u aQ r1 r2=>?_;subst aQ;refine tX (uO r1) λa xs aR qp qm s1 hz1 nF ea=>?_;clear r1;clear rs;subst aR;refine tX (uO r2) λb ys aT qq qo s2 hz2 rQ eb=>?_;clear r2;subst aT;have l1:=fJ ea.choose_spec;have l2:=fJ eb.choose_spec;refine call_zip_2 qm qo λh' hz hTI hTO hi1 hi2 hsz hk=>?_;refine Calls.spliced_nil ⟨trivial,?_⟩;refine ge hz λh'' he hsz2 hk2=>?_;have up:∀c o,s₁.heap.get? c=some o->h''.get? c=some o:=λc o q=>hk2 c o<|hk c o q
 exact wpAny_pyIter_enum he (ib (s₁:=s₁) (t₂:=s₁.toks) hA.hh (ktu_apart _ _ _ l1 l2) (hZ hsz l1 l2) (mc (by refine rR hsz ?_;exact jt _ _)<|J8 _) he
  ⟨⟨_,_,hk2 _ _ hz,.inl rfl⟩,hk2 _ _ hTI,⟨_,_,hk2 _ _ hTO⟩,hi1.at λo e=>hk2 _ o e,hi2.at λo e=>hk2 _ o e,qm.at λo e=>up a o e,qo.at λo e=>up b o e⟩ s1 s2 hlen ea qp eb qq hz1 st S₁ up nF rQ q)
end
end
section
theorem L0{iter:Expr}(h:C9 iter=true)(aa:Env)(x:Value):foldedSetIterable iter aa x=pure x:=by
 induction iter using Expr.casesOn<;>first|rfl|exact nB h
theorem Du{aa:Env}{lc:Bool}{y:PySem.Str}(h:kindB aa.scope.names lc y=true):aa.kindOf y=some .local\/(lc=true/\aa.kindOf y=some .cell):=by
 unfold kindB at h;rcases qV.mp h with h|h
 ·exact .inl<|cG h
 ·rw[cy]at h;exact .inr ⟨h.1,cG h.2⟩
section
variable {G:Addr->Prop}{aa:Env}{ai:b5}{lc:Bool}
theorem Dv(hG:∀x,aa.kindOf (Sx x)=some .local\/(lc=true/\aa.kindOf (Sx x)=some .cell)->kN aa G x):∀{is:aG}{es:bL},yr aa.scope.names ai lc is es=true->∃xs,jW G ai aa es is xs/\es=(es.zip xs).map (λp=>match p.1 with|.Name _ pos=>Expr.Name (Sx p.2) pos|e=>e)/\xs.length=es.length
 |[],[],_=>cM [] .nil rfl rfl
 |i::is,e::es,h=>by refine U1 (band h) λh1 h2=>?_;refine qf e h1 λy pos h1=>?_;refine U1 (band h1) λh0 h1=>?_;refine c_ (yv h0) λx hx aL U=>?_;clear h0;subst aL;refine c_ (Dv hG h2) λxs r e1 e2=>?_;have hk:=Du h1;exact cM (x::xs) (.cons hx (hk.imp id (·.2)) (hG x hk) r) (by simp only[List.zip_cons_cons,List.map_cons];exact rL e1 rfl)<|by exact rR i4<|rR i4<|rR e2 rfl
 |[],_::_,h=>nomatch (h:false=true)
 |_::_,[],h=>nomatch (h:false=true)
theorem L1(hG:∀x,aa.kindOf (Sx x)=some .local\/(lc=true/\aa.kindOf (Sx x)=some .cell)->kN aa G x){tp:Bool}{is:aG}{e:Expr}(h:C_ aa.scope.names ai lc tp is e=true):mG G ai aa tp is e:=by
 induction tp using cP with
 |false=>
  refine iz is h λi h=>?_;refine qf e h λy p h=>?_;refine U1 (band h) λh0 h1=>?_;refine c_ (yv h0) λx hx aM U=>?_;clear h h0;subst aM;have hk:=Du h1;exact .name hx (hk.imp id (·.2))<|hG x hk
 |true=>
  refine Ck e h λes k p h=>?_;refine aC (Dv hG h) λxs r U=>?_;exact .tup r
end
theorem L2{ai:b5}(h:(ai.filterMap id).Nodup):d8 ai:=by
 intro i j x hi hj
 induction ai generalizing i j with
 |nil=>simp at hi
 |cons a t ih=>
  have ht:(t.filterMap id).Nodup:=by
   induction a using e9 with
   |none=>simpa using h
   |some y=>rw[lg]at h;exact(kC.mp h).2
  have mem:∀k:Nat,t[k]?=some (some x)->x∈t.filterMap id:=λk hk=>List.mem_filterMap.mpr<|aA (some x) (dY hk) rfl
  induction i using gD with
  |zero=>
   induction j using gD with
   |zero=>rfl
   |succ j=>
    simp only[List.getElem?_cons_zero,Option.some.injEq]at hi;subst hi;rw[lg]at h;exact absurd (mem j<|by simpa using hj) (kC.mp h).1
  |succ i=>
   induction j using gD with
   |zero=>
    simp only[List.getElem?_cons_zero,Option.some.injEq]at hj;subst hj;rw[lg]at h;exact absurd (mem i<|by simpa using hi) (kC.mp h).1
   |succ j=>exact rR (ih ht i j (by simpa using hi)<|by simpa using hj) rfl
theorem ip{ai:b5}(h:Lx ai=true):d8 ai:=L2<|cG h
section
variable {X:Cx}{d:Nat}{Γ:b7}{aa:Env}{ai:b5}{ae:bF}{H:ak}
set_option tactic.hygienic true in
theorem iv{k:IK}{vs items:au}(h:fb k vs=some items):(k=.z->∃l r,vs=[.l l,.l r]/\items=gZ l r)/\(k=.n->∃l r,vs=[.l l,.l r]/\l.length=r.length/\items=dU (gZ l r))/\
  (k=.e->∃l,vs=[.l l]/\items=dU l)/\(k=.v->∃v,vs=[v]/\Al v=some items):=by
 induction k using IK.casesOn with
 |v=>exact xm vs h λv h=>⟨nofun,nofun,nofun,λU=>aA _ rfl h⟩
 |r=>exact⟨nofun,nofun,nofun,nofun⟩
 |e=>exact xm vs h λv h=>um v h λl h=>⟨nofun,nofun,λU=>aA _ rfl ((aK h).symm),nofun⟩
 |z=>exact Ao vs h λv w h=>um v h λl h=>um w h λr h=>⟨λU=>gR _ _ rfl ((aK h).symm),nofun,nofun,nofun⟩
 |n=>
  refine Ao vs h λv w h=>?_;refine um v h λl h=>?_;refine um w h λr h=>?_;split at h
  ·rename_i e;exact⟨nofun,λU=>fg _ _ rfl e ((aK h).symm),nofun,nofun⟩
  ·exact nN h
theorem L3(Gd:eA X){bZ:List CE}(hg:∀c∈bZ,bJ X d Γ c)(hk:aa.scope.kind=.function)(hN:d8 ai)(hl:ae.length=ai.length){k:IK}{tp:Bool}{target iter:Expr}{q:au×ak}{items:au}
  (hT:tp=true->∃elts kk pos,target=.Tuple elts kk pos)(hm:yu (fY bZ aa.scope.names ai) k aa.scope.names tp iter=true)(hq:cX Γ bZ ae H=some q)(hi:fb k q.1=some items){P:au->ak->Prop}(hP:P items q.2):
  jY X d aa ai ae target iter H P:=by
 unfold yu at hm;rw[cy]at hm;revert hm;refine V1 λms hm=>?_;refine U3 (iv hi) λz1 z2 z3 z4=>?_
 induction k using IK.casesOn with
 |v=>
  dsimp only at hm;refine U3 (jZ hg hk hN hl hm hq) λg1 g2 g3 g4=>?_;obtain⟨c,rfl⟩:∃c,bZ=[c]:=List.length_eq_one_iff.mp<|by refine rL g4 ?_;rfl
  refine aC (LJ hq) λx hx aP=>?_;clear hi z1 z2 z3 g1 hq g2;subst aP;refine aC (z4 rfl) λv e hv=>?_;simp only[List.cons.injEq,and_true]at e;subst e;simp only[fY,Bool.and_eq_true]at hm;exact Y4<|(hg c cR aa ai ae iter H x hk hN hl hm.1.2 hx).pin<|aA items hv hP
 |r=>
  dsimp only at hm;refine oU iter hm λy py args pos hm=>?_;rw[cy]at hm;refine U2 (mK hm.1) λaN h2 h3=>?_;subst aN;refine U3 (jZ hg hk hN hl hm.2 hq) λg1 g2 g3 g4=>?_;exact Y7 Gd.T Gd.am h2 h3 g3<|g1.pin<|aA items hi hP
 |e=>
  dsimp only at hm;rw[cy]at hm;revert hm;refine V1 λht hm=>?_;refine X3 (hT ht) λelts kk tpos aQ=>?_;clear hT;subst aQ;refine oU iter hm λy py args pos hm=>?_;rw[cy]at hm;refine U2 (mK hm.1) λaR h2 h3=>?_;subst aR;refine U3 (jZ hg hk hN hl hm.2 hq) λg1 g2 g3 g4=>?_;refine aC (z3 rfl) λl e aT=>?_;clear hi z1 z2 z3 z4;subst aT;exact Y_ Gd.T Gd.LB h2 h3 g3<|g1.pin<|aA l e hP
 |z=>
  dsimp only at hm;rw[cy]at hm;revert hm;refine V1 λht hm=>?_;refine X3 (hT ht) λelts kk tpos aL=>?_;clear hT;subst aL;refine oU iter hm λy py args pos hm=>?_;rw[cy]at hm;refine U2 (mK hm.1) λaM h2 h3=>?_;subst aM;refine U3 (jZ hg hk hN hl hm.2 hq) λg1 g2 g3 g4=>?_;refine gG (z1 rfl) λl r e aP=>?_;clear hi z1 z2 z3 z4;subst aP;exact Za Gd.T Gd.LC h2 h3 g3<|g1.pin<|gR l r e hP
 |n=>
  dsimp only at hm;rw[cy]at hm;revert hm;refine V1 λht hm=>?_;refine X3 (hT ht) λelts kk tpos aN=>?_;clear hT;subst aN;refine oU iter hm λy py l pos hm=>?_;refine iz l hm λc hm=>?_;refine oU c hm λz pz args pos2 hm=>?_;rw[cy,cy]at hm;refine U2 (mK hm.1.1) λaQ h2 h3=>?_;subst aQ;refine U2 (mK hm.1.2) λaR h4 h5=>?_;subst aR;refine U3 (jZ hg hk hN hl hm.2 hq) λg1 g2 g3 g4=>?_;refine d_ (z2 rfl) λl r e hlen aT=>?_;clear hi z1 z2 z3 z4;subst aT;exact il Gd.T Gd.LB Gd.LC h2 h4 g3<|g1.pin<|fg l r e hlen hP
theorem ix{cond:List CE}(hg:∀c∈cond,gA X d Γ c):∀{l:bL}{H:ak}{b:Bool}{h':ak},aa.scope.kind=.function->d8 ai->ae.length=ai.length->fY cond aa.scope.names ai l=true->jz Γ true cond ae H=some (.b b,h')->
  qs X d aa ai ae l H (λq h=>q=b/\h=h'):=by
 induction cond with
 |nil=>
  intro l H b h' hk hN hl hm hr;have:l=[]:=lh.mp hm;clear hm;subst this;have hr:=jv<|aK hr
  exact⟨PV.b.inj hr.1,hr.2⟩
 |cons c es ih=>
  intro l H b h' hk hN hl hm hr;revert hm;refineλh0=>gG (uS h0) λx t nK hm=>?_;clear h0;subst nK
  ·skip
   rw[cy,cy]at hm;refine i_ hr λp hH hp hr=>?_;refine bG hr λc' hb hr=>?_;obtain rfl:=mL hb;refine(hg c cR aa ai ae x H c' hH hk hN hl hm.1.2 hp).pin ⟨λe=>?_,λe=>?_⟩
   ·rw[bw e]at hr;exact ih (λc hc=>hg c<|dh _ hc) hk hN hl hm.2 hr
   ·rw[bO<|by refine rR e ?_;decide]at hr;simp only[Option.some.injEq,Prod.mk.injEq,PV.b.injEq]at hr;rw[e]at hr;exact hr
set_option tactic.hygienic true in
theorem i'{tp:Bool}{n:Nat}{x:PV}{own:bF}(hk:tp=false->n=1)(h:iK tp n x=some own):own.length=n:=by
 unfold iK at h
 induction tp using cP with
 |true=>
  simp only[if_true]at h;split at h
  ·split at h
   ·rename_i e;have h:=aK h;subst h;rw[bI];exact e
   ·exact nN h
  ·exact nN h
 |false=>
  simp only[Bool.false_eq_true,if_false]at h;have h:=aK h;subst h;refine rR (hk rfl) ?_;rfl
theorem qs.mono{ifs:bL}:∀{H:ak}{Q Q':Bool->ak->Prop},qs X d aa ai ae ifs H Q->(∀b h,Q b h->Q' b h)->qs X d aa ai ae ifs H Q':=by
 induction ifs with
 |nil=>intro H Q Q' h m;exact m _ _ h
 |cons c cs ih=>
  intro H Q Q' h m;exact AT.mono h λb h' z=>⟨λe=>ih (z.1 e) m,λe=>m _ _ (z.2 e)⟩
theorem Dw{elt:CE}{cond:List CE}(he:bJ X d Γ elt)(hc:∀c∈cond,gA X d Γ c){tp:Bool}{n:Nat}(hn:tp=false->n=1)(hk:aa.scope.kind=.function)(hN:d8 ai)(hl:ai.length=ae.length+n){elt':Expr}{ifs:bL}
  (m1:mE elt aa.scope.names ai elt'=true)(m2:fY cond aa.scope.names ai ifs=true){Q:au->ak->Prop}:∀{items:au}{H:ak}{q:au×ak}{acc:au},
  jT (λx h=>(iK tp n x).bind λown=>(jz Γ true cond (ae++own) h).bind λc=>(truth c.1).bind λb=>
    if b then(az Γ elt (ae++own) c.2).map λv=>(some v.1,v.2)else some (none,c.2)) items H=some q->Q (acc++q.1) q.2->oY X d aa ai ae tp n ifs elt' Q items acc H
 |[],H,q,acc,h,hQ=>by obtain rfl:=aK h;show Q acc H;exact(pM acc)▸hQ
 |x::r,H,q,acc,h,hQ=>by
  refine bG h λp hp h=>?_;refine gY h λq2 hq2 er=>?_;clear h;subst er;refine bG hp λown ho hp=>?_;refine i_ hp λc hH L4 hp=>?_;refine bG hp λb hb hp=>?_;obtain rfl:=mL hb;have hlen:(ae++own).length=ai.length:=by exact rR gF<|rR (i' hn ho)<|rR hl rfl
  refine aA own ho ((ix hc hk hN hlen m2 L4).mono λb' h' z=>?_);refine U1 z λaL aM=>?_;clear L4 hb z;subst aL;subst aM;refine⟨λe=>?_,λe=>?_⟩
  ·rw[bw e]at hp;refine gY hp λv hv er=>?_;clear h hp;clear hp;subst er;refine(he aa ai (ae++own) elt' h' v hk hN hlen m1 hv).pin<|Dw he hc hn hk hN hl m1 m2 hq2 ?_
   simpa using hQ
  ·rw[bO<|by refine rR e ?_;decide]at hp;have hp:=aK hp;clear h;subst hp;exact Dw he hc hn hk hN hl m1 m2 hq2<|by simpa using hQ
theorem Dy{scope:Scope}{C:Addr}{cl:List<|PySem.Str×Addr}(hk:aa.scope.kind=.function):(compEnvC scope cl C aa).scope.names=yt aa.scope.names scope.names:=by show(scope.names.map _)=(scope.names.map _);refine m9 λy U=>?_;obtain⟨n,k⟩:=y;show(if(k==NameKind.free&&aa.scope.kind==.function&&aa.kindOf n==some .cell)=true then _ else _)=(if(k==NameKind.free&&aa.scope.names.lookup n==some NameKind.cell)=true then _ else _);refine rR hk ?_;show(if(k==NameKind.free&&true&&aa.kindOf n==some .cell)=true then _ else _)=_;rw[Bool.and_true];rfl
theorem jp{scope:Scope}(h:Dc aa.scope.names scope=true):oZ scope aa:=by
 unfold Dc at h;rw[cy,cy]at h;refine U1 h λaP h3=>?_;revert aP;refine V1 λh1 h2=>?_;rw[gj]at h2;refine⟨cG h1,λy hy=>?_,λy hy e=>?_,λy hy e=>?_,cG h3⟩
 ·have:=h2 y hy;simp only[Bool.and_eq_true,decide_eq_true_iff]at this;exact this.1.1
 ·have:=h2 y hy;simp only[Bool.and_eq_true,Bool.or_eq_true,decide_eq_true_iff]at this;exact this.1.2.resolve_left λq=>q e
 ·have:=h2 y hy;simp only[Bool.and_eq_true,Bool.or_eq_true,decide_eq_true_iff]at this;exact this.2.resolve_left λq=>q e
theorem j'{scope:Scope}{cl:List<|PySem.Str×Addr}{C:Addr}(x:String)(h:(compEnvC scope cl C aa).kindOf (Sx x)=some .local\/(false=true/\(compEnvC scope cl C aa).kindOf (Sx x)=some .cell)):kN (compEnvC scope cl C aa) (λb=>b=C) x:=by
 rcases h with h|⟨h,_⟩
 ·exact⟨λb hb=>.inl hb,λU=>rfl,λe=>by rw[h]at e;cases e⟩
 ·exact nB h
theorem L5(Gd:eA X){elt:CE}{tp:Bool}{tn:aY}{k:IK}{bZ cond:List CE}(he:bJ X d Γ elt)(hi:∀c∈bZ,bJ X d Γ c)(hc:∀c∈cond,gA X d Γ c){elt' target iter:Expr}{ifs:bL}{ia:Int}{scope:Scope}{pos:Pos}{r:PV×ak}
  (hk:aa.scope.kind=.function)(hN:d8 ai)(hl:ae.length=ai.length)(hm:mE (.D elt tp tn k bZ cond) aa.scope.names ai (.ListComp elt' [⟨target,iter,ifs,ia⟩] scope pos)=true)(hr:az Γ (.D elt tp tn k bZ cond) ae H=some r):
  ia=0/\oZ scope aa/\(tp=false->tn.length=1)/\d8 (fQ scope ai++tn.map some)/\(∀x,foldedSetIterable iter aa x=pure x)/\
  (∀(cl:List<|PySem.Str×Addr) C,mG (λb=>b=C) (fQ scope ai++tn.map some) (compEnvC scope cl C aa) tp (List.range' ae.length tn.length) target)/\
  ∀{Q:au->ak->Prop},(∀l,r.1=.l l->Q l r.2)->jY X d aa ai ae target iter H (λitems H'=>∀(cl:List<|PySem.Str×Addr) C,oY X d (compEnvC scope cl C aa) (fQ scope ai++tn.map some) ae tp tn.length ifs elt' Q items [] H'):=by
 refine U1 (band hm) λhm m7=>?_;refine U1 (band hm) λhm m6=>?_;refine U1 (band hm) λhm m5=>?_;refine U1 (band hm) λhm m4=>?_;refine U1 (band hm) λhm m3=>?_;refine U1 (band hm) λhm m2=>?_;refine U1 (band hm) λm0 m1=>?_;have m0:=cG m0;have K:=jp m1;have hn:tp=false->tn.length=1:=λe=>by clear hr m5 m4;subst e;exact cG m2
 have sF:=ip m3;have ht:∀(cl:List<|PySem.Str×Addr) C,mG (λb=>b=C) (fQ scope ai++tn.map some) (compEnvC scope cl C aa) tp (List.range' ae.length tn.length) target:=λcl C=>by rw[<-hl,<-Dy (cl:=cl) (C:=C) hk]at m4;exact L1 (λx hx=>j' x hx) m4
 have ms:C9 iter=true:=(band m5).1;refine⟨m0,K,hn,sF,L0 ms aa,ht,λ{Q} hQ=>?_⟩;refine bG hr λq hq hr=>?_;refine bG hr λitems hit hr=>?_;refine gY hr λq2 hq2 er=>?_;clear hr;clear hr;subst er;refine L3 Gd hi hk hN hl (λe=>?_) m5 hq hit λcl C=>?_
 ·have:=ht [] 0;rw[e]at this;cases this with
  |tup h=>exact I3 _ _ _ rfl
 ·refine Dw he hc hn K.kind sF ?_ ?_ ?_ hq2<|hQ _ rfl
  ·(refine rR gF ?_;rewrite[bI]);unfold fQ;(rewrite[bI];exact rR hl rfl)
  ·refine rR (Dy hk) ?_;exact m6
  ·refine rR (Dy hk) ?_;exact m7
theorem ka(Gd:eA X){elt:CE}{tp:Bool}{tn:aY}{k:IK}{bZ cond:List CE}(he:bJ X d Γ elt)(hi:∀c∈bZ,bJ X d Γ c)(hc:∀c∈cond,gA X d Γ c):bJ X d Γ (.D elt tp tn k bZ cond):=λaa ai ae e H r hk hN hl hm hr=>by have hm':=hm;revert hm;refine JA e hm' λelt' g scope pos hm'=>?_;refine iz g hm' λg U hm=>?_;obtain⟨target,iter,ifs,ia⟩:=g;refine U6 (L5 Gd he hi hc hk hN hl hm hr) λaN K hn sF hs ht hA=>?_;clear hm;subst aN;exact Zv K hl hn rfl sF hs ht (hA λl e=>⟨e.symm,rfl⟩)
end
end
section
section
variable {X:Cx}{d:Nat}{Γ:b7}
noncomputable def L6:CE->Nat
 |.c _=>19
 |.v _=>23
 |.g ..=>23
 |.t _=>25
 |.l _=>24
 |.e _=>24
 |.b ..=>2
 |.n _=>3
 |.o _=>3
 |.m ..=>15
 |.p ..=>15
 |.a ..=>0
 |.i ..=>5
 |.d ..=>21
 |.s ..=>21
 |.r _=>21
 |.f ..=>20
 |.z _=>2
 |.A=>6
 |.B=>6
 |.C ..=>6
 |.D ..=>8
 |.h ..=>16
 |.j ..=>16
 |.k ..=>16
 |.q ..=>16
 |.x ..=>16
 |.u _=>16
 |.w ..=>16
 |.y ..=>16
theorem L7{c:CE}{sc:Sn}{ai:b5}{e:Expr}(h:mE c sc ai e=true):e.ctorIdx=L6 c:=by
 induction c using CE.casesOn<;>first|exact XT h|exact XM h|exact XN h|exact XS h|exact XX h|exact XY h|exact XU h|exact X0 h|exact XZ h|exact XK h|exact XO h|exact XW h|exact XQ h|exact XR h
noncomputable def L8(k:Nat):Bool:=!(k.beq 0||k.beq 3||k.beq 5||k.beq 15)
theorem kf{e:Expr}{aa:Env}(h:L8 e.ctorIdx=true):PySem.isTrue e aa (eval e aa)=(do let v<-eval e aa;standAt e.pos;holding [v] (truthy v)):=by
 induction e using Expr.casesOn<;>first|rfl|exact nB h
theorem kl{e:Expr}(h:(e.ctorIdx.beq 8||e.ctorIdx.beq 9||e.ctorIdx.beq 10)=false):r6 e=true:=by
 induction e using Expr.casesOn<;>first|rfl|exact tB h
theorem fR{c:CE}(h:bJ X d Γ c)(hp:L8 (L6 c)=true):bJ X d Γ c/\gA X d Γ c:=
 ⟨h,λaa ai ae e H b h' hk hN hl hm hr=>Jo (kf<|by refine rR (L7 hm) ?_;exact hp)<|(h aa ai ae e H (.b b,h') hk hN hl hm hr).pin<|cM b rfl rfl rfl⟩
theorem km{a:CE}(h:bJ X d Γ<|.n a):bJ X d Γ (.n a)/\gA X d Γ (.n a):=
 ⟨h,λaa ai ae e H b h' hk hN hl hm hr=>Jo (by
  refine uE e hm λo x p hm=>?_;obtain rfl:=cG (band hm).1
  rfl)<|(h aa ai ae e H (.b b,h') hk hN hl hm hr).pin<|cM b rfl rfl rfl⟩
mutual
theorem good(Gd:eA X)(hΓ:g9 X d Γ):∀(c:CE),bJ X d Γ c/\gA X d Γ c
 |.c p=>fR aw rfl
 |.v i=>fR ax rfl
 |.g x p=>fR (a8 Gd) rfl
 |.t es=>fR (a9 λc hc=>(jG Gd hΓ es c hc).1) rfl
 |.l es=>fR (ba λc hc=>(jG Gd hΓ es c hc).1) rfl
 |.e es=>fR (bb λc hc=>(jG Gd hΓ es c hc).1) rfl
 |.b op a b=>fR (be (good Gd hΓ a).1 (good Gd hΓ b).1) rfl
 |.n a=>km<|bi (good Gd hΓ a).1
 |.o a=>⟨bm (good Gd hΓ a).1,bp (good Gd hΓ a).2⟩
 |.m op a b=>⟨bt (good Gd hΓ a).1 (good Gd hΓ b).1,bv (good Gd hΓ a).1 (good Gd hΓ b).1⟩
 |.p o1 o2 a b c=>⟨ca (good Gd hΓ a).1 (good Gd hΓ b).1 (good Gd hΓ c).1,cb (good Gd hΓ a).1 (good Gd hΓ b).1 (good Gd hΓ c).1⟩
 |.a cA es=>⟨g_bool λc hc=>(jG Gd hΓ es c hc).1,gt_bool λc hc=>(jG Gd hΓ es c hc).2⟩
 |.i t a b=>⟨ce (good Gd hΓ t).2 (good Gd hΓ a).1 (good Gd hΓ b).1,ci (good Gd hΓ t).2 (good Gd hΓ a).2 (good Gd hΓ b).2⟩
 |.d a i=>fR (cq (good Gd hΓ a).1 (good Gd hΓ i).1) rfl
 |.s a lo hi=>fR (ct (good Gd hΓ a).1 (good Gd hΓ lo).1 (good Gd hΓ hi).1) rfl
 |.r a=>fR (cw (good Gd hΓ a).1) rfl
 |.f a x=>fR (cx Gd (good Gd hΓ a).1) rfl
 |.h f es=>fR (da Gd hΓ λc hc=>(jG Gd hΓ es c hc).1) rfl
 |.j o m es=>fR (db Gd hΓ (good Gd hΓ o).1 λc hc=>(jG Gd hΓ es c hc).1) rfl
 |.k b es=>fR (ds Gd λc hc=>(jG Gd hΓ es c hc).1) rfl
 |.q a b=>fR (du (good Gd hΓ a).1 (good Gd hΓ b).1) rfl
 |.x a b=>fR (dx (good Gd hΓ a).1 (good Gd hΓ b).1) rfl
 |.u a=>fR (dC (good Gd hΓ a).1) rfl
 |.w a b=>fR (dE (good Gd hΓ a).1 (good Gd hΓ b).1) rfl
 |.y a b c=>fR (dL (good Gd hΓ a).1 (good Gd hΓ b).1 (good Gd hΓ c).1) rfl
 |.z n=>fR (d0 (good Gd hΓ n).1) rfl
 |.A=>fR (d4 Gd) rfl
 |.B=>fR (d5 Gd) rfl
 |.C ks ps=>fR (d6 Gd) rfl
 |.D elt tp tn k bZ cond=>fR (ka Gd (good Gd hΓ elt).1 (λc hc=>(jG Gd hΓ bZ c hc).1) λc hc=>(jG Gd hΓ cond c hc).2) rfl
theorem jG(Gd:eA X)(hΓ:g9 X d Γ):∀(es:List CE),∀c∈es,bJ X d Γ c/\gA X d Γ c
 |[],c,h=>nomatch h
 |e::es,c,h=>by
  rcases eO.mp h with q|h
  ·refine rR q ?_;exact good Gd hΓ e
  ·exact jG Gd hΓ es c h
end
abbrev lG(r:dW×bF×ak):SP:=λaf cZ h=>af=r.1/\cZ=r.2.1/\h=r.2.2
def lH(X:Cx)(d:Nat)(Γ:b7)(c:CS):Prop:=∀(aa:Env)(ai:b5)(ae:bF)(st:Stmt)(H:ak)(r:dW×bF×ak),
 aa.scope.kind=.function->d8 ai->ae.length=ai.length->mS c aa.scope.names ai st=true->iy Γ c ae H=some r->gq X d aa ai ae st H (lG r)/\r.2.1.length=ae.length
def nO(X:Cx)(d:Nat)(Γ:b7)(c:List CS):Prop:=∀(aa:Env)(ai:b5)(ae:bF)(ss:List Stmt)(H:ak)(r:dW×bF×ak),
 aa.scope.kind=.function->d8 ai->ae.length=ai.length->jf c aa.scope.names ai ss=true->aF Γ c ae H=some r->iQ X d aa ai ae ss H (lG r)/\r.2.1.length=ae.length
section
variable {aa:Env}{ai:b5}{ae:bF}{H:ak}
theorem gq.pin{st:Stmt}{r:dW×bF×ak}{Q:SP}(h:gq X d aa ai ae st H<|lG r)(q:Q r.1 r.2.1 r.2.2):gq X d aa ai ae st H Q:=
 λA cf s E a b c e=>bz (h A cf s E a b c e) (λU U y=>y.mono λU U U z=>by(refine U2 z λaQ aR aT=>?_;subst aQ;clear z;subst aR;subst aT);exact q) λU U y=>y
theorem iQ.pin{st:List Stmt}{r:dW×bF×ak}{Q:SP}(h:iQ X d aa ai ae st H<|lG r)(q:Q r.1 r.2.1 r.2.2):iQ X d aa ai ae st H Q:=
 λA cf s E a b c e=>bz (h A cf s E a b c e) (λU U y=>y.mono λU U U z=>by(refine U2 z λaL aM aP=>?_;subst aL;clear z;subst aM;subst aP);exact q) λU U y=>y
theorem L_:∀(is:aG)(vs:au)(ae:bF),(bx is vs ae).length=ae.length
 |[],vs,ae=>by induction vs using b9<;>rfl
 |i::is,[],ae=>rfl
 |i::is,v::vs,ae=>by simp only[bx];(rewrite[L_];exact rR i5 rfl)
theorem Ma{tp:Bool}{tgt:aG}{x:PV}{ae cZ:bF}(h:iw tp tgt x ae=some cZ):cZ.length=ae.length:=by
 induction tp using cP with
 |false=>
  refine yw h λi U h=>?_;obtain rfl:=aK h;exact i5
 |true=>
  refine xq h λl U h=>?_;refine p_ h λU e=>?_;clear h;clear h;obtain rfl:=aK e;exact L_ _ _ _
theorem kt{elt target iter:Expr}{ifs:bL}{ia:Int}{scope:Scope}{pos:Pos}{y:PySem.Str}{py:Pos}{l:Nat}(hk:aa.scope.kind=.function):
  ∃b,swapsWith (.ListComp elt [⟨target,iter,ifs,ia⟩] scope pos) (some<|.Name y py) l aa=pure b:=⟨_,rfl⟩
theorem kz{e:CE}{sc:Sn}{ai:b5}{v:Expr}(hm:mE e sc ai v=true)(hc:r6 v=false):e.ctorIdx=(CE.D e false [] .v [] []).ctorIdx:=by
 induction e using CE.casesOn<;>first
  |rfl
  |(rw[kl<|by rw[L7 hm];rfl]at hc;nomatch hc)
theorem kS(Gd:eA X)(hΓ:g9 X d Γ){i:Nat}{elt:CE}{tp:Bool}{tn:aY}{k:IK}{bZ cond:List CE}{v:Expr}{x:String}{py spos:Pos}{q:PV×ak}(hk:aa.scope.kind=.function)(hN:d8 ai)(hl:ae.length=ai.length)
  (hx:ai[i]?=some (some x))(hkx:aa.kindOf (Sx x)=some .local\/aa.kindOf (Sx x)=some .cell)(m3:mE (.D elt tp tn k bZ cond) aa.scope.names ai v=true)(hq:az Γ (.D elt tp tn k bZ cond) ae H=some q):
  gq X d aa ai ae (.Assign [.Name (Sx x) py] v spos) H (lG (.n,ae.set i<|some q.1,q.2)):=by
 have Dz:=m3;revert m3;refine JA v Dz λelt' g scope cpos Dz=>?_;refine iz g Dz λg U m3=>?_;obtain⟨target,iter,ifs,ia⟩:=g;refine X1 (kt (elt:=elt') (target:=target) (iter:=iter) (ifs:=ifs) (ia:=ia) (scope:=scope) (pos:=cpos) (y:=Sx x) (py:=py) (l:=spos.line) hk) λb hb=>?_
 induction b using cP with
 |false=>exact JJ hN hx hkx hb<|((good Gd hΓ _).1 aa ai ae _ H q hk hN hl m3 hq).pin ⟨rfl,rfl,rfl⟩
 |true=>
  refine U6 (L5 Gd (good Gd hΓ elt).1 (λc hc=>(jG Gd hΓ bZ c hc).1) (λc hc=>(jG Gd hΓ cond c hc).2) hk hN hl m3 hq) λaN K hn sF hs ht hA=>?_;clear m3;subst aN;obtain⟨l,e1⟩:∃l,q.1=.l l:=bG hq λq1 hq1 hq=>bG hq λitems hit hq=>omap hq λq2 hq2=>⟨_,rfl⟩
  exact Zw K hl hn rfl sF hs hN hx hkx hb ht (hA (Q:=λacc c8=>lG (.n,ae.set i<|some q.1,q.2) .n (ae.set i<|some<|.l acc) c8) λl e=>by refine rR e ?_;exact⟨rfl,rfl,rfl⟩)
theorem k4(Gd:eA X)(hΓ:g9 X d Γ){i:Nat}{e:CE}:lH X d Γ (.a i e):=λaa ai ae st H r hk hN hl hm hr=>by
 refine xU st hm λt v spos hm=>?_;refine iz t hm λt hm=>?_;refine qf t hm λy py hm=>?_;refine U1 (band hm) λhm m3=>?_;refine U1 (band hm) λm1 m2=>?_;refine c_ (yv m1) λx hx aQ U=>?_;clear hm m1;clear hm;subst aQ;have hkx:=(Du m2).imp id (·.2);refine omap hr λq hq=>?_;refine⟨?_,by exact rR i5 rfl⟩;cases hc:r6 v with
 |true=>exact JJ hN hx hkx (JN hc _ _)<|((good Gd hΓ e).1 aa ai ae v H q hk hN hl m3 hq).pin ⟨rfl,rfl,rfl⟩
 |false=>exact CE.D.elim (motive_1:=λe=>mE e aa.scope.names ai v=true->az Γ e ae H=some q->gq X d aa ai ae (.Assign [.Name (Sx x) py] v spos) H (lG (.n,ae.set i<|some q.1,q.2))) e (kz m3 hc) (λU U U U U U m3 hq=>kS Gd hΓ hk hN hl hx hkx m3 hq) m3 hq
end
end
end
section
theorem k5{G:Addr->Prop}{aa:Env}{ai:b5}{line:Nat}{elts:bL}{is:aG}{xs:aY}(ht:jW G ai aa elts is xs)
  (f:Expr->Option PySem.Str)(hf:∀id pos,f (.Name id pos)=if(aa.kindOf id==some NameKind.local&&pos.line==line)=true then some id else none):(elts.filterMap f).length=elts.length->elts.filterMap f=xs.map Sx:=by
 induction ht with
 |nil=>exactλU=>rfl
 |@cons x p i es is ys h1 h2 h3 r ih=>
  intro hl;have hle:=List.length_filterMap_le f es;rw[lg]at hl⊢;rw[hf]at hl⊢;by_cases hq:(aa.kindOf (Sx x)==some NameKind.local&&p.line==line)=true
  ·rw[bw hq]at hl⊢;exact rR (ih<|ng hl) rfl
  ·rw[bO hq]at hl;simp only[List.length_cons]at hl;omega
set_option tactic.hygienic true in
theorem li{G:Addr->Prop}{aa:Env}{ai:b5}{elts:bL}{is:aG}{xs:aY}{k:Nat}{p:Pos}{v:Expr}(ht:jW G ai aa elts is xs)(h:Dd v=true):
  swappedStores [.Tuple elts k p] v aa=pure none\/swappedStores [.Tuple elts k p] v aa=pure (some<|xs.map Sx):=by
 induction v using Expr.casesOn with
 |Tuple vs k2 p2=>
  unfold Dd at h;rw[k9]at h;unfold swappedStores;dsimp only;split
  ·exact .inl rfl
  ·split
   ·exact .inl rfl
   ·split
    ·exact .inl rfl
    ·rename_i hl;split
     ·exact .inl rfl
     ·refine rR (bO<|by rw[h];decide) ?_;refine .inr ?_;have hl2:_:=hl;rw[Bool.not_eq_true,Bool.or_eq_false_iff]at hl2;refine congrArg (λz=>pure<|some z)<|k5 (line:=(Option.map (λx=>x.pos.line) elts.head?).getD 0) ht _ (λid pos=>rfl) ?_
      have:=hl2.1;simpa using this
 |_=>exact .inl rfl
section
variable {X:Cx}{d:Nat}{Γ:b7}{aa:Env}{ai:b5}{ae:bF}{H:ak}
theorem Mb(x:String)(h:aa.kindOf (Sx x)=some .local\/(true=true/\aa.kindOf (Sx x)=some .cell)):kN aa (cN aa) x:=kN.all aa x
theorem lm{is:aG}{x:PV}{ae cZ:bF}(h:iw true is x ae=some cZ):∃l,x=.t l/\is.length=l.length/\cZ=bx is l ae:=by exact xq h λl el h=>p_ h λhl e=>cM l el hl<|(aK e).symm
theorem ln(Gd:eA X)(hΓ:g9 X d Γ){is:aG}{e:CE}:lH X d Γ (.s is e):=λaa ai ae st H r hk hN hl hm hr=>by refine xU st hm λt v p hm=>?_;refine iz t hm λt hm=>?_;refine Ck t hm λl k p2 hm=>?_;simp only[Bool.and_eq_true,decide_eq_true_iff]at hm;refine U1 hm λaR m4=>?_;revert aR;refine V1 λaT m3=>?_;revert aT;refine V1 λm1 m2=>?_;refine aC (Dv (G:=cN aa) (λx hx=>Mb x hx) m1) λxs ht U=>?_;refine bG hr λq hq hr=>?_;refine omap hr λcZ hs=>?_;refine⟨YS hN ht m2 (li ht m3)<|((good Gd hΓ e).1 aa ai ae _ H q hk hN hl m4 hq).pin ?_,Ma hs⟩;refine c_ (lm hs) λl e1 e2 aL=>?_;clear hs;subst aL;exact wz l e1 e2 rfl rfl rfl
theorem lp(Gd:eA X)(hΓ:g9 X d Γ){o e:CE}{f:String}:lH X d Γ (.e o f e):=λaa ai ae st H r hk hN hl hm hr=>by
 refine xU st hm λt w p hm=>?_;refine iz t hm λt hm=>?_;refine Ci t hm λv y p2 hm=>?_;simp only[Bool.and_eq_true,beq_iff_eq]at hm;refine U1 hm λaM m2=>?_;revert aM;refine V1 λaP m1=>?_;clear hm;subst aP;refine bG hr λx hx hr=>?_;refine bG hr λy hy hr=>?_;refine omap hr λh' hh=>?_;refine⟨YO Gd.T (Cw (by rfl) _)<|((good Gd hΓ e).1 aa ai ae _ H x hk hN hl m2 hx).pin<|((good Gd hΓ o).1 aa ai ae _ x.2 y hk hN hl m1 hy).pin ?_,rfl⟩;refine Hf hh λn hn hh=>?_;refine bG hh λo ho hh=>?_;refine bG hh λao ha hh=>?_;subst ha
 induction ao using AO.casesOn with
 |n c ns l=>
  refine p_ hh λhz e=>?_;clear hh;clear hh;obtain rfl:=aK e;rw[cy,ff]at hz;exact wB n c ns l hn ho ((Gd.fld _ _ hz.2).2) hz.1 rfl rfl rfl
 |_=>exact nN hh
theorem lr(Gd:eA X)(hΓ:g9 X d Γ){o i e:CE}:lH X d Γ (.t o i e):=λaa ai ae st H r hk hN hl hm hr=>by refine xU st hm λt w p hm=>?_;refine iz t hm λt hm=>?_;refine xS t hm λv s p2 hm=>?_;simp only[Bool.and_eq_true]at hm;refine U1 hm λaN m3=>?_;revert aN;refine V1 λm1 m2=>?_;refine bG hr λx hx hr=>?_;refine bG hr λy hy hr=>?_;refine bG hr λz hz hr=>?_;refine omap hr λh' hh=>?_;exact⟨YN (Cw (by rfl) _)<|((good Gd hΓ e).1 aa ai ae _ H x hk hN hl m3 hx).pin<|((good Gd hΓ o).1 aa ai ae _ x.2 y hk hN hl m1 hy).pin<|((good Gd hΓ i).1 aa ai ae _ y.2 z hk hN hl m2 hz).pin<|iq h' hh rfl rfl rfl,rfl⟩
set_option tactic.hygienic true in
theorem DA{tp:Bool}{tgt:aG}{body:List CS}(hb:nO X d Γ body)(hk:aa.scope.kind=.function)(hN:d8 ai){body':List Stmt}(hm:jf body aa.scope.names ai body'=true){Q:SP}:∀{items:au}{ae:bF}{H:ak}{r:dW×bF×ak},
  ae.length=ai.length->oH (λx cT h=>(iw tp tgt x cT).bind λjU=>aF Γ body jU h) items ae H=some r->Q r.1 r.2.1 r.2.2->r8 X d aa ai tp tgt body' Q items ae H/\r.2.1.length=ae.length
 |[],ae,H,r,hl,h,q=>by obtain rfl:=aK h;exact⟨q,rfl⟩
 |x::t,ae,H,r,hl,h,q=>by
  refine bG h λr1 ez h=>?_;refine bG ez λjU hs ez=>?_;have l2:=Ma hs;refine U1 (hb aa ai jU body' H r1 hk hN (by exact rR l2<|rR hl rfl) hm ez) λg1 g2=>?_;have l3:r1.2.1.length=ai.length:=by exact rR g2<|rR l2<|rR hl rfl
  split at h
  ·rename_i e1;refine U1 (DA hb hk hN hm l3 h q) λk1 k2=>?_;exact⟨(aA jU hs<|g1.pin<|by refine rR e1 ?_;exact k1),by exact rR k2<|rR l3<|rR hl rfl⟩
  ·rename_i e1;refine U1 (DA hb hk hN hm l3 h q) λk1 k2=>?_;exact⟨(aA jU hs<|g1.pin<|by refine rR e1 ?_;exact k1),by exact rR k2<|rR l3<|rR hl rfl⟩
  ·rename_i e1;have h:=aK h;subst h;exact⟨(aA jU hs<|g1.pin<|by refine rR e1 ?_;exact q),by dsimp only;exact rR l3<|rR hl rfl⟩
  ·rename_i v e1;have h:=aK h;subst h;exact⟨(aA jU hs<|g1.pin<|by refine rR e1 ?_;exact q),by dsimp only;exact rR l3<|rR hl rfl⟩
theorem ls(Gd:eA X)(hΓ:g9 X d Γ){tp:Bool}{tgt:aG}{k:IK}{bZ:List CE}{body:List CS}(hb:nO X d Γ body):lH X d Γ (.f tp tgt k bZ body):=λaa ai ae st H r hk hN hl hm hr=>by
 refine X7 st hm λtarget iter lw els p hm=>?_;refine U1 (band hm) λhm m3=>?_;refine U1 (band hm) λhm m2=>?_;refine U1 (band hm) λm0 m1=>?_;refine jF els m0 ?_;have ht:=L1 (G:=cN aa) (λx hx=>Mb x hx) m1;have ms:=band m2;refine bG hr λq hq hr=>?_;refine bG hr λitems hit hr=>?_;refine U1 (DA (Q:=lG r) hb hk hN m3 hl hr ⟨rfl,rfl,rfl⟩) λk1 k2=>?_
 exact⟨YY hN ht (L0 ms.1 aa) (L3 Gd (λc hc=>(jG Gd hΓ bZ c hc).1) hk hN hl (λe=>by
  clear m2 ms hr k1;clear hr;subst e;cases ht with
  |tup h=>exact I3 _ _ _ rfl) m2 hq hit k1),k2⟩
set_option tactic.hygienic true in
theorem DB{t:CE}{body:List CS}(ht:gA X d Γ t)(hb:nO X d Γ body)(hk:aa.scope.kind=.function)(hN:d8 ai){test:Expr}{body':List Stmt}(m1:mE t aa.scope.names ai test=true)(hm:jf body aa.scope.names ai body'=true){Q:SP}:∀{n:Nat}{ae:bF}{H:ak}{r:dW×bF×ak},
  ae.length=ai.length->oJ (λcT h=>(az Γ t cT h).bind λx=>(truth x.1).map λb=>(b,x.2)) (λcT h=>aF Γ body cT h) n ae H=some r->Q r.1 r.2.1 r.2.2->uN X d aa ai test body' Q n ae H/\r.2.1.length=ae.length
 |0,ae,H,r,hl,h,q=>nN h
 |n+1,ae,H,r,hl,h,q=>by
  refine i_ h λb h1 hc h=>?_;refine i_ hc λp h2 hx hc=>?_;refine gY hc λb' hb' hc=>?_;obtain rfl:=mL hb';simp only[Prod.mk.injEq]at hc;refine U1 hc λaQ aR=>?_;subst aQ;subst aR;have g0:=ht aa ai ae test H b' h2 hk hN hl m1 hx
  induction b' using cP with
  |true=>
   simp only[if_true]at h;refine bG h λr1 ez h=>?_;refine U1 (hb aa ai ae body' h2 r1 hk hN hl hm ez) λg1 g2=>?_;have l3:r1.2.1.length=ai.length:=by exact rR g2<|rR hl rfl
   split at h
   ·rename_i e1;refine U1 (DB ht hb hk hN m1 hm l3 h q) λk1 k2=>?_;exact⟨g0.pin ⟨λU=>g1.pin<|by refine rR e1 ?_;exact k1,tB⟩,by exact rR k2<|rR l3<|rR hl rfl⟩
   ·rename_i e1;refine U1 (DB ht hb hk hN m1 hm l3 h q) λk1 k2=>?_;exact⟨g0.pin ⟨λU=>g1.pin<|by refine rR e1 ?_;exact k1,tB⟩,by exact rR k2<|rR l3<|rR hl rfl⟩
   ·rename_i e1;have h:=aK h;subst h;exact⟨g0.pin ⟨λU=>g1.pin<|by refine rR e1 ?_;exact q,tB⟩,by dsimp only;exact rR l3<|rR hl rfl⟩
   ·rename_i v e1;have h:=aK h;subst h;exact⟨g0.pin ⟨λU=>g1.pin<|by refine rR e1 ?_;exact q,tB⟩,by dsimp only;exact rR l3<|rR hl rfl⟩
  |false=>
   simp only[Bool.false_eq_true,if_false,Option.some.injEq]at h;subst h;exact⟨g0.pin ⟨nB,λU=>q⟩,rfl⟩
theorem lx(Gd:eA X)(hΓ:g9 X d Γ){t:CE}{body:List CS}(hb:nO X d Γ body):lH X d Γ (.w t body):=λaa ai ae st H r hk hN hl hm hr=>by refine X8 st hm λtest lw els p hm=>?_;refine U1 (band hm) λhm m3=>?_;refine U1 (band hm) λm0 m1=>?_;refine jF els m0 ?_;refine U1 (DB (Q:=lG r) (good Gd hΓ t).2 hb hk hN m1 m3 hl hr ⟨rfl,rfl,rfl⟩) λk1 k2=>?_;exact⟨YZ k1,k2⟩
theorem lL(Gd:eA X)(hΓ:g9 X d Γ){t:CE}{a b:List CS}(ha:nO X d Γ a)(hb:nO X d Γ b):lH X d Γ (.i t a b):=λaa ai ae st H r hk hN hl hm hr=>by
 refine X9 st hm λtest a' b' p hm=>?_;simp only[Bool.and_eq_true]at hm;refine U1 hm λaT m3=>?_;revert aT;refine V1 λm1 m2=>?_;refine i_ hr λp h1 hx hr=>?_;refine bG hr λc hc hr=>?_;obtain rfl:=mL hc;have g0:=(good Gd hΓ t).2 aa ai ae _ H c h1 hk hN hl m1 hx
 induction c using cP with
 |true=>
  refine U1 (ha aa ai ae _ h1 r hk hN hl m2 hr) λg1 g2=>?_;exact⟨JK<|g0.pin ⟨λU=>g1,tB⟩,g2⟩
 |false=>
  refine U1 (hb aa ai ae _ h1 r hk hN hl m3 hr) λg1 g2=>?_;exact⟨JK<|g0.pin ⟨nB,λU=>g1⟩,g2⟩
theorem ma(Gd:eA X)(hΓ:g9 X d Γ){e:CE}:lH X d Γ (.r e):=λaa ai ae st H r hk hN hl hm hr=>by
 refine omap hr λq hq=>?_;refine X5 st hm λv p hm=>?_
 induction v using e9 with
 |some v=>exact⟨Yu<|((good Gd hΓ e).1 aa ai ae _ H q hk hN hl hm hq).pin ⟨rfl,rfl,rfl⟩,rfl⟩
 |none=>
  clear hr;obtain rfl:=Lw hm;obtain rfl:=aK hq;exact⟨Yv ⟨rfl,rfl,rfl⟩,rfl⟩
theorem md(Gd:eA X)(hΓ:g9 X d Γ){e:CE}:lH X d Γ (.x e):=λaa ai ae st H r hk hN hl hm hr=>by refine omap hr λq hq=>?_;refine X_ st hm λv p hm=>?_;exact⟨YQ (band hm).1<|((good Gd hΓ e).1 aa ai ae _ H q hk hN hl (band hm).2 hq).pin ⟨rfl,rfl,rfl⟩,rfl⟩
noncomputable def DC:CS->Option Nat
 |.z i=>some i
 |_=>none
theorem me{c:CS}{t:List CS}{sc:Sn}{ai:b5}{l:List Stmt}:jf (c::t) sc ai l=(match DC c with
  |some i=>(match ai[i]? with
   |some (some _)=>jf t sc ai l
   |_=>false)
  |none=>(match l with
   |[]=>false
   |x::u=>mS c sc ai x&&jf t sc ai u)):=by
 induction c using CS.casesOn<;>first|(induction l using b9<;>rfl)|rfl
theorem mf{c:CS}{i:Nat}(h:DC c=some i):c=.z i:=by
 induction c using CS.casesOn<;>simp[DC]at h
 exact rR h rfl
set_option tactic.hygienic true in
theorem mi{c:CS}{t:List CS}(hc:lH X d Γ c)(ht:nO X d Γ t):nO X d Γ (c::t):=λaa ai ae ss H r hk hN hl hm hr=>by
 refine bG hr λr1 ez hr=>?_;rw[me]at hm;split at hm
 ·rename_i i uI;clear hc;obtain rfl:=mf uI;split at hm
  ·rename_i x hx;refine bG ez λo ho ez=>?_;refine bG ez λv hv ez=>?_;refine gY ez λr2 iS er=>?_;clear ez;clear ez;subst er;refine U1 (ht aa ai (ae.set i<|some r2.1) ss r2.2 r hk hN (by refine rR i5 ?_;exact hl) hm hr) λk1 k2=>?_;exact⟨ZA hN hx<|fg v r2 (hv▸ho) iS k1,by exact rR k2<|rR i5 rfl⟩
  ·exact nB hm
 ·split at hm
  ·exact nB hm
  ·rename_i x u;rw[cy]at hm;refine U1 (hc aa ai ae x H r1 hk hN hl hm.1 ez) λg1 g2=>?_;split at hr
   ·rename_i e1;refine U1 (ht aa ai r1.2.1 u r1.2.2 r hk hN (by exact rR g2<|rR hl rfl) hm.2 hr) λk1 k2=>?_;exact⟨JG<|g1.pin<|by refine rR e1 ?_;exact k1,by exact rR k2<|rR g2 rfl⟩
   ·rename_i f hne;have hr:=aK hr;subst hr;refine⟨JG<|g1.pin ?_,g2⟩;generalize hf:r1.1=f at hne
    induction f using dW.casesOn with
    |n=>exact absurd rfl hne
    |b=>exact⟨rfl,rfl,rfl⟩
    |c=>exact⟨rfl,rfl,rfl⟩
    |r v=>exact⟨rfl,rfl,rfl⟩
mutual
theorem ml(Gd:eA X)(hΓ:g9 X d Γ):∀(c:CS),lH X d Γ c
 |.a i e=>k4 Gd hΓ
 |.s is e=>ln Gd hΓ
 |.e o f e=>lp Gd hΓ
 |.t o i e=>lr Gd hΓ
 |.f tp tgt k bZ body=>ls Gd hΓ<|sG Gd hΓ body
 |.w t body=>lx Gd hΓ<|sG Gd hΓ body
 |.i t a b=>lL Gd hΓ (sG Gd hΓ a)<|sG Gd hΓ b
 |.r e=>ma Gd hΓ
 |.x e=>md Gd hΓ
 |.b=>λaa ai ae st H r hk hN hl hm hr=>by obtain rfl:=aK hr;exact⟨Stmt.Break.elim (motive_2:=λst=>gq X d aa ai ae st H<|lG (.b,ae,H)) st (b_ hm) λp=>Yw ⟨rfl,rfl,rfl⟩,rfl⟩
 |.c=>λaa ai ae st H r hk hN hl hm hr=>by obtain rfl:=aK hr;exact⟨Stmt.Continue.elim (motive_2:=λst=>gq X d aa ai ae st H<|lG (.c,ae,H)) st (b_ hm) λp=>Yx ⟨rfl,rfl,rfl⟩,rfl⟩
 |.z i=>λaa ai ae st H r hk hN hl hm hr=>nomatch (hm:false=true)
theorem sG(Gd:eA X)(hΓ:g9 X d Γ):∀(c:List CS),nO X d Γ c
 |[]=>λaa ai ae ss H r hk hN hl hm hr=>by have:ss=[]:=lh.mp hm;clear hm;subst this;obtain rfl:=aK hr;exact⟨Ys ⟨rfl,rfl,rfl⟩,rfl⟩
 |c::t=>mi (ml Gd hΓ c)<|sG Gd hΓ t
end
end
end
section
theorem nG.up{X:Cx}{d:Nat}{fv:Value}{args:au}{H:ak}{Q:eF}(h:nG X d fv args H Q){d':Nat}(hd:d<=d'):nG X d' fv args H Q:=
 λA cf s E vs hA hH S r=>h A cf s E vs (hA.mono hd) hH S r
theorem g_{a b:Bool}{G:Prop}(h:(a&&b)=true)(K:a=true->b=true->G):G:=K (band h).1 (band h).2
theorem mm{K:Frag}{v:Value}{dv:au}(h:Ly K v dv=true):(v=.none/\dv=[])\/∃T o items n,v=.ref T/\K.lookup T=some o/\o.data=.seq items n/\all2 (qw K 3) items.toList dv=true:=by
 rcases qV.mp h with h|h
 ·exact .inl ⟨cG (band h).1,lh.mp (band h).2⟩
 ·refine JE v h λt h=>?_;cases ho:K.lookup t with
  |none=>rw[ho]at h;nomatch h
  |some o=>
   rw[ho]at h;obtain⟨i,n,e,h⟩:∃i n,o.data=.seq i n/\all2 (qw K 3) i.toList dv=true:=JF o.data h λi n h=>gR i n rfl h;exact .inr<|pX t o i n rfl ho e h
theorem kinds_of{l:List<|PySem.Str×NameKind}{x:PySem.Str}(h:kindB l true x=true):l.lookup x=some .local\/l.lookup x=some .cell:=by
 rcases qV.mp h with q|q
 ·exact .inl<|cG q
 ·exact .inr<|cG (band q).2
theorem DE{X:Cx}{f:Addr}{ir:bl}{np:Nat}(h:uT X.K f ir np=true):∃fd body,FnAt X f fd body ir.names np ir.defaults/\jf ir.body fd.scope.names (ir.names.map some) body=true:=by
 unfold uT at h;cases ho:X.K.lookup f with
 |none=>rw[ho]at h;nomatch h
 |some o=>
  rw[ho]at h;obtain⟨oc,od,dt,osl⟩:=o;refine Yd (M:=λdt=>X.K.lookup f=some ⟨oc,od,dt,osl⟩->_) dt h (λfd h ho=>?_) ho;refine Z9 h λbody hb h=>?_;refine g_ h λh1 h=>g_ h λh2 h=>g_ h λh3 h=>g_ h λh4 h=>g_ h λh5 h=>g_ h λh6 h=>g_ h λh7 h=>g_ h λh8 h=>g_ h λh9 h=>g_ h λmr h=>g_ h λh11 h=>g_ h λh12 h=>g_ h λmv h=>g_ h λmx h=>g_ h λCt h=>g_ h λmA h=>g_ h λmB h=>g_ h λmI mM=>?_;exact gR fd body ⟨I3 oc od osl ho,hb,cG h1,cG h2,lh.mp h3,(k9 _).mp h4,(k9 _).mp h5,cG h6,h7,lh.mp h8,lh.mp h9,tU.mp mr,tU.mp h11,cG h12,cG mv,cG mx,cG Ct,λx hx=>kinds_of<|gj.mp mA x hx,mm mB,cG mI⟩ mM
theorem mN{ns:aY}(h:ns.Nodup):d8 (ns.map some):=by refine L2 ?_;refine rR List.filterMap_map ?_;simpa using h
theorem DF{X:Cx}{d:Nat}{Γ:b7}(Gd:eA X)(hΓ:g9 X d Γ){f:Addr}{fd:FuncData}{body:List Stmt}{ir:bl}{np:Nat}(F:FnAt X f fd body ir.names np ir.defaults)(hm:jf ir.body fd.scope.names (ir.names.map some) body=true):BodyOk X d Γ ir fd body:=
 λaa ae H r h1 h2 h3 h4=>by have:=(sG Gd hΓ ir.body aa (ir.names.map some) ae body H r h2 (mN F.nodup) (by(refine rR h3 ?_;rw[bI])) (by refine rR h1 ?_;exact hm) h4).1;exactλA cf s E a b c e=>bz (this A cf s E a b c e) (λU U y=>y.mono λU U U z=>⟨z.1,z.2.2⟩) λU U y=>y
noncomputable def Mc:Bool:=iN.all λr=>r.2.name==r.1.2&&(r.2.kind==.f||r.1.1=="")
set_option tactic.hygienic true in
theorem nl{α:Type}{l:List<|(String×String)×α}{k:String×String}{v:α}(h:l.lookup k=some v):(k,v)∈l:=by
 induction l with
 |nil=>simp at h
 |cons p l ih=>
  rw[m8]at h;split at h
  ·rename_i e;have e:=gQ.mp e;have h:=aK h;clear ih;subst h;refine rR e ?_;exact cR
  ·exact dh _ (ih h)
set_option tactic.hygienic true in
theorem Me{X:Cx}(Gd:eA X)(hB:Mc=true)(hT:iN.all (λr=>sC X.K r.1.1 r.2)=true):∀n,g9 X (2*n)<|gam n
 |0=>⟨λf args H r h=>by simp[gam]at h,λc m args H r U h=>by simp[gam]at h⟩
 |n+1=>by
  have ih:=Me Gd hB hT n;have row:∀c f ir,iN.lookup (c,f)=some ir->ir.name=f/\(ir.kind=.f\/c="")/\sC X.K c ir=true:=λc f ir h=>by have hm:=nl h;have b1:=gj.mp hB _ hm;have b2:=gj.mp hT _ hm;simp only[Bool.and_eq_true,Bool.or_eq_true,beq_iff_eq]at b1;exact⟨b1.1,b1.2,b2⟩
  refine⟨λf args H r h=>?_,λc m args H r hc h=>?_⟩
  ·refine bG h λir hl j5=>?_;refine U2 (row _ _ _ hl) λhn U hb=>?_;clear h hl;subst hn;unfold sC at hb;split at hb
   ·rename_i hk;rw[cy]at hb;revert hb;refine V1 λU hb=>?_;split at hb
    ·rename_i C hC;simp only[Bool.and_eq_true]at hb;revert hb;refine V1 λaL hb=>?_;revert aL;refine V1 λm1 m2=>?_;split at hb
     ·rename_i fa uI;rw[cy,ff]at hb;refine gG (DE hb.2) λfd body F hm=>?_;refine cM (.ref C) hC m2 ?_;have:=Z7 (d:=2*n) Gd.T F hk (by unfold jQ;exact rR hC rfl) ⟨m1,uI,hb.1⟩ (DF Gd ih F hm) (show jA (gam n) ir args H=some (r.1,r.2)from j5);exact this.up Qv
     ·exact nB hb
    ·exact nB hb
   ·rename_i hk;rw[bw<|by rfl]at hb;split at hb
    ·rename_i fa DG;rw[cy]at hb;refine gG (DE hb.2) λfd body F hm=>?_;refine cM (.ref fa) DG hb.1 ?_;have:=Lp (d:=2*n) Gd.T F hk (DF Gd ih F hm) (show jA (gam n) ir args H=some (r.1,r.2)from j5);exact this.up FW
    ·exact nB hb
  ·refine bG h λir hl j5=>?_;refine U2 (row _ _ _ hl) λhn hkc hb=>?_;clear h hl;subst hn;have hk:=hkc.resolve_right hc;unfold sC at hb;rw[hk]at hb;dsimp only at hb;rw[bO<|by simpa using hc]at hb;split at hb
   ·rename_i C hC;rw[cy]at hb;revert hb;refine V1 λm1 hb=>?_;split at hb
    ·rename_i fa DG;simp only[Bool.and_eq_true]at hb;refine gG (DE hb.2) λfd body F hm=>?_;refine Fl C fa (by unfold jQ;exact rR hC rfl) m1 DG hb.1.1 hb.1.2 ?_;have:=Lp (d:=2*n) Gd.T F hk (DF Gd ih F hm) (show jA (gam n) ir args H=some (r.1,r.2)from j5);exact this.up FW
    ·exact nB hb
   ·exact nB hb
def yE(K:Frag):Bool:=xu.all λr=>match nsIn K mainGlobals (Sx r.1)with
 |some (some v)=>qw K 3 v r.2
 |_=>false
noncomputable def Mf(K:Frag)(c x:String):Bool:=match nsIn K mainGlobals (Sx c)with
 |some (some<|.ref C)=>plainGet K C (Sx x)&&hasDictIn K C&&(match findIn K (.ref C) (Sx x)with
   |some attr=>noGet K attr
   |none=>false)&&decide (findIn K (.ref C) "__setattr__"=some (some<|.builtin "object.__setattr__"))&&plainOver K C&&decide (takerIn K C (Sx x)=some none)
 |_=>false
def yF(K:Frag):Bool:=An.all λr=>Mf K r.1 r.2
noncomputable def DH(K:Frag):Bool:=["len","list","sorted","min","max","isinstance","bool","range","enumerate","zip"].all λx=>decide<|nsIn K mainGlobals (Sx x)=some none
set_option tactic.hygienic true in
theorem nn{X:Cx}(T:eK X)(h:yE X.K=true):∀x p,yq x p=true->Cb X x p:=λx p hg=>by
 unfold yq at hg;split at hg
 ·rename_i q hq;obtain rfl:=sr _ _ hg;have hm:(x,p)∈xu:=by
   revert hq;generalize xu=l;intro hq
   induction l with
   |nil=>simp at hq
   |cons a l ih=>
    rw[m8]at hq;split at hq
    ·rename_i e;have e:=gQ.mp e;have hq:=aK hq;clear hg ih;subst hq;refine rR e ?_;exact cR
    ·exact dh _ (ih hq)
  have:=gj.mp h _ hm;dsimp only at this;split at this
  ·rename_i v hv;exact aA v hv λcf h S=>K9 T S 3 v p this
  ·exact nB this
 ·exact nB hg
set_option tactic.hygienic true in
theorem no{X:Cx}(h:yF X.K=true):∀c x,qa c x=true->w9 X c x/\storeOk X c x:=λc x hf=>by
 have hm:(c,x)∈An:=by unfold qa at hf;simpa using hf
 have:=gj.mp h _ hm;unfold Mf at this;dsimp only at this;split at this
 ·rename_i C hC;simp only[Bool.and_eq_true,decide_eq_true_iff]at this;refine U1 this λaM h6=>?_;revert aM;refine V1 λaP h5=>?_;revert aP;refine V1 λaN h4=>?_;revert aN;refine V1 λaQ h3=>?_;revert aQ;refine V1 λh1 h2=>?_;split at h3
  ·rename_i attr ha;have hc:jQ X.K c=some C:=by unfold jQ;exact rR hC rfl
   exact⟨t8 C attr hc h1 h2 ha h3,wz C hc h4 h5 h6 h2⟩
  ·exact nB h3
 ·exact nB this
theorem nr{X:Cx}(T:eK X)(h1:yE X.K=true)(h2:yF X.K=true)(h3:DH X.K=true):eA X:=by
 have b:∀x,x∈["len","list","sorted","min","max","isinstance","bool","range","enumerate","zip"]->nsIn X.K mainGlobals (Sx x)=some none:=λx hx=>cG<|gj.mp h3 x hx
 exact⟨T,nn T h1,no h2,
  ⟨b _ (by simp),by kernel_rfl,by decide⟩,⟨b _ (by simp),by kernel_rfl,by decide⟩,⟨b _ (by simp),by kernel_rfl,by decide⟩,⟨b _ (by simp),by kernel_rfl,by decide⟩,⟨b _ (by simp),by kernel_rfl,by decide⟩,
  ⟨b _ (by simp),by kernel_rfl,by decide⟩,⟨b _ (by simp),by kernel_rfl,by decide⟩,⟨b _ (by simp),by kernel_rfl,by decide⟩,⟨b _ (by simp),by kernel_rfl,by decide⟩,⟨b _ (by simp),by kernel_rfl,by decide⟩⟩
end
noncomputable def Ok{α:Type}(o:Option α)(Q:α->Prop):Prop:=∃r,o=some r/\Q r
abbrev bf:=bF
abbrev Res:=dW×bf×ak
section
variable {α β:Type}{Q:α->Prop}
theorem Ok.mk{o:Option α}{r:α}(h:o=some r)(q:Q r):Ok o Q:=aA r h q
theorem Ok.mono{o:Option α}{Q':α->Prop}(h:Ok o Q)(m:∀r,Q r->Q' r):Ok o Q':=let ⟨r,e,q⟩:=h;(aA r e<|m r q)
theorem Ok.bind{o:Option β}{f:β->Option α}(h:Ok o λx=>Ok (f x) Q):Ok (o.bind f) Q:=by refine ni h λx e r e2 q=>?_;exact aA r (by refine rR e ?_;exact e2) q
end
section
variable {Γ:b7}{ae cZ:bf}{H H':ak}{Q:Res->Prop}{s:CS}{t a b:List CS}
theorem cu(q:Q (.n,ae,H)):Ok (aF Γ [] ae H) Q:=aA _ rfl q
theorem nP(h:iy Γ s ae H=some (.n,cZ,H'))(k:Ok (aF Γ t cZ H') Q):Ok (aF Γ (s::t) ae H) Q:=by refine aC k λr e q=>?_;exact aA r (by show(iy Γ s ae H).bind _=_;refine rR h ?_;exact e) q
theorem bX{e:CE}{v:PV}(h:az Γ e ae H=some (v,H'))(q:Q (.r v,ae,H')):Ok (aF Γ (.r e::t) ae H) Q:=
 (aA (.r v,ae,H') (by show((az Γ e ae H).map _).bind _=_;refine rR h ?_;rfl) q)
theorem nz(q:Q (.c,ae,H)):Ok (aF Γ (.c::t) ae H) Q:=aA _ rfl q
def Mg(Γ:b7)(t:List CS)(r:Res):Rs:=match r.1 with
 |.n=>aF Γ t r.2.1 r.2.2
 |.b=>some (.b,r.2.1,r.2.2)
 |.c=>some (.c,r.2.1,r.2.2)
 |.r v=>some (.r v,r.2.1,r.2.2)
theorem yG:aF Γ (s::t) ae H=(iy Γ s ae H).bind (Mg Γ t):=by
 show(iy Γ s ae H).bind _=_;cases iy Γ s ae H with
 |none=>rfl
 |some r=>obtain⟨f,ae,H⟩:=r;induction f using dW.casesOn<;>rfl
theorem DI:∀(a t:List CS)(ae:bf)(H:ak),aF Γ (a++t) ae H=(aF Γ a ae H).bind (Mg Γ t)
 |[],t,ae,H=>rfl
 |s::a,t,ae,H=>by
  refine rR List.cons_append<|rR yG<|rR yG ?_
  cases iy Γ s ae H with
  |none=>rfl
  |some r=>
   obtain⟨f,cT,H1⟩:=r
   induction f using dW.casesOn with
   |n=>exact DI a t cT H1
   |_=>rfl
theorem bU{e:CE}{c:Bool}(h:az Γ e ae H=some (.b c,H'))(h1:c=true->Ok (aF Γ (a++t) ae H') Q)(h2:c=false->Ok (aF Γ (b++t) ae H') Q):Ok (aF Γ (.i e a b::t) ae H) Q:=by
 unfold Ok;refine rR yG ?_;show Ok (((az Γ e ae H).bind _).bind _) Q;refine rR h ?_
 induction c using cP with
 |true=>have:=h1 rfl;rw[DI]at this;exact this
 |false=>have:=h2 rfl;rw[DI]at this;exact this
def After(Γ:b7)(t:List CS)(Q:Res->Prop)(r:Res):Prop:=match r.1 with
 |.n=>Ok (aF Γ t r.2.1 r.2.2) Q
 |f=>Q (f,r.2.1,r.2.2)
theorem Mh(h:Ok (iy Γ s ae H)<|After Γ t Q):Ok (aF Γ (s::t) ae H) Q:=by
 refine aC h λr e q=>?_;unfold Ok;refine rR yG<|rR e ?_
 obtain⟨f,cT,H1⟩:=r
 induction f using dW.casesOn with
 |n=>exact q
 |_=>exact aA _ rfl q
noncomputable def Turn(I:bf->ak->Prop)(Q:Res->Prop)(r:Res):Prop:=match r.1 with
 |.n=>I r.2.1 r.2.2
 |.c=>I r.2.1 r.2.2
 |.b=>Q (.n,r.2.1,r.2.2)
 |.r v=>Q (.r v,r.2.1,r.2.2)
theorem Mi{step:PV->bf->ak->Rs}(I:Nat->bf->ak->Prop):∀{items:au}{k:Nat}{ae:bf}{H:ak},I k ae H->
  (∀i x ae H,items[i]?=some x->I (k+i) ae H->Ok (step x ae H) (Turn (I<|k+i+1) Q))->(∀ae H,I (k+items.length) ae H->Q (.n,ae,H))->Ok (oH step items ae H) Q
 |[],k,ae,H,h0,_,he=>aA _ rfl (he ae H h0)
 |x::r,k,ae,H,h0,hs,he=>by
  refine aC (hs 0 x ae H rfl h0) λaR e q=>?_;obtain⟨f,cT,H1⟩:=aR
  have ih:∀ae H,I (k+1) ae H->Ok (oH step r ae H) Q:=λae H h=>Mi I (k:=k+1) h (λi y ae H hi hI=>by
   have:=hs (i+1) y ae H (by simpa using hi)<|by refine rR (show k+(i+1)=k+1+i from z_) ?_;exact hI
   rw[show k+(i+1)+1=k+1+i+1 from Qw]at this
   exact this) λae H h=>he ae H<|by refine rR i4<|rR (show k+(r.length+1)=k+1+r.length from z_) ?_;exact h
  show Ok ((step x ae H).bind _) Q;refine rR e ?_
  induction f using dW.casesOn with
  |n=>exact ih cT H1 q
  |c=>exact ih cT H1 q
  |_=>exact aA _ rfl q
theorem gr{tp:Bool}{tgt:aG}{k:IK}{bZ:List CE}{body:List CS}{vs items:au}(I:Nat->bf->ak->Prop)(h:cX Γ bZ ae H=some (vs,H'))(hi:fb k vs=some items)(h0:I 0 ae H')
  (hs:∀i x ae H,items[i]?=some x->I i ae H->∃cT,iw tp tgt x ae=some cT/\Ok (aF Γ body cT H) (Turn (I<|i+1)<|After Γ t Q))(he:∀ae H,I items.length ae H->Ok (aF Γ t ae H) Q):
  Ok (aF Γ (.f tp tgt k bZ body::t) ae H) Q:=by
 refine Mh ?_
 have:=Mi (Q:=After Γ t Q) (step:=λx cT h=>(iw tp tgt x cT).bind λjU=>aF Γ body jU h) I h0 (λi x ae H hx hI=>by
  rw[Nat.zero_add]at hI⊢;refine aC (hs i x ae H hx hI) λcT e1 hb=>?_
  refine rR e1 ?_;exact hb) λae H hI=>by rw[Nat.zero_add]at hI;exact he ae H hI
 refine aC this λr e q=>?_;exact aA r (by show(cX Γ bZ ae H).bind _=_;refine rR h ?_;show(fb k vs).bind _=_;refine rR hi ?_;exact e) q
theorem Mj{test:bf->ak->Option (Bool×ak)}{body:bf->ak->Rs}(I:Nat->bf->ak->Prop)
  (hs:∀m ae H,I m ae H->∃c H',test ae H=some (c,H')/\(c=true->∃m',m=m'+1/\Ok (body ae H') (Turn (λae H=>∃j,j<=m'/\I j ae H) Q))/\(c=false->Q (.n,ae,H'))):∀{n m:Nat}{ae:bf}{H:ak},I m ae H->m<n->Ok (oJ test body n ae H) Q
 |0,m,ae,H,_,h=>absurd h<|q_ m
 |n+1,m,ae,H,h0,hlt=>by
  refine d_ (hs m ae H h0) λc H1 e ht hf=>?_;show Ok ((test ae H).bind _) Q;refine rR e ?_
  induction c using cP with
  |false=>exact aA _ rfl (hf rfl)
  |true=>
   refine ni (ht rfl) λm' aT aL e2 q=>?_;clear h0 ht;subst aT;obtain⟨f,cT,H2⟩:=aL;show Ok ((body ae H1).bind _) Q;refine rR e2 ?_;have go:(∃j,j<=m'/\I j cT H2)->Ok (oJ test body n cT H2) Q:=λ⟨j,hj,hI⟩=>Mj I hs (n:=n) hI<|Nat.lt_of_le_of_lt hj<|Nat.lt_of_succ_lt_succ hlt
   induction f using dW.casesOn with
   |n=>exact go q
   |c=>exact go q
   |_=>exact aA _ rfl q
theorem yH{e:CE}{body:List CS}{m:Nat}(I:Nat->bf->ak->Prop)(h0:I m ae H)(hm:m<1000)
  (hs:∀m ae H,I m ae H->∃c H',az Γ e ae H=some (.b c,H')/\(c=true->∃m',m=m'+1/\Ok (aF Γ body ae H') (Turn (λae H=>∃j,j<=m'/\I j ae H)<|After Γ t Q))/\(c=false->Ok (aF Γ t ae H') Q)):
  Ok (aF Γ (.w e body::t) ae H) Q:=by
 refine Mh ?_
 have:=Mj (Q:=After Γ t Q) (test:=λcT h=>(az Γ e cT h).bind λx=>(truth x.1).map λb=>(b,x.2)) (body:=λcT h=>aF Γ body cT h) I (λm ae H hI=>by
  refine d_ (hs m ae H hI) λc H' e1 h1 h2=>?_
  exact fg c H' (by refine rR e1 ?_;rfl) h1 h2) h0 (show m<fuel from hm)
 refine aC this λr e q=>?_;exact aA r e q
end
theorem uZ(n:Nat)(c f:String)(args:au)(H:ak):gam (n+1) c f args H=(iN.lookup (c,f)).bind λir=>jA (gam n) ir args H:=rfl
theorem lJ{n:Nat}{c f:String}{ir:bl}{args vs:au}{H:ak}{Q:PV->Prop}(hl:iN.lookup (c,f)=some ir)(hk:ir.kind=.f)(hp:ir.pure=true)(hf:jb ir args=some vs)(hz:vs.all (fz 8)=true)
  (hr:Ok (aF (gam n) ir.body (g7 ir vs) []) λr=>∃v,b8 6 r.2.2 (fX r.1)=some v/\Q v):∃v,gam (n+1) c f args H=some (v,H)/\Q v:=by
 refine ni hr λr e v hv q=>?_;refine aA v ?_ q;rewrite[uZ];refine rR hl ?_;obtain⟨nm,kd,pu,ns,ar,df,bo⟩:=ir;clear hl hr;subst hk;subst hp;show(jb _ args).bind _=_;refine rR hf ?_;show(if vs.all (fz 8)=true then _ else _)=_;refine rR (bw hz) ?_;show(aF _ _ _ _).bind _=_;refine rR e ?_;show(b8 _ _ _).map _=_;refine rR hv ?_;rfl
theorem dX{n:Nat}{c f:String}{ir:bl}{args vs:au}{H:ak}{v:PV}(hl:iN.lookup (c,f)=some ir)(hk:ir.kind=.f)(hp:ir.pure=true)(hf:jb ir args=some vs)(hz:vs.all (fz 8)=true)
  (hr:Ok (aF (gam n) ir.body (g7 ir vs) []) λr=>b8 6 r.2.2 (fX r.1)=some v):gam (n+1) c f args H=some (v,H):=by
 refine aC (lJ (H:=H) (Q:=λx=>x=v) hl hk hp hf hz (hr.mono λr h=>aA v h rfl)) λv' e aM=>?_;clear hr;subst aM;exact e
theorem Mk{n:Nat}{f:String}{ir:bl}{args vs:au}{H:ak}{v:PV}(hl:iN.lookup ("",f)=some ir)(hk:ir.kind=.c)(hp:ir.pure=true)(hf:jb ir args=some vs)(hz:vs.all (fz 8)=true)
  (hr:Ok (aF (gam n) ir.body (g7 ir<|.e 0::vs) [some<|.n ir.name [] []]) λr=>∃h,rC r=some h/\b8 6 h (.e 0)=some v):gam (n+1) "" f args H=some (v,H):=by
 refine ni hr λr e h hn hv=>?_;rewrite[uZ];refine rR hl ?_;obtain⟨nm,kd,pu,ns,ar,df,bo⟩:=ir;clear hl hr;subst hk;subst hp;show(jb _ args).bind _=_;refine rR hf ?_;show(if vs.all (fz 8)=true then _ else _)=_;refine rR (bw hz) ?_;show(aF _ _ _ _).bind _=_;refine rR e ?_;show(rC r).bind _=_;refine rR hn ?_;show(b8 _ _ _).map _=_;refine rR hv ?_;rfl
theorem nQ{n:Nat}{c f:String}{ir:bl}{args vs:au}{H:ak}{Q:eF}(hl:iN.lookup (c,f)=some ir)(hk:ir.kind=.f)(hp:ir.pure=false)(hf:jb ir args=some vs)
  (hr:Ok (aF (gam n) ir.body (g7 ir vs) H) λr=>Q (fX r.1) r.2.2):∃v H',gam (n+1) c f args H=some (v,H')/\Q v H':=by
 refine aC hr λr e q=>?_;refine gR _ _ ?_ q;rewrite[uZ];refine rR hl ?_;obtain⟨nm,kd,pu,ns,ar,df,bo⟩:=ir;clear hl hr;subst hk;subst hp;show(jb _ args).bind _=_;refine rR hf ?_;show(aF _ _ _ _).map _=_;refine rR e ?_;rfl
theorem DJ{step:PV->ak->Option (bR×ak)}{H:ak}{f:PV->bR}{l:au}(h:∀x∈l,step x H=some (f x,H)):jT step l H=some (l.filterMap f,H):=by
 induction l with
 |nil=>rfl
 |cons x r ih=>
  show(step x H).bind _=_;refine rR (h x cR) ?_;show(jT step r H).map _=_;refine rR (ih λy hy=>h y<|dh _ hy)<|rR lg ?_
  cases f x<;>rfl
theorem comp_map{step:PV->ak->Option (bR×ak)}{H:ak}{f:PV->PV}{l:au}(h:∀x∈l,step x H=some (some<|f x,H)):jT step l H=some (l.map f,H):=by exact rR (DJ (f:=some∘f) h)<|rR List.filterMap_eq_map rfl
section
variable {Γ:b7}{ae cZ:bf}{H H':ak}{Q:Res->Prop}{s:CS}{t a b:List CS}
@[elab_as_elim] theorem gen{α:Type}{P:α->Prop}(a:α)(h:∀x,P x):P a:=h a
noncomputable def Nx(T:bf->ak->Prop)(r:Res):Prop:=match r.1 with
 |.n=>T r.2.1 r.2.2
 |.c=>T r.2.1 r.2.2
 |_=>False
theorem DK{σ:Type}(E:σ->bf)(G:Nat->σ->ak)(J:Nat->σ->Prop)(s0:σ){tp:Bool}{tgt:aG}{k:IK}{bZ:List CE}{body:List CS}{vs items:au}
  (h:cX Γ bZ ae H=some (vs,G 0 s0))(e0:ae=E s0)(hi:fb k vs=some items)(h0:J 0 s0)
  (hs:∀i x s,items[i]?=some x->J i s->∀T:bf->ak->Prop,(∀s,J (i+1) s->T (E s) (G (i+1) s))->∃cT,iw tp tgt x (E s)=some cT/\Ok (aF Γ body cT<|G i s) (Nx T))
  (he:∀s,J items.length s->Ok (aF Γ t (E s)<|G items.length s) Q):
  Ok (aF Γ (.f tp tgt k bZ body::t) ae H) Q:=by
 refine gr (λi ae H=>∃s,ae=E s/\H=G i s/\J i s) h hi (cM s0 e0 rfl h0) (λi x ae H hx hI=>?_) λae H hI=>?_
 ·(refine c_ hI λs aP aN hj=>?_;clear hI;subst aP;subst aN)
  refine aC (hs i x s hx hj (λae H=>∃s,ae=E s/\H=G (i+1) s/\J (i+1) s) λs h=>cM s rfl rfl h) λa1 e1 o=>?_;refine aA a1 e1 (o.mono λr q=>?_);obtain⟨f,ae,H⟩:=r
  induction f using dW.casesOn with
  |n=>exact q
  |c=>exact q
  |b=>exact q.elim
  |r v=>exact q.elim
 ·(refine c_ hI λs aQ aR hj=>?_;clear hI;subst aQ;subst aR)
  exact he s hj
theorem lK{α β:Type}(E:α->β->bf)(G:Nat->α->β->ak)(J:Nat->α->β->Prop)(a0:α)(b0:β){tp:Bool}{tgt:aG}{k:IK}{bZ:List CE}{body:List CS}{vs items:au}
  (h:cX Γ bZ ae H=some (vs,G 0 a0 b0))(e0:ae=E a0 b0)(hi:fb k vs=some items)(h0:J 0 a0 b0)
  (hs:∀i x a b,items[i]?=some x->J i a b->∀T:bf->ak->Prop,(∀a b,J (i+1) a b->T (E a b) (G (i+1) a b))->∃cT,iw tp tgt x (E a b)=some cT/\Ok (aF Γ body cT<|G i a b) (Nx T))
  (he:∀a b,J items.length a b->Ok (aF Γ t (E a b)<|G items.length a b) Q):
  Ok (aF Γ (.f tp tgt k bZ body::t) ae H) Q:=
 DK (λs=>E s.1 s.2) (λi s=>G i s.1 s.2) (λi s=>J i s.1 s.2) (a0,b0) h e0 hi h0 (λi x s hx hj T K=>hs i x s.1 s.2 hx hj T λa b h=>K (a,b) h) λs h=>he s.1 s.2 h
theorem sH{α β γ:Type}(E:α->β->γ->bf)(G:Nat->α->β->γ->ak)(J:Nat->α->β->γ->Prop)(a0:α)(b0:β)(c0:γ){tp:Bool}{tgt:aG}{k:IK}{bZ:List CE}{body:List CS}{vs items:au}
  (h:cX Γ bZ ae H=some (vs,G 0 a0 b0 c0))(e0:ae=E a0 b0 c0)(hi:fb k vs=some items)(h0:J 0 a0 b0 c0)
  (hs:∀i x a b c,items[i]?=some x->J i a b c->∀T:bf->ak->Prop,(∀a b c,J (i+1) a b c->T (E a b c) (G (i+1) a b c))->∃cT,iw tp tgt x (E a b c)=some cT/\Ok (aF Γ body cT<|G i a b c) (Nx T))
  (he:∀a b c,J items.length a b c->Ok (aF Γ t (E a b c)<|G items.length a b c) Q):
  Ok (aF Γ (.f tp tgt k bZ body::t) ae H) Q:=
 lK (λa (s:β×γ)=>E a s.1 s.2) (λi a s=>G i a s.1 s.2) (λi a s=>J i a s.1 s.2) a0 (b0,c0) h e0 hi h0 (λi x a s hx hj T K=>hs i x a s.1 s.2 hx hj T λa b c h=>K a (b,c) h) λa s h=>he a s.1 s.2 h
noncomputable def DL(T:bf->ak->Prop)(R:Res->Prop)(r:Res):Prop:=match r.1 with
 |.n=>T r.2.1 r.2.2
 |.c=>T r.2.1 r.2.2
 |.b=>False
 |.r v=>R (.r v,r.2.1,r.2.2)
theorem n3{σ:Type}(E:σ->bf)(G:Nat->σ->ak)(J:Nat->σ->Prop)(s0:σ){tp:Bool}{tgt:aG}{k:IK}{bZ:List CE}{body:List CS}{vs items:au}
  (h:cX Γ bZ ae H=some (vs,G 0 s0))(e0:ae=E s0)(hi:fb k vs=some items)(h0:J 0 s0)
  (hs:∀i x s,items[i]?=some x->J i s->∀(T:bf->ak->Prop) (R:Res->Prop),(∀s,J (i+1) s->T (E s) (G (i+1) s))->(∀v ae H,Q (.r v,ae,H)->R (.r v,ae,H))->∃cT,iw tp tgt x (E s)=some cT/\Ok (aF Γ body cT<|G i s) (DL T R))
  (he:∀s,J items.length s->Ok (aF Γ t (E s)<|G items.length s) Q):
  Ok (aF Γ (.f tp tgt k bZ body::t) ae H) Q:=by
 refine gr (λi ae H=>∃s,ae=E s/\H=G i s/\J i s) h hi (cM s0 e0 rfl h0) (λi x ae H hx hI=>?_) λae H hI=>?_
 ·(refine c_ hI λs aT aL hj=>?_;clear hI;subst aT;subst aL)
  refine aC (hs i x s hx hj (λae H=>∃s,ae=E s/\H=G (i+1) s/\J (i+1) s) Q (λs h=>cM s rfl rfl h) λU U U h=>h) λa1 e1 o=>?_;refine aA a1 e1 (o.mono λr q=>?_);obtain⟨f,ae,H⟩:=r
  induction f using dW.casesOn with
  |b=>exact q.elim
  |_=>exact q
 ·(refine c_ hI λs aM aP hj=>?_;clear hI;subst aM;subst aP)
  exact he s hj
theorem Ml{α β:Type}(E:α->β->bf)(G:Nat->α->β->ak)(J:Nat->α->β->Prop)(a0:α)(b0:β){tp:Bool}{tgt:aG}{k:IK}{bZ:List CE}{body:List CS}{vs items:au}
  (h:cX Γ bZ ae H=some (vs,G 0 a0 b0))(e0:ae=E a0 b0)(hi:fb k vs=some items)(h0:J 0 a0 b0)
  (hs:∀i x a b,items[i]?=some x->J i a b->∀(T:bf->ak->Prop) (R:Res->Prop),(∀a b,J (i+1) a b->T (E a b) (G (i+1) a b))->(∀v ae H,Q (.r v,ae,H)->R (.r v,ae,H))->∃cT,iw tp tgt x (E a b)=some cT/\Ok (aF Γ body cT<|G i a b) (DL T R))
  (he:∀a b,J items.length a b->Ok (aF Γ t (E a b)<|G items.length a b) Q):
  Ok (aF Γ (.f tp tgt k bZ body::t) ae H) Q:=
 n3 (λs=>E s.1 s.2) (λi s=>G i s.1 s.2) (λi s=>J i s.1 s.2) (a0,b0) h e0 hi h0 (λi x s hx hj T R K=>hs i x s.1 s.2 hx hj T R λa b h=>K (a,b) h) λs h=>he s.1 s.2 h
theorem n4{α β γ:Type}(E:α->β->γ->bf)(G:Nat->α->β->γ->ak)(J:Nat->α->β->γ->Prop)(a0:α)(b0:β)(c0:γ){tp:Bool}{tgt:aG}{k:IK}{bZ:List CE}{body:List CS}{vs items:au}
  (h:cX Γ bZ ae H=some (vs,G 0 a0 b0 c0))(e0:ae=E a0 b0 c0)(hi:fb k vs=some items)(h0:J 0 a0 b0 c0)
  (hs:∀i x a b c,items[i]?=some x->J i a b c->∀(T:bf->ak->Prop) (R:Res->Prop),(∀a b c,J (i+1) a b c->T (E a b c) (G (i+1) a b c))->(∀v ae H,Q (.r v,ae,H)->R (.r v,ae,H))->∃cT,iw tp tgt x (E a b c)=some cT/\Ok (aF Γ body cT<|G i a b c) (DL T R))
  (he:∀a b c,J items.length a b c->Ok (aF Γ t (E a b c)<|G items.length a b c) Q):
  Ok (aF Γ (.f tp tgt k bZ body::t) ae H) Q:=
 Ml (λa (s:β×γ)=>E a s.1 s.2) (λi a s=>G i a s.1 s.2) (λi a s=>J i a s.1 s.2) a0 (b0,c0) h e0 hi h0 (λi x a s hx hj T R K=>hs i x a s.1 s.2 hx hj T R λa b c h=>K a (b,c) h) λa s h=>he a s.1 s.2 h
theorem Mm{σ:Type}(E:σ->bf)(G:σ->ak)(J:Nat->σ->Prop)(s0:σ){e:CE}{body:List CS}{m:Nat}(e0:ae=E s0)(g0:H=G s0)(h0:J m s0)(hm:m<1000)
  (hs:∀m s,J m s->∀T:bf->ak->Prop,(∀j s,j<m->J j s->T (E s) (G s))->∃c H',az Γ e (E s) (G s)=some (.b c,H')/\(c=true->0<m/\Ok (aF Γ body (E s) H') (Nx T))/\(c=false->Ok (aF Γ t (E s) H') Q)):
  Ok (aF Γ (.w e body::t) ae H) Q:=by
 subst e0 g0;refine yH (m:=m) (λm ae H=>∃s,ae=E s/\H=G s/\J m s) (cM s0 rfl rfl h0) hm λm ae H hI=>?_;refine c_ hI λs aN aQ hj=>?_;subst aN;clear hI;subst aQ;refine d_ (hs m s hj (λae H=>∃j,j<m/\∃s,ae=E s/\H=G s/\J j s) λj s n' h=>lX j n' s rfl rfl h) λc H' e1 h1 h2=>?_;refine fg c H' e1 (λhc=>?_) h2;refine U1 (h1 hc) λhm o=>?_;refine aA (m-1) (Qx hm) (o.mono λr q=>?_);have q2:∀{ae:bf}{H:ak},(∃j,j<m/\∃s,ae=E s/\H=G s/\J j s)->∃j,j<=m-1/\∃s,ae=E s/\H=G s/\J j s:=λq=>by revert q;refine rg λj hj q=>?_;exact aA j (FO hj) q
 obtain⟨f,ae,H⟩:=r
 induction f using dW.casesOn with
 |n=>exact q2 q
 |c=>exact q2 q
 |b=>exact q.elim
 |r v=>exact q.elim
theorem qy{n:Nat}{c f:String}{ir:bl}{args vs:au}{H:ak}{v:PV}(hl:iN.lookup (c,f)=some ir)(hk:ir.kind=.f)(hp:ir.pure=true)(hf:jb ir args=some vs)(hz:vs.all (fz 8)=true)
  (hr:∀T:Res->Prop,(∀u ae H,b8 6 H u=some v->T (.r u,ae,H))->Ok (aF (gam n) ir.body (g7 ir vs) []) T):gam (n+1) c f args H=some (v,H):=
 dX hl hk hp hf hz (hr (λr=>b8 6 r.2.2 (fX r.1)=some v) λu ae H h=>h)
theorem sI{n:Nat}{c f:String}{ir:bl}{args vs:au}{H:ak}{Q:PV->Prop}(hl:iN.lookup (c,f)=some ir)(hk:ir.kind=.f)(hp:ir.pure=true)(hf:jb ir args=some vs)(hz:vs.all (fz 8)=true)
  (hr:∀T:Res->Prop,(∀u v ae H,b8 6 H u=some v->Q v->T (.r u,ae,H))->Ok (aF (gam n) ir.body (g7 ir vs) []) T):∃v,gam (n+1) c f args H=some (v,H)/\Q v:=
 lJ hl hk hp hf hz (hr (λr=>∃v,b8 6 r.2.2 (fX r.1)=some v/\Q v) λu v ae H h q=>aA v h q)
end
section
variable {Γ:b7}{ae r:bf}{H:ak}{o:bR}{v p:PV}{i:Nat}{a b c:CE}{es:List CE}
theorem cL:az Γ (.c p) ae H=some (p,H):=rfl
theorem dP:az Γ (.v 0) (some v::r) H=some (v,H):=rfl
theorem ob:az Γ (.v<|i+1) (o::r) H=az Γ (.v i) r H:=rfl
theorem og{x:String}:az Γ (.g x p) ae H=some (p,H):=rfl
theorem Mn:az Γ (.t es) ae H=(cX Γ es ae H).map λr=>(.t r.1,r.2):=rfl
theorem Mp:az Γ (.l es) ae H=(cX Γ es ae H).map λr=>(.l r.1,r.2):=rfl
theorem yI:az Γ (.e es) ae H=(cX Γ es ae H).map λr=>jR r.2 (.l r.1):=rfl
theorem Mq{op:lu}:az Γ (.b op a b) ae H=(az Γ a ae H).bind λx=>(az Γ b ae x.2).bind λy=>(kJ y.2 op x.1 y.1).map λv=>(v,y.2):=rfl
theorem yJ:az Γ (.o a) ae H=(az Γ a ae H).bind λx=>(truth x.1).map λb=>(.b<|!b,x.2):=rfl
theorem Mr{op:gw}:az Γ (.m op a b) ae H=(az Γ a ae H).bind λx=>(az Γ b ae x.2).bind λy=>(cE y.2 op x.1 y.1).map λv=>(.b v,y.2):=rfl
theorem Ms{o1 o2:gw}:az Γ (.p o1 o2 a b c) ae H=(az Γ a ae H).bind λx=>(az Γ b ae x.2).bind λy=>(cE y.2 o1 x.1 y.1).bind λt=>
   if t then(az Γ c ae y.2).bind λz=>(cE z.2 o2 y.1 z.1).map λv=>(.b v,z.2)else some (.b false,y.2):=rfl
theorem pn{cA:Bool}:az Γ (.a cA es) ae H=jz Γ cA es ae H:=rfl
theorem DM:az Γ (.i a b c) ae H=(az Γ a ae H).bind λx=>(truth x.1).bind λd=>if d then az Γ b ae x.2 else az Γ c ae x.2:=rfl
theorem Mt:az Γ (.d a b) ae H=(az Γ a ae H).bind λx=>(az Γ b ae x.2).bind λy=>(gH y.2 x.1 y.1).map λv=>(v,y.2):=rfl
theorem Mu:az Γ (.s a b c) ae H=(az Γ a ae H).bind λx=>(az Γ b ae x.2).bind λy=>(az Γ c ae y.2).bind λz=>(ja z.2 x.1 y.1 z.1).map λv=>(v,z.2):=rfl
theorem DN:az Γ (.r a) ae H=(az Γ a ae H).bind λx=>(fh x.2 x.1).map λl=>(.l l.reverse,x.2):=rfl
theorem Mv{f:String}:az Γ (.f a f) ae H=(az Γ a ae H).bind λx=>(fieldsOf x.2 x.1).bind λo=>if qa o.1 f then(fW f o.2.1 o.2.2).map λv=>(v,x.2)else none:=rfl
theorem Mw{f:String}:az Γ (.h f es) ae H=(cX Γ es ae H).bind λr=>Γ "" f r.1 r.2:=rfl
theorem DO{m:String}:az Γ (.j a m es) ae H=(az Γ a ae H).bind λx=>(fieldsOf x.2 x.1).bind λc=>(if c.2.1.contains m||c.1=="" then none else cX Γ es ae x.2).bind λr=>Γ c.1 m (x.1::r.1) r.2:=rfl
theorem lM{b:oG}:az Γ (.k b es) ae H=(cX Γ es ae H).bind λr=>jS r.2 b r.1:=rfl
theorem Mx:az Γ (.q a b) ae H=(az Γ a ae H).bind λx=>(iL x.2 x.1).bind λU=>(az Γ b ae x.2).bind λy=>(iL y.2 x.1).bind λc=>
   if c.2.length<2^20 then some (.n,y.2.set c.1<|some<|.l<|c.2++[y.1])else none:=rfl
theorem My:az Γ (.x a b) ae H=(az Γ a ae H).bind λx=>(iL x.2 x.1).bind λU=>(az Γ b ae x.2).bind λy=>(iL y.2 x.1).bind λc=>(fh y.2 y.1).bind λr=>
   if c.2.length+r.length<=2^20 then some (.n,y.2.set c.1<|some<|.l<|c.2++r)else none:=rfl
theorem Mz:az Γ (.u a) ae H=(az Γ a ae H).bind λx=>(iL x.2 x.1).bind λc=>(c.2.getLast?).map λv=>(v,x.2.set c.1<|some<|.l c.2.dropLast):=rfl
theorem oo:az Γ .A ae H=some (jR H (.i 0 λU=>none)):=rfl
theorem ot:az Γ (.n a) ae H=(az Γ a ae H).bind λx=>gS x.1 λi=>some (.i<|-i,x.2):=rfl
theorem ox{β:Type}{i:Int}{f:Int->Option β}:gS (.i i) f=f i:=rfl
theorem sJ{tp:Bool}{tn:aY}{k:IK}{bZ cond:List CE}:az Γ (.D a tp tn k bZ cond) ae H=(cX Γ bZ ae H).bind λr=>(fb k r.1).bind λitems=>
   (jT (λx h=>(iK tp tn.length x).bind λown=>(jz Γ true cond (ae++own) h).bind λc=>(truth c.1).bind λb=>
    if b then(az Γ a (ae++own) c.2).map λv=>(some v.1,v.2)else some (none,c.2)) items r.2).map λq=>(.l q.1,q.2):=rfl
theorem yK:cX Γ [] ae H=some ([],H):=rfl
theorem MA:cX Γ (a::es) ae H=(az Γ a ae H).bind λx=>(cX Γ es ae x.2).map λr=>(x.1::r.1,r.2):=rfl
theorem nR{cA:Bool}:jz Γ cA [] ae H=some (.b cA,H):=rfl
theorem hU{cA:Bool}:jz Γ cA (a::es) ae H=(az Γ a ae H).bind λx=>(truth x.1).bind λb=>if b=cA then jz Γ cA es ae x.2 else some x:=rfl
theorem MB:iy Γ (.a i a) ae H=(az Γ a ae H).map λx=>(.n,ae.set i<|some x.1,x.2):=rfl
theorem MC{is:aG}:iy Γ (.s is a) ae H=(az Γ a ae H).bind λx=>(iw true is x.1 ae).map λcZ=>(.n,cZ,x.2):=rfl
theorem oy{f:String}:iy Γ (.e a f b) ae H=(az Γ b ae H).bind λx=>(az Γ a ae x.2).bind λy=>(Hi y.2 y.1 f x.1).map λh=>(.n,ae,h):=rfl
theorem MD:iy Γ (.t a b c) ae H=(az Γ c ae H).bind λx=>(az Γ a ae x.2).bind λy=>(az Γ b ae y.2).bind λz=>(rB z.2 y.1 z.1 x.1).map λh=>(.n,ae,h):=rfl
theorem ME:iy Γ (.x a) ae H=(az Γ a ae H).map λx=>(.n,ae,x.2):=rfl
end
theorem fZ(b:Bool):truth (.b b)=some b:=rfl
section
variable {H:ak}{i j:Int}{s t:String}{l m:au}
theorem yL:kJ H .a (.i i) (.i j)=some (.i<|i+j):=rfl
theorem oC:kJ H .s (.i i) (.i j)=some (.i<|i-j):=rfl
theorem oD:kJ H .o (.i i) (.i 2)=some (.i<|i %2):=rfl
theorem yM(h:l.length+m.length<=2^20):kJ H .a (.l l) (.l m)=some (.l<|l++m):=by show(if l.length+m.length<=2^20 then some (PV.l<|l++m)else none)=_;exact rR (bw h) rfl
theorem oP:cE H .e (.i i) (.i j)=some (decide<|i=j):=rfl
theorem MF:cE H .n (.i i) (.i j)=some (!decide (i=j)):=rfl
theorem o0:cE H .e (.s s) (.s t)=some (decide<|s=t):=rfl
theorem pd:cE H .n (.s s) (.s t)=some (!decide (s=t)):=rfl
theorem ph:cE H .e .n (.s t)=some false:=rfl
theorem pj:cE H .n (.i i) .n=some true:=rfl
theorem pk:cE H .l (.i i) (.i j)=some (decide<|i<j):=rfl
theorem MG:cE H .a (.i i) (.i j)=some (decide<|i<=j):=rfl
theorem pt:cE H .g (.i i) (.i j)=some (decide<|j<i):=rfl
theorem pE:cE H .b (.i i) (.i j)=some (decide<|j<=i):=rfl
theorem qr:cE H .s (.i i) .n=some false:=rfl
theorem re:cE H .s (.s s) .n=some false:=rfl
theorem rk:cE H .s .n .n=some true:=rfl
theorem sa:cE H .s (.t l) .n=some false:=rfl
theorem sb:cE H .s (.l l) .n=some false:=rfl
theorem sg:cE H .t (.i i) .n=some true:=rfl
theorem sk:cE H .t (.s s) .n=some true:=rfl
theorem sl:cE H .t .n .n=some false:=rfl
theorem sm:cE H .t (.t l) .n=some true:=rfl
theorem sn:cE H .t (.l l) .n=some true:=rfl
theorem x_len:jS H .l [.l l]=some (.i l.length,H):=rfl
theorem so:jS H .l [.t l]=some (.i l.length,H):=rfl
theorem sp:jS H .i [.l l]=some (.l l,H):=rfl
theorem sw:jS H .i [.t l]=some (.l l,H):=rfl
theorem sB:jS H .s [.l l]=some (jR H<|.l l):=rfl
theorem sK:jS H .a [.i i,.i j]=some (.i<|max i j,H):=rfl
theorem MH:jS H .n [.i i,.i j]=some (.i<|min i j,H):=rfl
theorem MI{n k:Nat}(h:k<n):gx (k:Int) n=some k:=by
 unfold gx;refine rR (bw FY)<|rR (bw<|FZ h) ?_
 simp
theorem MJ{n:Nat}(h:0<n):gx (-1) n=some (n-1):=by
 unfold gx;refine rR (bO Qy)<|rR (bw<|Qz h) ?_
 congr 1;exact QA
theorem dB{k:Nat}{v:PV}(h:l[k]?=some v):gH H (.l l) (.i k)=some v:=by
 show(gx (k:Int) l.length).bind (λj=>l[j]?)=_;have hk:k<l.length:=by
  rcases dm k l.length with h'|h'
  ·exact h'
  ·rw[gO h']at h;exact nN h
 refine rR (MI hk) ?_;exact h
theorem MK{k:Int}{v:PV}(h0:0<=k)(h:l[k.toNat]?=some v):gH H (.l l) (.i k)=some v:=by
 have:=dB (H:=H) h
 rwa[Int.toNat_of_nonneg h0]at this
theorem DP{v:PV}(h:l.getLast?=some v):gH H (.l l) (.i<|-1)=some v:=by
 show(gx (-1) l.length).bind (λj=>l[j]?)=_;have hk:0<l.length:=by
  induction l using b9 with
  |nil=>simp at h
  |cons a t=>simp
 refine rR (MJ hk) ?_;rw[List.getLast?_eq_getElem?]at h;exact h
theorem yN{k m:Nat}{v:PV}(hm:H[m]?=some (some<|.l l))(h:l[k]?=some v):gH H (.e m) (.i k)=some v:=by
 have e:e_ H (.e m)=some l:=by simp only[e_,hm]
 show(match e_ H (.e m)with
  |some l=>(gx (k:Int) l.length).bind λj=>l[j]?
  |none=>_)=_
 refine rR e ?_;exact dB (H:=H) h
theorem u0{m:Nat}{v:PV}(hm:H[m]?=some (some<|.l l))(h:l.getLast?=some v):gH H (.e m) (.i<|-1)=some v:=by
 have e:e_ H (.e m)=some l:=by simp only[e_,hm]
 show(match e_ H (.e m)with
  |some l=>(gx (-1) l.length).bind λj=>l[j]?
  |none=>_)=_
 refine rR e ?_;exact DP (H:=H) h
theorem DQ{k:Nat}{v:PV}(h:l[k]?=some v):gH H (.t l) (.i k)=some v:=dB (H:=H) h
theorem sL{v:PV}:gH H (.t<|v::l) (.i 0)=some v:=DQ (k:=0) rfl
theorem sM{u v:PV}:gH H (.t<|u::v::l) (.i 1)=some v:=DQ (k:=1) rfl
theorem DR{u v w:PV}:gH H (.t<|u::v::w::l) (.i 2)=some w:=DQ (k:=2) rfl
theorem u9{v:PV}:gH H (.l<|v::l) (.i 0)=some v:=dB (k:=0) rfl
end
theorem sT{b c:Bool}{H:ak}:(if b=true then some (PV.b c,H)else some (PV.b b,H))=some (PV.b<|b&&c,H):=by induction b using cP<;>rfl
theorem ta{b c:Bool}{H:ak}:(if b=false then some (PV.b c,H)else some (PV.b b,H))=some (PV.b<|b||c,H):=by induction b using cP<;>rfl
noncomputable def isStr(p:PV):Prop:=∃s,p=.s s
def bT(l:au):Prop:=∀x∈l,isStr x
theorem bT.get{l:au}{i:Nat}{x:PV}(h:bT l)(hx:l[i]?=some x):∃s,x=.s s:=h x<|dY hx
theorem bT.app{l:au}(h:bT l)(s:String):bT (l++[.s s]):=λx hx=>by
 rcases dR.mp hx with hx|hx
 ·exact h x hx
 ·refine rR (dO.mp hx) ?_;exact⟨s,rfl⟩
theorem bT.nil:bT []:=λU h=>nomatch h
theorem bT.set{l:au}(h:bT l)(i:Nat)(s:String):bT (l.set i<|.s s):=λx hx=>by
 rcases List.mem_or_eq_of_mem_set hx with hx|rfl
 ·exact h x hx
 ·exact⟨s,rfl⟩
theorem dj{n:Nat}{p:PV}(h:p=.n\/(∃b,p=.b b)\/(∃i,p=.i i)\/∃s,p=.s s):fz n p=true:=by rcases h with rfl|⟨b,rfl⟩|⟨i,rfl⟩|⟨s,rfl⟩<;>induction n using gD<;>rfl
theorem u_{n:Nat}{i:Int}:fz n (.i i)=true:=by induction n using gD<;>rfl
theorem ML{n:Nat}{i:String}:fz n (.s i)=true:=by induction n using gD<;>rfl
theorem nS{n:Nat}{l:au}(h:∀x∈l,fz n x=true):fz (n+1) (.l l)=true:=by exact gj.mpr h
theorem MM{n:Nat}{l:au}(h:∀x∈l,fz n x=true):fz (n+1) (.t l)=true:=by exact gj.mpr h
theorem bT.fz{l:au}(h:bT l)(n:Nat):Mine.fz (n+1) (.l l)=true:=nS λx hx=>by(refine X1 (h x hx) λs aR=>?_;clear hx;subst aR);exact dj<|.inr<|.inr<|.inr ⟨s,rfl⟩
theorem iT{n:Nat}{H:ak}{p:PV}(h:p=.n\/(∃b,p=.b b)\/(∃i,p=.i i)\/∃s,p=.s s):b8 n H p=some p:=by rcases h with rfl|⟨b,rfl⟩|⟨i,rfl⟩|⟨s,rfl⟩<;>induction n using gD<;>rfl
theorem yO{n:Nat}{H:ak}{i:Int}:b8 n H (.i i)=some (.i i):=by induction n using gD<;>rfl
theorem MN{n:Nat}{H:ak}{i:String}:b8 n H (.s i)=some (.s i):=by induction n using gD<;>rfl
theorem qz{n:Nat}{H:ak}{l:au}(h:fz 4 (.l l)=true):b8 n H (.l l)=some (.l l):=by induction n using gD<;>exact bw h
theorem yP{n:Nat}{H:ak}{l:au}(h:∀x∈l,b8 n H x=some x):l.mapM (b8 n H)=some l:=by
 induction l with
 |nil=>rfl
 |cons a t ih=>
  refine rR List.mapM_cons<|rR (h a cR)<|rR (ih λx hx=>h x<|dh _ hx) ?_;rfl
theorem MO{n m:Nat}{H:ak}{l l':au}(hm:H[m]?=some (some<|.l l))(h:l.mapM (b8 n H)=some l'):b8 (n+1) H (.e m)=some (.l l'):=by show(H[m]?).bind _=_;refine rR hm ?_;show Option.map _ (l.mapM _)=_;refine rR h ?_;rfl
theorem gu{n m:Nat}{H:ak}{l:au}(hm:H[m]?=some (some<|.l l))(h:∀x∈l,b8 n H x=some x):b8 (n+1) H (.e m)=some (.l l):=MO hm<|yP h
theorem jg{n:Nat}{H:ak}{l:au}(h:∀x∈l,fz 3 x=true):b8 n H (.l l)=some (.l l):=by
 have e:fz 4 (.l l)=true:=nS h
 induction n using gD<;>exact bw e
theorem yQ{n:Nat}{H:ak}{l:au}(h:∀x∈l,b8 n H x=some x):b8 (n+1) H (.t l)=some (.t l):=by show Option.map _ (l.mapM _)=_;refine rR (yP h) ?_;rfl
theorem bT.b8{l:au}(h:bT l){n:Nat}{H:ak}:∀x∈l,Mine.b8 n H x=some x:=λx hx=>by(refine X1 (h x hx) λs aT=>?_;clear hx;subst aT);exact iT<|.inr<|.inr<|.inr ⟨s,rfl⟩
theorem MP{s:String}:∀{l:aY},(l.map PV.s).any (fj<|.s s)=decide (s∈l)
 |[]=>rfl
 |a::t=>by
  refine rR fK<|rR qY<|rR (MP (l:=t)) ?_
  show(decide (s=a)||decide (s∈t))=_;simp
theorem MQ:∀{l:aY},(l.map PV.s).all (simple 2)=true
 |[]=>rfl
 |a::t=>by refine rR fK<|rR oj<|rR (MQ (l:=t)) ?_;rfl
theorem gT{H:ak}{s:String}{l:aY}:cE H .i (.s s) (.t<|l.map .s)=some (decide<|s∈l):=by show(if simple 2 (.s s)&&(l.map PV.s).all (simple 2)then some ((l.map PV.s).any<|fj<|.s s)else none)=_;refine rR MQ<|rR MP ?_;rfl
theorem yR{H:ak}{s:String}{l:aY}:cE H .o (.s s) (.t<|l.map .s)=some (!decide (s∈l)):=by show(cE H .i (.s s)<|.t<|l.map .s).map (!·)=_;refine rR gT ?_;rfl
theorem j6{l:au}{i:Nat}{x:PV}(h:(dU l)[i]?=some x):∃v,l[i]?=some v/\x=.t [.i i,v]:=by
 unfold dU at h;rw[cQ,List.getElem?_zipIdx]at h;cases e:l[i]? with
 |none=>rw[e]at h;simp at h
 |some v=>rw[e]at h;simp at h;exact aA v rfl h.symm
theorem mP{l:au}:(dU l).length=l.length:=by simp[dU]
theorem pq{a b:Int}(h1:-1000<=a)(h2:a<=1000)(h3:-1000<=b)(h4:b<=1000):fb .r [.i a,.i b]=some (fk a b):=by
 have e:(cO a&&cO b&&decide (b-a<=2^20))=true:=by simp only[cO,Bool.and_eq_true,decide_eq_true_eq];exact UU h1 h2 h3 h4
 show(if(cO a&&cO b&&decide (b-a<=2^20))=true then some (fk a b)else none)=_;exact rR (bw e) rfl
theorem yS{b:Int}(h3:-1000<=b)(h4:b<=1000):fb .r [.i b]=some (fk 0 b):=by
 have e:(cO b&&decide (b<=2^20))=true:=by simp only[cO,Bool.and_eq_true,decide_eq_true_eq];exact UW h3 h4
 show(if(cO b&&decide (b<=2^20))=true then some (fk 0 b)else none)=_;exact rR (bw e) rfl
theorem MR{a b:Int}(h1:-1000<=a)(h2:a<=1000)(h3:-1000<=b)(h4:b<=1000):fb .r [.i a,.i b,.i<|-1]=some (kK a b):=by
 have e:(cO a&&cO b&&cO (b-a)&&decide (a-b<=2^20)&&decide ((-1:Int)=-1))=true:=by simp only[cO,Bool.and_eq_true,decide_eq_true_eq,and_true];exact UX h1 h2 h3 h4
 show(if(cO a&&cO b&&cO (b-a)&&decide (a-b<=2^20)&&decide ((-1:Int)=-1))=true then some (kK a b)else none)=_;exact rR (bw e) rfl
theorem sO{a b:Int}{i:Nat}{x:PV}(h:(fk a b)[i]?=some x):x=.i (a+i)/\a+i<b:=by
 unfold fk at h;rw[cQ]at h;refine aC (gV.mp h) λj hj aL=>?_;clear h;subst aL;have hlt:i<(b-a).toNat:=by
  rcases dm i (List.range (b-a).toNat).length with h'|h'
  ·simpa using h'
  ·rw[gO h']at hj;exact nN hj
 rw[lU hlt]at hj;have hj:=aK hj;subst hj;exact⟨rfl,VL hlt⟩
theorem qA(a b:Int):(fk a b).length=(b-a).toNat:=by simp[fk]
theorem MS{a b:Int}{i:Nat}{x:PV}(h:(kK a b)[i]?=some x):x=.i (a-i)/\b<a-i:=by
 unfold kK at h;rw[cQ]at h;refine aC (gV.mp h) λj hj aM=>?_;clear h;subst aM;have hlt:i<(a-b).toNat:=by
  rcases dm i (List.range (a-b).toNat).length with h'|h'
  ·simpa using h'
  ·rw[gO h']at hj;exact nN hj
 rw[lU hlt]at hj;have hj:=aK hj;subst hj;exact⟨rfl,VM hlt⟩
theorem MT(a b:Int):(kK a b).length=(a-b).toNat:=by simp[kK]
theorem cH{α:Type}{l:List α}{i:Nat}{x:α}(h:l[i]?=some x):i<l.length:=by
 rcases dm i l.length with h'|h'
 ·exact h'
 ·rw[gO h']at h;exact nN h
theorem h_{α:Type}{l:List α}{i:Nat}(h:i<l.length):∃x,l[i]?=some x:=⟨l[i],eE h⟩
theorem bq{Γ:b7}{ae:bf}{H:ak}{i:Nat}{v:PV}(h:ae[i]?=some (some v)):az Γ (.v i) ae H=some (v,H):=by show(ae[i]?).bind _=_;refine rR h ?_;rfl
theorem lO{Γ:b7}{ae:bf}{H:ak}{i:Nat}{v:PV}{o:bf}(h:ae[i]?=some (some v)):az Γ (.v i) (ae++o) H=some (v,H):=bq<|by rw[iZ<|cH h];exact h
theorem kO{Γ:b7}{ae:bf}{H:ak}{v:PV}{k i:Nat}{o:bf}(hl:ae.length=k)(h:o[i]?=some (some v)):az Γ (.v<|k+i) (ae++o) H=some (v,H):=bq<|by rw[<-hl,ku<|jt _ _,tP];exact h
theorem f_{Γ:b7}{a b:CE}{ae:bf}{H H1:ak}{c d:Bool}(ha:az Γ a ae H=some (.b c,H1))(hb:c=true->az Γ b ae H1=some (.b d,H1)):az Γ (.a true [a,b]) ae H=some (.b<|c&&d,H1):=by
 refine rR pn<|rR hU<|rR ha ?_
 simp only[Option.bind_some,fZ]
 induction c using cP with
 |false=>rfl
 |true=>
  refine rR (bw rfl)<|rR hU<|rR (hb rfl) ?_
  simp only[Option.bind_some,fZ,nR];clear hb
  induction d using cP<;>rfl
theorem pA{Γ:b7}{a b:CE}{ae:bf}{H H1:ak}{c d:Bool}(ha:az Γ a ae H=some (.b c,H1))(hb:c=false->az Γ b ae H1=some (.b d,H1)):az Γ (.a false [a,b]) ae H=some (.b<|c||d,H1):=by
 refine rR pn<|rR hU<|rR ha ?_
 simp only[Option.bind_some,fZ]
 induction c using cP with
 |true=>rfl
 |false=>
  refine rR (bw rfl)<|rR hU<|rR (hb rfl) ?_
  simp only[Option.bind_some,fZ,nR];clear hb
  induction d using cP<;>rfl
theorem iB{Γ:b7}{t a b:CE}{ae:bf}{H H1:ak}{c:Bool}{r:PV×ak}(ht:az Γ t ae H=some (.b c,H1))(ha:c=true->az Γ a ae H1=some r)(hb:c=false->az Γ b ae H1=some r):az Γ (.i t a b) ae H=some r:=by
 refine rR DM<|rR ht ?_
 simp only[Option.bind_some,fZ]
 induction c using cP with
 |true=>refine rR (bw rfl) ?_;exact ha rfl
 |false=>refine rR (bO<|by decide) ?_;exact hb rfl
theorem MU{Γ:b7}{a:CE}{ae:bf}{H H1:ak}{c:Bool}(ha:az Γ a ae H=some (.b c,H1)):az Γ (.o a) ae H=some (.b<|!c,H1):=by refine rR yJ<|rR ha ?_;rfl
theorem dD{Γ:b7}{op:lu}{a b:CE}{ae:bf}{H H1 H2:ak}{p q v:PV}(ha:az Γ a ae H=some (p,H1))(hb:az Γ b ae H1=some (q,H2))(h:kJ H2 op p q=some v):az Γ (.b op a b) ae H=some (v,H2):=by
 refine rR Mq<|rR ha ?_
 simp only[Option.bind_some,hb,h,Option.map_some]
section
variable {Γ:b7}{ae cZ:bf}{H H1 H2 H3 H4:ak}{Q:Res->Prop}{a b c:CE}{t:List CS}{i m:Nat}{v w u:PV}{l1 l2:au}
theorem aZ(h:az Γ a ae H=some (v,H1))(k:Ok (aF Γ t (ae.set i<|some v) H1) Q):Ok (aF Γ (.a i a::t) ae H) Q:=
 nP (by refine rR MB<|rR h ?_;rfl) k
theorem kP{is:aG}{l:au}(h:az Γ a ae H=some (.t l,H1))(hl:is.length=l.length)(k:Ok (aF Γ t (bx is l ae) H1) Q):Ok (aF Γ (.s is a::t) ae H) Q:=
 nP (by refine rR MC<|rR h ?_;show((if is.length=l.length then some (bx is l ae)else none).map _)=_;refine rR (bw hl) ?_;rfl) k
theorem nT(h:az Γ a ae H=some (v,H1))(k:Ok (aF Γ t ae H1) Q):Ok (aF Γ (.x a::t) ae H) Q:=
 nP (by refine rR ME<|rR h ?_;rfl) k
theorem tc(ha:az Γ a ae H=some (.e m,H1))(h1:H1[m]?=some (some<|.l l1))(hb:az Γ b ae H1=some (v,H2))(h2:H2[m]?=some (some<|.l l2))(hz:l2.length<=1000):
  az Γ (.q a b) ae H=some (.n,H2.set m<|some<|.l<|l2++[v]):=by
 have hz':l2.length<2^20:=QB hz;refine rR Mx<|rR ha ?_
 simp only[Option.bind_some,iL,h1,hb,h2];exact rR (bw hz') rfl
theorem eW(ha:az Γ a ae H=some (.e m,H1))(h1:H1[m]?=some (some<|.l l1))(hb:az Γ b ae H1=some (v,H2))(h2:H2[m]?=some (some<|.l l2))(hz:l2.length<=1000)
  (k:Ok (aF Γ t ae<|H2.set m<|some<|.l<|l2++[v]) Q):Ok (aF Γ (.x (.q a b)::t) ae H) Q:=nT (tc ha h1 hb h2 hz) k
theorem sP{r:au}(ha:az Γ a ae H=some (.e m,H1))(h1:H1[m]?=some (some<|.l l1))(hb:az Γ b ae H1=some (v,H2))(h2:H2[m]?=some (some<|.l l2))(hr:fh H2 v=some r)(hz:l2.length+r.length<=1000)
  (k:Ok (aF Γ t ae<|H2.set m<|some<|.l<|l2++r) Q):Ok (aF Γ (.x (.x a b)::t) ae H) Q:=by
 have hz':l2.length+r.length<=2^20:=QC hz;refine nT (v:=.n) ?_ k;refine rR My<|rR ha ?_
 simp only[Option.bind_some,iL,h1,hb,h2,hr];exact rR (bw hz') rfl
theorem yT(ha:az Γ a ae H=some (.e m,H1))(h1:H1[m]?=some (some<|.l l1))(hv:l1.getLast?=some v):az Γ (.u a) ae H=some (v,H1.set m<|some<|.l l1.dropLast):=by
 refine rR Mz<|rR ha ?_
 simp only[Option.bind_some,iL,h1,hv,Option.map_some]
theorem DS{p u:PV}(hc:az Γ c ae H=some (v,H1))(ha:az Γ a ae H1=some (p,H2))(hb:az Γ b ae H2=some (u,H3))(hs:rB H3 p u v=some H4)(q:Ok (aF Γ t ae H4) Q):Ok (aF Γ (.t a b c::t) ae H) Q:=
 nP (by refine rR MD<|rR hc ?_;simp only[Option.bind_some,ha,hb,hs,Option.map_some]) q
theorem MV{k:Int}{j:Nat}(h:H[m]?=some (some<|.l l1))(hk:gx k l1.length=some j):rB H (.e m) (.i k) v=some (H.set m<|some<|.l<|l1.set j v):=by show(H[m]?).bind _=_;refine rR h ?_;show(gx _ _).map _=_;refine rR hk ?_;rfl
theorem pB{k:Nat}(hc:az Γ c ae H=some (v,H1))(ha:az Γ a ae H1=some (.e m,H2))(hb:az Γ b ae H2=some (.i k,H3))(h3:H3[m]?=some (some<|.l l1))(hk:k<l1.length)
  (q:Ok (aF Γ t ae<|H3.set m<|some<|.l<|l1.set k v) Q):Ok (aF Γ (.t a b c::t) ae H) Q:=DS hc ha hb (MV h3<|MI hk) q
theorem MW(hc:az Γ c ae H=some (v,H1))(ha:az Γ a ae H1=some (.e m,H2))(hb:az Γ b ae H2=some (.i<|-1,H3))(h3:H3[m]?=some (some<|.l l1))(hk:0<l1.length)
  (q:Ok (aF Γ t ae<|H3.set m<|some<|.l<|l1.set (l1.length-1) v) Q):Ok (aF Γ (.t a b c::t) ae H) Q:=DS hc ha hb (MV h3<|MJ hk) q
theorem DT{k j:Int}{n:Nat}{f:Int->bK}(hc:az Γ c ae H=some (.i j,H1))(ha:az Γ a ae H1=some (.e m,H2))(hb:az Γ b ae H2=some (.i k,H3))(h3:H3[m]?=some (some<|.i n f))(hk:n<=1000)
  (q:Ok (aF Γ t ae<|H3.set m<|some (.i (n+1) λx=>if x=k then some j else f x)) Q):Ok (aF Γ (.t a b c::t) ae H) Q:=by
 refine DS hc ha hb ?_ q;show(H3[m]?).bind _=_;refine rR h3 ?_;exact bw<|Nat.lt_of_le_of_lt hk<|by decide
end
noncomputable def MX:=And.intro @cL<|And.intro @dP<|And.intro @ob<|And.intro @og<|And.intro @Mn<|And.intro @Mp<|And.intro @yI<|And.intro @Mq<|And.intro @yJ<|And.intro @Mr<|And.intro @Ms<|And.intro @pn<|And.intro @DM<|And.intro @Mt<|And.intro @Mu<|And.intro @DN<|And.intro @Mv<|And.intro @Mw<|And.intro @DO<|And.intro @lM<|And.intro @Mx<|And.intro @My<|And.intro @Mz<|And.intro @oo<|And.intro @ot<|And.intro @ox<|And.intro @sJ<|And.intro @yK<|And.intro @MA<|And.intro @nR<|And.intro @hU<|And.intro @MB<|And.intro @MC<|And.intro @oy<|And.intro @MD<|And.intro @ME<|And.intro @fZ<|And.intro @yL<|And.intro @oC<|And.intro @oD<|And.intro @oP<|And.intro @MF<|And.intro @o0<|And.intro @pd<|And.intro @ph<|And.intro @pj<|And.intro @pk<|And.intro @MG<|And.intro @pt<|And.intro @pE<|And.intro @qr<|And.intro @re<|And.intro @rk<|And.intro @sa<|And.intro @sb<|And.intro @sg<|And.intro @sk<|And.intro @sl<|And.intro @sm<|And.intro @sn<|And.intro @x_len<|And.intro @so<|And.intro @sp<|And.intro @sw<|And.intro @sB<|And.intro @sK<|And.intro @MH<|And.intro @sT<|And.intro @ta<|And.intro @Option.bind_some.{0,0} (And.intro @Option.map_some.{0,0} (And.intro @Bool.and_true<|And.intro @qW<|And.intro @Bool.or_false<|And.intro @Bool.false_or<|And.intro @Bool.not_true<|And.intro @Bool.not_false<|And.intro @if_true.{1} (And.intro @if_false.{1} (And.intro @decide_true<|And.intro @decide_false<|And.intro @Bool.false_eq_true<|And.intro @List.set_cons_zero.{0} (And.intro @List.set_cons_succ.{0} (And.intro @sL<|And.intro @sM<|@DR))))))
theorem wl:type_of%@MX:=MX
noncomputable def qB(l:Int):String:=if l %2=1 then "R" else "L"
theorem DU(n:Nat)(a b:Int)(H:ak):gam (n+1) "" "bidi_direction" [.i a,.i b] H=some (.s<|qB<|max a b,H):=by
 refine dX (ir:=HH) (vs:=[.i a,.i b]) (by kernel_rfl) rfl rfl rfl rfl ?_;show Ok (aF (gam n) AR [some<|.i a,some<|.i b] []) _;unfold AR;refine bX (v:=.s<|qB<|max a b) (H':=[]) ?_ rfl
 (try simp only[wl,bx,reduceIte];try rfl)
 unfold qB;split<;>simp_all
def mQ(o:Rt)(m:Nat)(H:ak):Prop:=∃out,o=some (.l out,H)/\bT out/\out.length=m
theorem fF{l:au}:fb .v [.l l]=some l:=rfl
theorem ji{l:au}:fb .e [.l l]=some (dU l):=rfl
theorem td:Av=.t (["ES","ET","CS"].map .s):=rfl
theorem DV:ur=.t (["EN","AN"].map .s):=rfl
theorem te:As=.t (["LRI","RLI","FSI","PDI"].map .s):=rfl
theorem MY:oK=.t (["RLE","LRE","RLO","LRO","PDF","BN"].map .s):=rfl
theorem tf:rE=.t (["RLE","LRE","RLO","LRO"].map .s):=rfl
theorem ti:iM=.t (["LRI","RLI","FSI"].map .s):=rfl
theorem tj:Ar=.t (["L","R","AL"].map .s):=rfl
theorem tm(n:Nat){l:au}(hl:bT l)(H:ak):mQ (gam (n+1) "" "bidi_left_overs" [.l l] H) l.length H:=by
 obtain⟨v,e,out,rfl,h1,h2⟩:=lJ (n:=n) (c:="") (f:="bidi_left_overs") (ir:=HY) (vs:=[.l l]) (args:=[.l l]) (H:=H) (Q:=λv=>∃out,v=.l out/\bT out/\out.length=l.length) (by kernel_rfl) rfl rfl rfl (by simp[hl.fz]) (by
  show Ok (aF (gam n) A_ [some<|.l l] []) _;unfold A_
  let f:PV->PV:=λx=>match x with
   |.s s=>if s∈["ES","ET","CS"]then .s "ON" else .s s
   |x=>x
  have hf:bT (l.map f):=λx hx=>by
   refine aC (bV.mp hx) λy hy aP=>?_;clear hx;subst aP;refine X1 (hl y hy) λs aN=>?_;clear hy;subst aN;show isStr (if s∈["ES","ET","CS"]then .s "ON" else .s s);split
   ·exact⟨_,rfl⟩
   ·exact⟨_,rfl⟩
  refine bX (v:=.l<|l.map f) (H':=[]) ?_<|lX _ ?_ _ rfl hf (by simp)
  ·(try simp only[wl,bx,reduceIte];try rfl)
   refine rR fF ?_;simp only[Option.bind_some];rw[comp_map (f:=f) λx hx=>?_]
   ·rfl
   ·(refine X1 (hl x hx) λs aQ=>?_;clear hx;subst aQ)
    simp only[iK,List.cons_append,List.nil_append]
    (try simp only[wl,bx,reduceIte];try rfl)
    refine rR td (rR gT ?_)
    (try simp only[wl,bx,reduceIte];try rfl)
    show _=some (some (if s∈["ES","ET","CS"]then PV.s "ON" else .s s),_);by_cases h:s∈["ES","ET","CS"]<;>simp[h]
  ·exact jg λx hx=>by(refine X1 (hf x hx) λs aR=>?_;clear hx;subst aR);exact dj<|.inr<|.inr<|.inr ⟨s,rfl⟩)
 exact cM out e h1 h2
theorem vc{n:Nat}{f:String}{ir:bl}{args vs:au}{m:Nat}{H:ak}(hl:iN.lookup ("",f)=some ir)(hk:ir.kind=.f)(hp:ir.pure=true)(hf:jb ir args=some vs)(hz:vs.all (fz 8)=true)
  (hr:Ok (aF (gam n) ir.body (g7 ir vs) []) λr=>∃k out,fX r.1=.e k/\r.2.2[k]?=some (some<|.l out)/\bT out/\out.length=m):mQ (gam (n+1) "" f args H) m H:=by
 obtain⟨v,e,out,rfl,h1,h2⟩:=lJ (H:=H) (Q:=λv=>∃out,v=.l out/\bT out/\out.length=m) hl hk hp hf hz (hr.mono λr h=>by
  refine eJ h λk out e e2 h1 h2=>?_
  exact lX (.l out) (by refine rR e ?_;exact gu e2 h1.b8) out rfl h1 h2)
 exact cM out e h1 h2
theorem to(n:Nat){l:au}{bh:String}(hl:bT l)(hb:l.length<=900)(H:ak):mQ (gam (n+1) "" "bidi_marks" [.l l,.s bh] H) l.length H:=by
 refine vc (ir:=HQ) (vs:=[.l l,.s bh]) (by kernel_rfl) rfl rfl rfl (by simp[hl.fz,dj]) ?_;show Ok (aF (gam n) AY [some<|.l l,some<|.s bh,none,none,none] []) _;unfold AY;refine aZ (v:=.e 0) (H1:=[some<|.l []]) rfl ?_;refine aZ (v:=.s bh) (H1:=[some<|.l []]) rfl ?_;refine gr (H':=[some<|.l []]) (items:=l) (λi ae H=>∃out last o4,bT out/\out.length=i/\ae=[some<|.l l,some<|.s bh,some<|.e 0,some<|.s last,o4]/\H=[some<|.l out])
  rfl fF (lY [] bh none bT.nil rfl rfl rfl) (λi x ae H hx hI=>?_) (λae H hI=>?_)
 ·(refine kE hI λout last o4 h1 h2 aT aL=>?_;clear hI;subst aT;subst aL)
  refine X1 (hl.get hx) λs aM=>?_;subst aM;have hi:i<l.length:=by
   rcases dm i l.length with h|h
   ·exact h
   ·rw[gO h]at hx;exact nN hx
  refine aA _ rfl ?_;have fin:∀s':String,Ok (aF (gam n) [.x<|.q (.v 2)<|.v 4,.a 3<|.v 4] [some<|.l l,some<|.s bh,some<|.e 0,some<|.s last,some<|.s s'] [some<|.l out])
    (Turn (λae H=>∃out last o4,bT out/\out.length=i+1/\ae=[some<|.l l,some<|.s bh,some<|.e 0,some<|.s last,o4]/\H=[some<|.l out]) (After (gam n) [.r<|.v 2] λr=>∃k out,fX r.1=.e k/\r.2.2[k]?=some (some<|.l out)/\bT out/\out.length=l.length)):=λs'=>by
   refine eW (m:=0) (l1:=out) (l2:=out) (v:=.s s') (H1:=[some<|.l out]) (H2:=[some<|.l out]) rfl rfl rfl rfl (QD hb h2 hi) ?_;refine aZ (v:=.s s') (H1:=[some<|.l<|out++[.s s']]) rfl<|cu ?_
   exact lY _ _ _ (h1.app s') (by simp[h2]) rfl rfl
  refine bU (c:=decide<|s="NSM") (H':=[some<|.l out]) rfl (λhc=>?_) λhc=>fin s
  refine aZ (v:=.s (if last∈["LRI","RLI","FSI","PDI"]then "ON" else last)) (H1:=[some<|.l out]) (by
   (try simp only[wl,bx,reduceIte];try rfl)
   refine rR te (rR gT ?_)
   (try simp only[wl,bx,reduceIte];try rfl)
   by_cases h:last∈["LRI","RLI","FSI","PDI"]<;>simp[h])<|fin _
 ·(refine kE hI λout last o4 h1 h2 aP aN=>?_;clear hI;subst aP;subst aN)
  exact bX (v:=.e 0) (H':=[some<|.l out]) rfl<|fy 0 out rfl rfl h1 h2
theorem tr{H:ak}{s:String}:cE H .i (.s s) (.t [.s "L",.s "R",.s "AL"])=some (decide<|s∈["L","R","AL"]):=gT (l:=["L","R","AL"])
theorem tv{H:ak}{s:String}:cE H .i (.s s) (.t [.s "L",.s "R"])=some (decide<|s∈["L","R"]):=gT (l:=["L","R"])
theorem tx(n:Nat){l:au}(hl:bT l)(H:ak):mQ (gam (n+1) "" "bidi_arabic_letters" [.l l] H) l.length H:=by
 obtain⟨v,e,out,rfl,h1,h2⟩:=lJ (n:=n) (c:="") (f:="bidi_arabic_letters") (ir:=HT) (vs:=[.l l]) (args:=[.l l]) (H:=H) (Q:=λv=>∃out,v=.l out/\bT out/\out.length=l.length) (by kernel_rfl) rfl rfl rfl (by simp[hl.fz]) (by
  show Ok (aF (gam n) AZ [some<|.l l] []) _;unfold AZ
  let f:PV->PV:=λx=>match x with
   |.s s=>if s="AL" then .s "R" else .s s
   |x=>x
  have hf:bT (l.map f):=λx hx=>by
   refine aC (bV.mp hx) λy hy aQ=>?_;clear hx;subst aQ;refine X1 (hl y hy) λs aR=>?_;clear hy;subst aR;show isStr (if s="AL" then .s "R" else .s s);split
   ·exact⟨_,rfl⟩
   ·exact⟨_,rfl⟩
  refine bX (v:=.l<|l.map f) (H':=[]) ?_<|lX _ ?_ _ rfl hf (by simp)
  ·(try simp only[wl,bx,reduceIte];try rfl)
   refine rR fF ?_;simp only[Option.bind_some];rw[comp_map (f:=f) λx hx=>?_]
   ·rfl
   ·(refine X1 (hl x hx) λs aT=>?_;clear hx;subst aT)
    simp only[iK,List.cons_append,List.nil_append]
    (try simp only[wl,bx,reduceIte];try rfl)
    show _=some (some (if s="AL" then PV.s "R" else .s s),_);by_cases h:s="AL"<;>simp[h]
  ·exact jg λx hx=>by(refine X1 (hf x hx) λs aL=>?_;clear hx;subst aL);exact dj<|.inr<|.inr<|.inr ⟨s,rfl⟩)
 exact cM out e h1 h2
theorem MZ{n:Nat}{l:au}{bh:String}{body:List CS}(hl:bT l)(hb:l.length<=900)
  (hs:∀s ve out,out.length<=900->Ok (aF (gam n) body [some<|.l l,some<|.s bh,some<|.e 0,some<|.s ve,some<|.s s] [some<|.l out]) (λr=>r.1=.n/\∃qC s' o4,r.2.1=[some<|.l l,some<|.s bh,some<|.e 0,some<|.s qC,o4]/\r.2.2=[some<|.l<|out++[.s s']])):
  Ok (aF (gam n) [.a 2<|.e [],.a 3<|.v 1,.f false [4] .v [.v 0] body,.r<|.v 2] [some<|.l l,some<|.s bh,none,none,none] []) (λr=>∃k out,fX r.1=.e k/\r.2.2[k]?=some (some<|.l out)/\bT out/\out.length=l.length):=by
 refine aZ (v:=.e 0) (H1:=[some<|.l []]) rfl ?_;refine aZ (v:=.s bh) (H1:=[some<|.l []]) rfl ?_;refine gr (H':=[some<|.l []]) (items:=l) (λi ae H=>∃out last o4,bT out/\out.length=i/\ae=[some<|.l l,some<|.s bh,some<|.e 0,some<|.s last,o4]/\H=[some<|.l out])
  rfl fF (lY [] bh none bT.nil rfl rfl rfl) (λi x ae H hx hI=>?_) (λae H hI=>?_)
 ·(refine kE hI λout last o4 h1 h2 aM aP=>?_;clear hI;subst aM;subst aP)
  refine X1 (hl.get hx) λs aN=>?_;subst aN;have hi:=cH hx;refine aA _ rfl ((hs s last out<|QE hb h2 hi).mono λr h=>?_);obtain⟨f,cZ,H'⟩:=r;refine Pf h λaQ qC s' o4 aR aT=>?_;subst aQ;clear h;subst aR;subst aT;exact lY _ qC o4 (h1.app s') (by simp[h2]) rfl rfl
 ·(refine kE hI λout last o4 h1 h2 aL aM=>?_;clear hI;subst aL;subst aM)
  exact bX (v:=.e 0) (H':=[some<|.l out]) rfl<|fy 0 out rfl rfl h1 h2
theorem ty(n:Nat){l:au}{bh:String}(hl:bT l)(hb:l.length<=900)(H:ak):mQ (gam (n+1) "" "bidi_arabic_numbers" [.l l,.s bh] H) l.length H:=by
 refine vc (ir:=HS) (vs:=[.l l,.s bh]) (by kernel_rfl) rfl rfl rfl (by simp[hl.fz,dj]) ?_;show Ok (aF (gam n) HR [some<|.l l,some<|.s bh,none,none,none] []) _;refine MZ hl hb λs ve out ho=>?_;have fin:∀st:String,Ok (aF (gam n) [.x<|.q (.v 2)<|.i (.a true [.m .e (.v 4)<|.c<|.s "EN",.m .e (.v 3)<|.c<|.s "AL"]) (.c<|.s "AN")<|.v 4] [some<|.l l,some<|.s bh,some<|.e 0,some<|.s st,some<|.s s] [some<|.l out])
   (λr=>r.1=.n/\∃qC s' o4,r.2.1=[some<|.l l,some<|.s bh,some<|.e 0,some<|.s qC,o4]/\r.2.2=[some<|.l<|out++[.s s']]):=λst=>by
  refine eW (m:=0) (l1:=out) (l2:=out) (v:=.s (if(decide (s="EN")&&decide (st="AL"))=true then "AN" else s)) (H1:=[some<|.l out]) (H2:=[some<|.l out]) rfl rfl (by
   (try simp only[wl,bx,reduceIte];try rfl)
   split<;>rfl) rfl (rm ho)<|cu<|Fy rfl _ _ _ rfl rfl
 refine bU (c:=decide<|s∈["L","R","AL"]) (H':=[some<|.l out]) (by(try simp only[wl,bx,reduceIte];try rfl);refine rR tr ?_;(try simp only[wl,bx,reduceIte];try rfl)) (λhc=>?_) λhc=>fin ve;exact aZ (v:=.s s) (H1:=[some<|.l out]) rfl<|fin s
theorem tz(n:Nat){l:au}{bh:String}(hl:bT l)(hb:l.length<=900)(H:ak):mQ (gam (n+1) "" "bidi_left_numbers" [.l l,.s bh] H) l.length H:=by
 refine vc (ir:=H6) (vs:=[.l l,.s bh]) (by kernel_rfl) rfl rfl rfl (by simp[hl.fz,dj]) ?_;show Ok (aF (gam n) HZ [some<|.l l,some<|.s bh,none,none,none] []) _;refine MZ hl hb λs ve out ho=>?_;have fin:∀st:String,Ok (aF (gam n) [.x<|.q (.v 2)<|.i (.a true [.m .e (.v 4)<|.c<|.s "EN",.m .e (.v 3)<|.c<|.s "L"]) (.c<|.s "L")<|.v 4] [some<|.l l,some<|.s bh,some<|.e 0,some<|.s st,some<|.s s] [some<|.l out])
   (λr=>r.1=.n/\∃qC s' o4,r.2.1=[some<|.l l,some<|.s bh,some<|.e 0,some<|.s qC,o4]/\r.2.2=[some<|.l<|out++[.s s']]):=λst=>by
  refine eW (m:=0) (l1:=out) (l2:=out) (v:=.s (if(decide (s="EN")&&decide (st="L"))=true then "L" else s)) (H1:=[some<|.l out]) (H2:=[some<|.l out]) rfl rfl (by
   (try simp only[wl,bx,reduceIte];try rfl)
   split<;>rfl) rfl (rm ho)<|cu<|Fy rfl _ _ _ rfl rfl
 refine bU (c:=decide<|s∈["L","R"]) (H':=[some<|.l out]) (by(try simp only[wl,bx,reduceIte];try rfl);refine rR tv ?_;(try simp only[wl,bx,reduceIte];try rfl)) (λhc=>?_) λhc=>fin ve;exact aZ (v:=.s s) (H1:=[some<|.l out]) rfl<|fin s
theorem tA(n:Nat){l:au}(hl:bT l)(hb:l.length<=900)(H:ak):mQ (gam (n+1) "" "bidi_separators" [.l l] H) l.length H:=by
 refine vc (ir:=HU) (vs:=[.l l]) (by kernel_rfl) rfl rfl rfl (by simp[hl.fz]) ?_;show Ok (aF (gam n) A0 [some<|.l l,none,none,none,none] []) _;unfold A0;refine aZ (v:=.e 0) (H1:=[some<|.l l]) rfl ?_;refine gr (H':=[some<|.l l]) (vs:=[.i 1,.i<|l.length-1]) (items:=fk 1<|l.length-1) (λi ae H=>∃out o2 o3 o4,bT out/\out.length=l.length/\ae=[some<|.l l,some<|.e 0,o2,o3,o4]/\H=[some<|.l out])
  rfl (pq QF QG Aa<|QH hb) (pX l none none none hl rfl rfl rfl) (λi x ae H hx hI=>?_) (λae H hI=>?_)
 ·(refine wq hI λout o2 o3 o4 h1 h2 aP aN=>?_;clear hI;subst aP;subst aN)
  refine U1 (sO hx) λaQ hlt=>?_;clear hx;subst aQ;have e1:(1+(i:Int))=((i+1:Nat):Int):=QI;refine X1 (h_ (l:=l) (i:=i+1)<|QJ hlt) λx1 g1=>?_;refine X1 (h_ (l:=l) (i:=i)<|QK hlt) λx0 g0=>?_;refine X1 (h_ (l:=l) (i:=i+2)<|QL hlt) λx2 g2=>?_;refine X1 (hl.get g1) λs1 aR=>?_;subst aR;refine X1 (hl.get g0) λs0 aT=>?_;subst aT;refine X1 (hl.get g2) λs2 aL=>?_;subst aL;refine rR e1 ?_;refine aA _ rfl ?_
  refine kP (l:=[.s s1,.s s0]) (H1:=[some<|.l out]) (by
   (try simp only[wl,bx,reduceIte];try rfl)
   refine rR (dB g1) (rR (show(((i+1:Nat):Int)-1)=((i:Nat):Int)from F0) ?_)
   (try simp only[wl,bx,reduceIte];try rfl)
   refine rR (dB g0) ?_
   (try simp only[wl,bx,reduceIte];try rfl)) rfl ?_
  have done:∀out',bT out'->out'.length=l.length->Turn (λae H=>∃out o2 o3 o4,bT out/\out.length=l.length/\ae=[some<|.l l,some<|.e 0,o2,o3,o4]/\H=[some<|.l out]) (After (gam n) [.r<|.v 1] λr=>∃k out,fX r.1=.e k/\r.2.2[k]?=some (some<|.l out)/\bT out/\out.length=l.length)
    (.n,[some<|.l l,some<|.e 0,some<|.i ((i+1:Nat):Int),some<|.s s1,some<|.s s0],[some<|.l out']):=λout' g1 g2=>pX out' _ _ _ g1 g2 rfl rfl
  refine bU (c:=decide<|s0=s2) (H':=[some<|.l out]) (by
   (try simp only[wl,bx,reduceIte];try rfl)
   refine rR (show(((i+1:Nat):Int)+1)=((i+2:Nat):Int)from QM) (rR (dB g2) ?_)
   (try simp only[wl,bx,reduceIte];try rfl)) (λhc=>?_) λhc=>cu<|done out h1 h2
  refine bU (c:=(decide (s1="CS")&&decide (s0∈["EN","AN"]))||(decide (s1="ES")&&decide (s0="EN"))) (H':=[some<|.l out]) (by
   (try simp only[wl,bx,reduceIte];try rfl)
   refine rR DV (rR gT ?_)
   (try simp only[wl,bx,reduceIte];try rfl)) (λhc=>?_) λhc=>cu<|done out h1 h2
  refine pB (k:=i+1) (v:=.s s0) (m:=0) (l1:=out) (H1:=[some<|.l out]) (H2:=[some<|.l out]) (H3:=[some<|.l out]) rfl rfl rfl rfl (QN h2 hlt)<|cu<|done _ (h1.set _ _) (by simp[h2])
 ·(refine wq hI λout o2 o3 o4 h1 h2 aM aP=>?_;clear hI;subst aM;subst aP)
  exact bX (v:=.e 0) (H':=[some<|.l out]) rfl<|fy 0 out rfl rfl h1 h2
theorem dF{Γ:b7}{a:CE}{ae:bf}{H H1:ak}{p v:PV}{c f:String}{ns:aY}{l:au}(ha:az Γ a ae H=some (p,H1))(hf:fieldsOf H1 p=some (c,ns,l))(hb:qa c f=true)(hl:fW f ns l=some v):az Γ (.f a f) ae H=some (v,H1):=by
 refine rR Mv<|rR ha ?_
 simp only[Option.bind_some,hf,hb,hl,if_true,Option.map_some]
theorem bP{Γ:b7}{es:List CE}{ae:bf}{H H1:ak}{vs:au}{f:String}{r:PV×ak}(ha:cX Γ es ae H=some (vs,H1))(h:Γ "" f vs H1=some r):az Γ (.h f es) ae H=some r:=by refine rR Mw<|rR ha ?_;exact h
theorem e_idx{Γ:b7}{a b:CE}{ae:bf}{H H1 H2:ak}{p q v:PV}(ha:az Γ a ae H=some (p,H1))(hb:az Γ b ae H1=some (q,H2))(h:gH H2 p q=some v):az Γ (.d a b) ae H=some (v,H2):=by
 refine rR Mt<|rR ha ?_
 simp only[Option.bind_some,hb,h,Option.map_some]
theorem bu{Γ:b7}{op:gw}{a b:CE}{ae:bf}{H H1 H2:ak}{p q:PV}{c:Bool}(ha:az Γ a ae H=some (p,H1))(hb:az Γ b ae H1=some (q,H2))(h:cE H2 op p q=some c):az Γ (.m op a b) ae H=some (.b c,H2):=by
 refine rR Mr<|rR ha ?_
 simp only[Option.bind_some,hb,h,Option.map_some]
theorem bA{Γ:b7}{ae:bf}{H:ak}:cX Γ [] ae H=some ([],H):=yK
theorem aJ{Γ:b7}{a:CE}{es:List CE}{ae:bf}{H H1 H2:ak}{p:PV}{vs:au}(ha:az Γ a ae H=some (p,H1))(h:cX Γ es ae H1=some (vs,H2)):cX Γ (a::es) ae H=some (p::vs,H2):=by
 refine rR MA<|rR ha ?_
 simp only[Option.bind_some,h,Option.map_some]
theorem j7{Γ:b7}{es:List CE}{ae:bf}{H H1:ak}{vs:au}(h:cX Γ es ae H=some (vs,H1)):az Γ (.t es) ae H=some (.t vs,H1):=by refine rR Mn<|rR h ?_;rfl
theorem M0{Γ:b7}{es:List CE}{ae:bf}{H H1:ak}{vs:au}(h:cX Γ es ae H=some (vs,H1)):az Γ (.l es) ae H=some (.l vs,H1):=by refine rR Mp<|rR h ?_;rfl
noncomputable def j8(n:Nat)(l:au):Prop:=∀x∈l,∃a b:Nat,a<b/\b<=n/\x=.t [.i a,.i b]
theorem j8.nil{n:Nat}:j8 n []:=λU h=>nomatch h
theorem j8.app{n:Nat}{l:au}(h:j8 n l){a b:Nat}(h1:a<b)(h2:b<=n):j8 n (l++[.t [.i a,.i b]]):=λx hx=>by
 rcases dR.mp hx with hx|hx
 ·exact h x hx
 ·refine rR (dO.mp hx) ?_;exact fg a b h1 h2 rfl
theorem j8.b8{m:Nat}{l:au}(h:j8 m l){n:Nat}{H:ak}:∀x∈l,Mine.b8 (n+1) H x=some x:=λx hx=>by
 refine d_ (h x hx) λa b U U aN=>?_;clear hx;subst aN;exact yQ λy hy=>by
  simp only[List.mem_cons,List.not_mem_nil,or_false]at hy;rcases hy with rfl|rfl
  ·exact iT<|.inr<|.inr<|.inl ⟨_,rfl⟩
  ·exact iT<|.inr<|.inr<|.inl ⟨_,rfl⟩
theorem M1(n:Nat){l:au}{ks:aY}(hl:bT l)(hb:l.length<=900)(H:ak):∃out,gam (n+1) "" "bidi_runs" [.l l,.t<|ks.map .s] H=some (.l out,H)/\j8 l.length out:=by
 have fin:∃v,gam (n+1) "" "bidi_runs" [.l l,.t<|ks.map .s] H=some (v,H)/\∃out,v=.l out/\j8 l.length out:=by
  refine lJ (ir:=HV) (vs:=[.l l,.t<|ks.map .s]) (by kernel_rfl) rfl rfl rfl (by
   have:fz 8 (.t<|ks.map .s)=true:=MM λx hx=>by(refine aC (bV.mp hx) λs U aQ=>?_;clear hx;subst aQ);exact dj<|.inr<|.inr<|.inr ⟨s,rfl⟩
   simp[hl.fz,this]) ?_
  show Ok (aF (gam n) A3 [some<|.l l,some<|.t<|ks.map .s,none,none,none,none] []) _;unfold A3;refine aZ (v:=.e 0) (H1:=[some<|.l []]) rfl ?_;refine aZ (v:=.n) (H1:=[some<|.l []]) rfl ?_;refine gr (H':=[some<|.l []]) (items:=dU l) (λi ae H=>∃out bg o4 o5,j8 l.length out/\out.length<=i/\(bg=.n\/∃b:Nat,bg=.i b/\b<i)/\ae=[some<|.l l,some<|.t<|ks.map .s,some<|.e 0,some bg,o4,o5]/\H=[some<|.l out])
   rfl ji (pY [] .n none none j8.nil (bY _) (.inl rfl) rfl rfl) (λi x ae H hx hI=>?_) (λae H hI=>?_)
  ·(refine E_ hI λout bg o4 o5 h1 h2 h3 aR aT=>?_;subst aR;clear hI;subst aT)
   refine aC (j6 hx) λv hv aL=>?_;clear hx;subst aL;have hi:=cH hv;refine X1 (hl.get hv) λs aM=>?_;clear hv;subst aM;refine aA _ rfl ?_;have stay:∀{P:bf->ak->Prop},True:=trivial;rcases h3 with rfl|⟨b,rfl,hbi⟩
   ·refine bU (c:=decide<|s∈ks) (H':=[some<|.l out]) (by(try simp only[wl,bx,reduceIte];try rfl);refine rR gT ?_;(try simp only[wl,bx,reduceIte];try rfl)) (λhc=>?_) λhc=>?_
    ·exact aZ (v:=.i i) (H1:=[some<|.l out]) rfl<|cu<|pY out (.i i) _ _ h1 (l8 h2) (.inr<|aA i rfl l9) rfl rfl
    ·refine bU (c:=false) (H':=[some<|.l out]) (by(try simp only[wl,bx,reduceIte];try rfl);refine rR yR ?_;(try simp only[wl,bx,reduceIte];try rfl);simp) nB λU=>cu<|pY out .n _ _ h1 (l8 h2) (.inl rfl) rfl rfl
   ·refine bU (c:=false) (H':=[some<|.l out]) (by(try simp only[wl,bx,reduceIte];try rfl);refine rR gT ?_;(try simp only[wl,bx,reduceIte];try rfl);simp) nB λU=>?_;refine bU (c:=!decide (s∈ks)) (H':=[some<|.l out]) (by(try simp only[wl,bx,reduceIte];try rfl);refine rR yR ?_;(try simp only[wl,bx,reduceIte];try rfl)) (λhc=>?_) λhc=>?_
    ·refine eW (m:=0) (l1:=out) (l2:=out) (v:=.t [.i b,.i i]) (H1:=[some<|.l out]) (H2:=[some<|.l out]) rfl rfl rfl rfl (QO hb h2 hi) ?_;exact aZ (v:=.n) (H1:=[some<|.l<|out++[.t [.i b,.i i]]]) rfl<|cu<|pY _ .n _ _ (h1.app hbi<|gX hi) (by simp;exact ud h2) (.inl rfl) rfl rfl
    ·exact cu<|pY out (.i b) _ _ h1 (l8 h2) (.inr<|aA b rfl<|ue hbi) rfl rfl
  ·(refine E_ hI λout bg o4 o5 h1 h2 h3 aP aN=>?_;subst aP;clear hI;subst aN)
   rw[mP]at h2 h3;have fin:∀out',j8 l.length out'->Ok (aF (gam n) [.r<|.v 2] [some<|.l l,some<|.t<|ks.map .s,some<|.e 0,some bg,o4,o5] [some<|.l out']) (λr=>∃v,b8 6 r.2.2 (fX r.1)=some v/\∃out,v=.l out/\j8 l.length out):=λout' h=>
    bX (v:=.e 0) (H':=[some<|.l out']) rfl (Py (.l out') (gu rfl h.b8) out' rfl h)
   rcases h3 with rfl|⟨b,rfl,hbi⟩
   ·exact bU (c:=false) (H':=[some<|.l out]) rfl nB λU=>fin out h1
   ·refine bU (c:=true) (H':=[some<|.l out]) rfl (λU=>?_) tB;exact eW (m:=0) (l1:=out) (l2:=out) (v:=.t [.i b,.i l.length]) (H1:=[some<|.l out]) (H2:=[some<|.l out]) rfl rfl rfl rfl (QS hb h2)<|fin _ (h1.app hbi<|bY _)
 refine ni fin λv e out aQ h=>?_;subst aQ;exact aA out e h
theorem t3(n:Nat){l:au}{a b:Nat}{p q:PV}(hl:bT l)(hb:l.length<=900)(hab:a<b)(hbn:b<=l.length)(hp:fz 8 p=true)(hq:fz 8 q=true)(H:ak):
  ∃x y,gam (n+1) "" "bidi_beside" [.l l,.i a,.i b,p,q] H=some (.t [x,y],H)/\(x∈l\/x=p)/\(y∈l\/y=q)\/¬(∀z,z∈[p,q]->b8 5 [] z=some z):=by
 by_cases hz:∀z,z∈[p,q]->b8 5 [] z=some z
 ·have fin:∃v,gam (n+1) "" "bidi_beside" [.l l,.i a,.i b,p,q] H=some (v,H)/\∃x y,v=.t [x,y]/\(x∈l\/x=p)/\(y∈l\/y=q):=by
   refine lJ (ir:=HW) (vs:=[.l l,.i a,.i b,p,q]) (by kernel_rfl) rfl rfl rfl (by simp[hl.fz,hp,hq,dj]) ?_;show Ok (aF (gam n) A4 [some<|.l l,some<|.i a,some<|.i b,some p,some q,none] []) _;unfold A4;obtain⟨x,hx,ex⟩:∃x,(x∈l\/x=p)/\az (gam n) (.i (.m .g (.v 1)<|.c<|.i 0) (.d (.v 0)<|.b .s (.v 1)<|.c<|.i 1)<|.v 3) [some<|.l l,some<|.i a,some<|.i b,some p,some q,none] []=some (x,[]):=by
    by_cases h0:0<a
    ·refine X1 (h_ (l:=l) (i:=a-1)<|QT hab hbn) λx hx=>?_;refine aA x (.inl<|dY hx) ?_
     (try simp only[wl,bx,reduceIte];try rfl)
     refine rR (show decide ((0:Int)<(a:Int))=true by simpa using h0) (rR (show((a:Int)-1)=((a-1:Nat):Int)from QU h0)<|rR (dB hx) ?_);rfl
    ·refine aA p (.inr rfl) ?_
     (try simp only[wl,bx,reduceIte];try rfl)
     refine rR (show decide ((0:Int)<(a:Int))=false by simpa using h0) ?_;rfl
   obtain⟨y,hy,ey⟩:∃y,(y∈l\/y=q)/\az (gam n) (.i (.m .l (.v 2)<|.k .l [.v 0]) (.d (.v 0)<|.v 2)<|.v 4) [some<|.l l,some<|.i a,some<|.i b,some p,some q,some x] []=some (y,[]):=by
    by_cases h0:b<l.length
    ·refine X1 (h_ (l:=l) (i:=b) h0) λy hy=>?_;refine aA y (.inl<|dY hy) ?_
     (try simp only[wl,bx,reduceIte];try rfl)
     refine rR (show decide ((b:Int)<(l.length:Int))=true by simpa using h0) (rR (dB hy) ?_);rfl
    ·refine aA q (.inr rfl) ?_
     (try simp only[wl,bx,reduceIte];try rfl)
     refine rR (show decide ((b:Int)<(l.length:Int))=false by simpa using h0) ?_;rfl
   refine aZ ex ?_;refine bX (v:=.t [x,y]) (H':=[]) (j7<|aJ rfl<|aJ ey bA)<|Fi _ (yQ λz hz'=>?_) x y rfl hx hy
   have ok:∀z,z∈l->b8 5 [] z=some z:=λz h=>hl.b8 z h;simp only[List.mem_cons,List.not_mem_nil,or_false]at hz';clear ex ey;rcases hz' with rfl|rfl
   ·clear hp;rcases hx with hx|rfl
    ·exact ok _ hx
    ·exact hz _ (by simp)
   ·clear hq;rcases hy with hy|rfl
    ·exact ok _ hy
    ·exact hz _ (by simp)
  refine Pj fin λv e x y aR h=>?_;subst aR;exact I2 x y<|.inl ⟨e,h⟩
 ·exact I2 .n .n<|.inr hz
theorem M3(n:Nat){l:au}{a b:Nat}{p q:PV}(hl:bT l)(hb:l.length<=900)(hab:a<b)(hbn:b<=l.length)(hp:p=.n\/isStr p)(hq:q=.n\/isStr q)(H:ak):
  ∃x y,gam (n+1) "" "bidi_beside" [.l l,.i a,.i b,p,q] H=some (.t [x,y],H)/\(isStr x\/x=p)/\(isStr y\/y=q):=by
 have fl:∀z:PV,z=.n\/isStr z->(z=.n\/(∃b,z=.b b)\/(∃i,z=.i i)\/∃s,z=.s s):=λz h=>h.imp id λh=>.inr<|.inr h
 obtain⟨x,y,⟨e,hx,hy⟩|h⟩:=t3 n hl hb hab hbn (dj<|fl p hp) (dj<|fl q hq) H
 ·exact fg x y e (hx.imp (hl x) id)<|hy.imp (hl y) id
 ·refine absurd (λz hz=>?_) h;simp only[List.mem_cons,List.not_mem_nil,or_false]at hz;clear h;rcases hz with rfl|rfl
  ·exact iT<|fl _ hp
  ·exact iT<|fl _ hq
theorem t4{H:ak}{a:PV}{l:au}(ha:simple 2 a=true)(hl:l.all (simple 2)=true):cE H .i a (.t l)=some (l.any<|fj a):=by show(if simple 2 a&&l.all (simple 2)then some (l.any<|fj a)else none)=_;refine rR ha<|rR hl ?_;rfl
theorem t5(n:Nat){l:au}(hl:bT l)(hb:l.length<=900)(H:ak):mQ (gam (n+2) "" "bidi_terminators" [.l l] H) l.length H:=by
 refine vc (n:=n+1) (ir:=HX) (vs:=[.l l]) (by kernel_rfl) rfl rfl rfl (by simp[hl.fz]) ?_;show Ok (aF (gam<|n+1) A7 [some<|.l l,none,none,none,none] []) _;unfold A7;refine aZ (v:=.e 0) (H1:=[some<|.l l]) rfl ?_;refine aC (M1 n (ks:=["ET"]) hl hb [some<|.l l]) λruns er hr=>?_;refine gr (H':=[some<|.l l]) (vs:=[.l runs]) (items:=runs) (λi ae H=>∃out o2 o3 o4,bT out/\out.length=l.length/\ae=[some<|.l l,some<|.e 0,o2,o3,o4]/\H=[some<|.l out])
  (aJ (bP (vs:=[.l l,.t [.s "ET"]]) (H1:=[some<|.l l]) rfl er) bA) fF (pX l none none none hl rfl rfl rfl) (λi x ae H hx hI=>?_) (λae H hI=>?_)
 ·(refine wq hI λout o2 o3 o4 h1 h2 aT aL=>?_;clear hI;subst aT;subst aL)
  refine d_ (hr x<|dY hx) λa b hab hbn aM=>?_;clear hx;subst aM;refine aA _ rfl ?_;refine d_ (M3 n (p:=.n) (q:=.n) hl hb hab hbn (.inl rfl) (.inl rfl) [some<|.l out]) λx y eb hx' hy'=>?_;have sx:∀z:PV,isStr z\/z=.n->simple 2 z=true:=λz h=>by rcases h with⟨s,rfl⟩|rfl<;>rfl
  refine bU (c:=[x,y].any (fj<|.s "EN")) (H':=[some<|.l out]) (by
   refine bu (p:=.s "EN") (q:=.t [x,y]) rfl (bP (vs:=[.l l,.i a,.i b,.n,.n]) (H1:=[some<|.l out]) rfl eb) ?_
   exact t4 rfl<|by simp[sx x hx',sx y hy']) (λhc=>?_) λhc=>?_
  ·refine gr (H':=[some<|.l out]) (vs:=[.i a,.i b]) (items:=fk a b) (λi ae H=>∃out o4,bT out/\out.length=l.length/\ae=[some<|.l l,some<|.e 0,some<|.i a,some<|.i b,o4]/\H=[some<|.l out])
    rfl (pq jx (QV hb hab hbn) jx<|QW hb hbn) (fy out o4 h1 h2 rfl rfl) (λj z ae H hz hJ=>?_) (λae H hJ=>?_)
   ·(refine eJ hJ λout o4 g1 g2 aP aN=>?_;clear hJ;subst aP;subst aN)
    refine U1 (sO hz) λaQ hlt=>?_;clear hz;subst aQ;refine aA _ rfl ?_;refine rR (show((a:Int)+(j:Int))=((a+j:Nat):Int)from F1) ?_;refine pB (k:=a+j) (v:=.s "EN") (m:=0) (l1:=out) (H1:=[some<|.l out]) (H2:=[some<|.l out]) (H3:=[some<|.l out]) rfl rfl rfl rfl (QX hbn g2 hlt)<|cu<|fy _ _ (g1.set _ _) (by simp[g2]) rfl rfl
   ·(refine eJ hJ λout o4 g1 g2 aR aT=>?_;clear hJ;subst aR;subst aT)
    exact cu<|pX out _ _ _ g1 g2 rfl rfl
  ·exact cu<|pX out _ _ _ h1 h2 rfl rfl
 ·(refine wq hI λout o2 o3 o4 h1 h2 aL aM=>?_;clear hI;subst aL;subst aM)
  exact bX (v:=.e 0) (H':=[some<|.l out]) rfl<|fy 0 out rfl rfl h1 h2
theorem ub(n:Nat){l:au}{bh:String}(hl:bT l)(hb:l.length<=900)(H:ak):mQ (gam (n+3) "" "weak_classes" [.l l,.s bh] H) l.length H:=by
 refine c_ (to (n+1) (bh:=bh) hl hb []) λo1 e1 s1 l1=>?_;refine c_ (ty (n+1) (bh:=bh) s1 (F2 hb l1) []) λo2 e2 s2 l2=>?_;refine c_ (tx (n+1) s2 []) λo3 e3 s3 l3=>?_;refine c_ (tA (n+1) s3 (QY hb l1 l2 l3) []) λo4 e4 s4 l4=>?_;refine c_ (t5 n s4 (QZ hb l1 l2 l3 l4) []) λo5 e5 s5 l5=>?_;refine c_ (tm (n+1) s5 []) λo6 e6 s6 l6=>?_;refine c_ (tz (n+1) (bh:=bh) s6 (Q0 hb l1 l2 l3 l4 l5 l6) []) λo7 e7 s7 l7=>?_;refine cM o7 ?_ s7<|Q2 l1 l2 l3 l4 l5 l6 l7
 refine dX (n:=n+2) (ir:=H7) (vs:=[.l l,.s bh]) (by kernel_rfl) rfl rfl rfl (by simp[hl.fz,dj]) ?_;show Ok (aF (gam<|n+2) Ba [some<|.l l,some<|.s bh,none] []) _;unfold Ba
 refine aZ (v:=.l o3) (H1:=[]) (by
  (try simp only[wl,bx,reduceIte];try rfl)
  refine rR e1 ?_;simp only[Option.bind_some]
  (try simp only[wl,bx,reduceIte];try rfl)
  refine rR e2 ?_;simp only[Option.bind_some]
  exact rR e3 rfl) ?_
 refine bX (v:=.l o7) (H':=[]) (by
  (try simp only[wl,bx,reduceIte];try rfl)
  refine rR e4 ?_;simp only[Option.bind_some];refine rR e5 ?_;simp only[Option.bind_some];refine rR e6 ?_;simp only[Option.bind_some]
  (try simp only[wl,bx,reduceIte];try rfl)
  exact rR e7 rfl) ?_
 exact jg λx hx=>by(refine X1 (s7 x hx) λs aP=>?_;clear hx;subst aP);exact dj<|.inr<|.inr<|.inr ⟨s,rfl⟩
noncomputable def KS:aY:=["L","R","AL","EN","AN","ON","WS","S","NSM","LRI","RLI","PDI","RLE","LRE","PDF","BN"]
noncomputable def kindOf(c:Int):String:=if 64<c then KS.getD (c-65).toNat "" else "ON"
noncomputable def j9(c:Int):Prop:=(65<=c/\c<=80)\/c=40\/c=41
noncomputable def bB:PV:=(.o "Data" ["defaults","maps","properties","words"] [.c ["gc","ccc","bc","lb","ea","sc","jt","incb","gcb","wb","sb","ex","sd","cased","ci","ep","di","ids","idc","xids","xidc","pat_syn","pat_ws","idst","dm","uc","lc","tc","cf","bm","bpb","scx","nt","nv","name","conf","nfkc_cf","suc","slc","stc","alias","idna"] [.s "Cn",.i 0,.s "L",.s "XX",.s "N",.s "Zzzz",.s "U",.s "None",.s "Other",.s "Other",.s "Other",.b false,.b false,.b false,.b false,.b false,.b false,.b false,.b false,.b false,.b false,.b false,.b false,.b false,.n,.n,.n,.n,.n,.n,.n,.n,.n,.n,.n,.n,.n,.t [],.t [],.t [],.t [],.t [.s "disallowed",.t []]],.c ["bc","bm"] [.o "RangeMap" ["default","starts","values"] [.s "L",.l [.i 0,.i 40,.i 42,.i 66,.i 67,.i 68,.i 69,.i 70,.i 71,.i 72,.i 73,.i 74,.i 75,.i 76,.i 77,.i 78,.i 79,.i 80,.i 81],.l [.s "L",.s "ON",.s "L",.s "R",.s "AL",.s "EN",.s "AN",.s "ON",.s "WS",.s "S",.s "NSM",.s "LRI",.s "RLI",.s "PDI",.s "RLE",.s "LRE",.s "PDF",.s "BN",.s "L"]],.o "RangeMap" ["default","starts","values"] [.n,.l [.i 0,.i 40,.i 41,.i 42],.l [.n,.i 41,.i 40,.n]]],.c [] [],.c [] []])
noncomputable def M4:bk:=(List.range 16).map (λk:Nat=>65+(k:Int))++[40,41]
theorem j9.mem{c:Int}(h:j9 c):c∈M4:=by
 rcases h with⟨h1,h2⟩|rfl|rfl
 ·exact q4 _ (bV.mpr<|aA ((c-65).toNat) (jM.mpr<|GK h2)<|UY h1)
 ·decide
 ·decide
theorem j9.el{P:Int->Prop}(h:∀c∈M4,P c){c:Int}(hc:j9 c):P c:=h c hc.mem
theorem M5(n:Nat){c:Int}(h:j9 c)(H:ak):gam (n+3) "Data" "get" [bB,.s "bc",.i c] H=some (.s<|kindOf c,H):=by exact h.el (P:=λc=>gam (n+3) "Data" "get" [bB,.s "bc",.i c] H=some (.s<|kindOf c,H))<|mc (by kernel_rfl)<|mc (by kernel_rfl)<|mc (by kernel_rfl)<|mc (by kernel_rfl)<|mc (by kernel_rfl)<|mc (by kernel_rfl)<|mc (by kernel_rfl)<|mc (by kernel_rfl)<|mc (by kernel_rfl)<|mc (by kernel_rfl)<|mc (by kernel_rfl)<|mc (by kernel_rfl)<|mc (by kernel_rfl)<|mc (by kernel_rfl)<|mc (by kernel_rfl)<|mc (by kernel_rfl)<|mc (by kernel_rfl)<|mc (by kernel_rfl) mz
noncomputable def nU(c:Int):PV:=if c=40 then .i 41 else if c=41 then .i 40 else .n
theorem ui(n:Nat){c:Int}(h:j9 c)(H:ak):gam (n+3) "Data" "get" [bB,.s "bm",.i c] H=some (nU c,H):=by exact h.el (P:=λc=>gam (n+3) "Data" "get" [bB,.s "bm",.i c] H=some (nU c,H))<|mc (by kernel_rfl)<|mc (by kernel_rfl)<|mc (by kernel_rfl)<|mc (by kernel_rfl)<|mc (by kernel_rfl)<|mc (by kernel_rfl)<|mc (by kernel_rfl)<|mc (by kernel_rfl)<|mc (by kernel_rfl)<|mc (by kernel_rfl)<|mc (by kernel_rfl)<|mc (by kernel_rfl)<|mc (by kernel_rfl)<|mc (by kernel_rfl)<|mc (by kernel_rfl)<|mc (by kernel_rfl)<|mc (by kernel_rfl)<|mc (by kernel_rfl) mz
theorem uj(n:Nat){c:Int}(H:ak):gam (n+3) "Data" "get" [bB,.s "gc",.i c] H=some (.s "Cn",H):=by kernel_rfl
theorem uk(n:Nat){c:Int}(H:ak):gam (n+3) "Data" "get" [bB,.s "bpb",.i c] H=some (.n,H):=by kernel_rfl
theorem jj:fz 8 bB=true:=by kernel_rfl
theorem ul(n:Nat)(H:ak):gam (n+12) "" "_law_data" [.l<|KS.map .s] H=some (bB,H):=by kernel_rfl
theorem un{H:ak}:fieldsOf H bB=some ("Data",["defaults","maps","properties","words"],match bB with|.o _ _ l=>l|_=>[]):=rfl
theorem vf{Γ:b7}{a b:CE}{ae:bf}{H H1 H2:ak}{name:String}{p:PV}{r:PV×ak}(ha:az Γ a ae H=some (bB,H1))(hb:az Γ b ae H1=some (p,H2))(h:Γ "Data" "get" [bB,.s name,p] H2=some r):
  az Γ (.j a "get" [.c<|.s name,b]) ae H=some r:=by
 refine rR DO<|rR ha ?_
 simp only[Option.bind_some,un];refine rR (bO<|by decide)<|rR (aJ cL<|aJ hb bA) ?_
 exact h
noncomputable def isInt(p:PV):Prop:=∃i,p=.i i
def dJ(l:au):Prop:=∀x∈l,isInt x
theorem dJ.fz{l:au}(h:dJ l)(n:Nat):Mine.fz (n+1) (.l l)=true:=nS λx hx=>by(refine X1 (h x hx) λs aN=>?_;clear hx;subst aN);exact dj<|.inr<|.inr<|.inl ⟨s,rfl⟩
theorem dJ.get{l:au}{i:Nat}{x:PV}(h:dJ l)(hx:l[i]?=some x):∃s,x=.i s:=h x<|dY hx
noncomputable def fG(pl cl:au)(lv:Int)(bh b6:String)(co:au):PV:=.o "BidiSequence" ["places","classes","level","sos","eos","codes"] [.l pl,.l cl,.i lv,.s bh,.s b6,.l co]
theorem M6(n:Nat){pl cl co:au}{lv:Int}{bh b6:String}(h1:dJ pl)(h2:bT cl)(h3:dJ co)(H:ak):
  gam (n+1) "" "BidiSequence" [.l pl,.l cl,.i lv,.s bh,.s b6,.l co] H=some (fG pl cl lv bh b6 co,H):=by
 refine Mk (ir:=HG) (vs:=[.l pl,.l cl,.i lv,.s bh,.s b6,.l co]) (by kernel_rfl) rfl rfl rfl (by simp[h1.fz,h2.fz,h3.fz,dj]) ?_;refine Ok.mk (r:=(.n,[some<|.e 0,some<|.l pl,some<|.l cl,some<|.i lv,some<|.s bh,some<|.s b6,some<|.l co],[some<|.n "BidiSequence" ["places","classes","level","sos","eos","codes"] [.l pl,.l cl,.i lv,.s bh,.s b6,.l co]])) (by kernel_rfl)<|aA _ rfl ?_
 show Option.map (PV.o _ _) (List.mapM (b8 5 _) [PV.l pl,.l cl,.i lv,.s bh,.s b6,.l co])=_;refine rR (yP<|mc (qz<|h1.fz 3)<|mc (qz<|h2.fz 3)<|mc yO<|mc MN<|mc MN<|mc (qz<|h3.fz 3) mz) ?_;rfl
theorem sQ{pl cl co:au}{lv:Int}{bh b6:String}(h1:dJ pl)(h2:bT cl)(h3:dJ co)(n:Nat):fz (n+2) (fG pl cl lv bh b6 co)=true:=by exact gj.mpr<|mc (h1.fz n)<|mc (h2.fz n)<|mc u_<|mc ML<|mc ML<|mc (h3.fz n) mz
theorem ut(n:Nat){pl cl co:au}{lv:Int}{bh b6:String}(h1:dJ pl)(h2:bT cl)(h3:dJ co)(hb:cl.length<=900)(H:ak):mQ (gam (n+4) "" "weak" [fG pl cl lv bh b6 co] H) cl.length H:=by refine c_ (ub n (bh:=bh) h2 hb []) λo e s l=>?_;refine cM o ?_ s l;refine dX (n:=n+3) (ir:=H8) (vs:=[fG pl cl lv bh b6 co]) (by kernel_rfl) rfl rfl rfl (by simp[sQ h1 h2 h3]) ?_;show Ok (aF (gam<|n+3) Bb [some<|fG pl cl lv bh b6 co] []) _;unfold Bb;refine bX (v:=.l o) (H':=[]) (bP (vs:=[.l cl,.s bh]) (H1:=[]) (aJ (dF dP rfl (by decide) rfl)<|aJ (dF dP rfl (by decide) rfl) bA) e) ?_;exact jg λx hx=>by(refine X1 (s x hx) λs' aQ=>?_;clear hx;subst aQ);exact dj<|.inr<|.inr<|.inr ⟨s',rfl⟩
theorem u'(n:Nat){cl co:au}(h2:bT cl)(h3:dJ co)(hl:co.length<=cl.length)(H:ak):gam (n+4) "" "bracket_pairs_of" [.l co,.l cl,bB] H=some (.l [],H):=by
 refine dX (n:=n+3) (ir:=H9) (vs:=[.l co,.l cl,bB]) (by kernel_rfl) rfl rfl rfl (by simp[h2.fz,h3.fz,jj]) ?_;show Ok (aF (gam<|n+3) Bc [some<|.l co,some<|.l cl,some bB,none,none,none,none,none,none,none] []) _;unfold Bc;refine aZ (v:=.e 0) (H1:=[some<|.l []]) rfl ?_;refine aZ (v:=.e 1) (H1:=[some<|.l [],some<|.l []]) rfl ?_;refine gr (H':=[some<|.l [],some<|.l []]) (items:=dU co) (λi ae H=>∃o5 o6 o7 o8 o9,ae=[some<|.l co,some<|.l cl,some bB,some<|.e 0,some<|.e 1,o5,o6,o7,o8,o9]/\H=[some<|.l [],some<|.l []])
  rfl ji (wF none none none none none rfl rfl) (λi x ae H hx hI=>?_) (λae H hI=>?_)
 ·(refine wu hI λo5 o6 o7 o8 o9 aR aT=>?_;clear hI;subst aR;subst aT)
  refine aC (j6 hx) λv hv aL=>?_;clear hx;subst aL;have hi:=cH hv;refine X1 (h3.get hv) λc aM=>?_;clear hv;subst aM;refine X1 (h_ (l:=cl) (i:=i)<|Ab hl hi) λk hk=>?_;refine X1 (h2.get hk) λs aP=>?_;subst aP;refine aA _ rfl ?_
  refine aZ (v:=.n) (H1:=[some<|.l [],some<|.l []]) (by
   refine rR DM<|rR (bu (p:=.s s) (q:=.s "ON") (c:=decide<|s="ON") (H1:=[some<|.l [],some<|.l []]) (H2:=[some<|.l [],some<|.l []]) (e_idx (p:=.l cl) (q:=.i i) rfl rfl<|dB hk) rfl rfl) ?_
   simp only[Option.bind_some,fZ];split
   ·exact vf (p:=.i c) rfl rfl<|uk n _
   ·(try simp only[wl,bx,reduceIte];try rfl)) ?_
  refine bU (c:=false) (H':=[some<|.l [],some<|.l []]) rfl nB λU=>?_;exact bU (c:=false) (H':=[some<|.l [],some<|.l []]) rfl nB λU=>cu<|wF _ _ _ _ _ rfl rfl
 ·(refine wu hI λo5 o6 o7 o8 o9 aN aQ=>?_;clear hI;subst aN;subst aQ)
  exact bX (v:=.l []) (H':=[some<|.l [],some<|.l []]) (by(try simp only[wl,bx,reduceIte];try rfl);kernel_rfl)<|by rfl
theorem vl(n:Nat){pl cl co:au}{lv:Int}{bh b6:String}(h1:dJ pl)(h2:bT cl)(h3:dJ co)(hl:co.length<=cl.length)(H:ak):gam (n+5) "" "bracket_pairs" [fG pl cl lv bh b6 co,bB] H=some (.l [],H):=by refine dX (n:=n+4) (ir:=H_) (vs:=[fG pl cl lv bh b6 co,bB]) (by kernel_rfl) rfl rfl rfl (by simp[sQ h1 h2 h3,jj]) ?_;show Ok (aF (gam<|n+4) Bd [some<|fG pl cl lv bh b6 co,some bB] []) _;unfold Bd;exact bX (v:=.l []) (H':=[]) (bP (vs:=[.l co,.l cl,bB]) (H1:=[]) (aJ (dF dP rfl (by decide) rfl)<|aJ (dF dP rfl (by decide) rfl)<|aJ rfl bA)<|u' n h2 h3 hl []) rfl
theorem vr(n:Nat){cl bg:au}{lv:Int}{bh:String}(h2:bT cl)(h3:bT bg)(H:ak):gam (n+1) "" "bracket_classes" [.l cl,.l [],.i lv,.s bh,.l bg] H=some (.l cl,H):=by refine dX (ir:=Ic) (vs:=[.l cl,.l [],.i lv,.s bh,.l bg]) (by kernel_rfl) rfl rfl rfl (by simp[h2.fz,h3.fz,dj,nS]) ?_;show Ok (aF (gam n) Bg [some<|.l cl,some<|.l [],some<|.i lv,some<|.s bh,some<|.l bg,none,none,none,none,none] []) _;unfold Bg;refine aZ (v:=.e 0) (H1:=[some<|.l cl]) rfl ?_;refine nP (cZ:=[some<|.l cl,some<|.l [],some<|.i lv,some<|.s bh,some<|.l bg,some<|.e 0,none,none,none,none]) (H':=[some<|.l cl]) rfl ?_;exact bX (v:=.e 0) (H':=[some<|.l cl]) rfl<|gu rfl h2.b8
def j_(p:PV):Prop:=p=.n\/isStr p
theorem j_.flat{p:PV}(h:j_ p):p=.n\/(∃b,p=.b b)\/(∃i,p=.i i)\/∃s,p=.s s:=h.imp id λh=>.inr<|.inr h
def iU(l:au):Prop:=∀x∈l,j_ x
theorem iU.fz{l:au}(h:iU l)(n:Nat):Mine.fz (n+1) (.l l)=true:=nS λx hx=>dj (h x hx).flat
theorem iU.b8{l:au}(h:iU l){n:Nat}{H:ak}:∀x∈l,Mine.b8 n H x=some x:=λx hx=>iT (h x hx).flat
theorem iU.set{l:au}(h:iU l)(i:Nat){p:PV}(hp:j_ p):iU (l.set i p):=λx hx=>by
 rcases List.mem_or_eq_of_mem_set hx with hx|rfl
 ·exact h x hx
 ·exact hp
theorem bT.ok{l:au}(h:bT l):iU l:=λx hx=>.inr<|h x hx
theorem M7(n:Nat)(s:String)(H:ak):∃p,gam (n+1) "" "bidi_strong" [.s s] H=some (p,H)/\j_ p:=by
 refine lJ (ir:=Ia) (vs:=[.s s]) (by kernel_rfl) rfl rfl rfl rfl ?_;show Ok (aF (gam n) Be [some<|.s s] []) _;unfold Be;refine bU (c:=decide<|s="L") (H':=[]) rfl (λU=>bX (v:=.s "L") (H':=[]) rfl<|aA _ rfl (.inr ⟨_,rfl⟩)) λU=>?_
 refine bX (v:=if(decide (s="R")||decide (s∈["EN","AN"]))=true then .s "R" else .n) (H':=[]) (by
  (try simp only[wl,bx,reduceIte];try rfl)
  refine rR DV (rR gT ?_)
  (try simp only[wl,bx,reduceIte];try rfl)
  split<;>simp_all) ?_
 split
 ·exact aA _ rfl (.inr ⟨_,rfl⟩)
 ·exact aA _ rfl (.inl rfl)
theorem vu(n:Nat)(l:Int)(H:ak):∃s,gam (n+1) "" "bidi_embedding" [.i l] H=some (.s s,H):=by
 refine⟨if l %2=0 then "L" else "R",dX (ir:=Ib) (vs:=[.i l]) (by kernel_rfl) rfl rfl rfl rfl ?_⟩;show Ok (aF (gam n) Bf [some<|.i l] []) _;unfold Bf;refine bX (v:=.s (if l %2=0 then "L" else "R")) (H':=[]) ?_ rfl
 (try simp only[wl,bx,reduceIte];try rfl)
 split<;>simp_all
theorem vw{H:ak}{p q:PV}(hp:j_ p)(hq:j_ q):∃c,cE H .n p q=some c:=by rcases hp with rfl|⟨s,rfl⟩<;>rcases hq with rfl|⟨t,rfl⟩<;>exact⟨_,rfl⟩
theorem vx{n a b N:Nat}{out:au}{d:PV}{E:bR->bf}{x0:bR}{T:bf->ak->Prop}(hE:∀x y,(E x).set 10 y=E y)(v4:∀x,(E x)[4]?=some (some<|.e 0))(v5:∀x,(E x)[5]?=some (some<|.i a))(v6:∀x,(E x)[6]?=some (some<|.i b))(v9:∀x,(E x)[9]?=some (some d))(v10:∀x,(E<|some x)[10]?=some (some x))
  (hbn:b<=N)(hN:N<=900)(hab:a<=b)(h2:out.length=N)(h1:iU out)(hd:j_ d)(K:∀out x,iU out->out.length=N->T (E x) [some<|.l out]):
  Ok (aF (gam n) [.f false [10] .r [.v 5,.v 6] [.t (.v 4) (.v 10)<|.v 9]] (E x0) [some<|.l out]) (Nx T):=by
 refine lK (vs:=[.i a,.i b]) (items:=fk a b) (λ(U:au) x=>E x) (λU out U=>[some<|.l out]) (λU out U=>iU out/\out.length=N) out x0 (aJ (bq<|v5 _)<|aJ (bq<|v6 _) bA) rfl (pq jx (Q3 hbn hN hab) jx<|Q4 hbn hN) ⟨h1,h2⟩ (λj z out x hz hj T k=>?_) λout x hj=>cu<|K _ _ hj.1 hj.2
 refine U1 (sO hz) λaR hlt=>?_;clear hz;subst aR;refine aA _ rfl ?_;rw[hE];exact pB (k:=a+j) (v:=d) (m:=0) (l1:=out) (H1:=[some<|.l out]) (H2:=[some<|.l out]) (H3:=[some<|.l out]) (bq<|v9 _) (bq<|v4 _) (bq<|v10 _) rfl (by refine rR hj.2 ?_;exact Q5 hbn hlt)<|cu<|k _ _ ⟨hj.1.set _ hd,by refine rR i5 ?_;exact hj.2⟩
theorem vT(n:Nat){l:au}{lv:Int}{bh b6:String}(hl:bT l)(hb:l.length<=900)(H:ak):∃out,gam (n+2) "" "neutral_classes" [.l l,.i lv,.s bh,.s b6] H=some (.l out,H)/\iU out/\out.length=l.length:=by
 obtain⟨v,e,out,rfl,h⟩:=sI (c:="") (f:="neutral_classes") (H:=H) (args:=[.l l,.i lv,.s bh,.s b6]) (Q:=λv=>∃out,v=.l out/\iU out/\out.length=l.length) (n:=n+1) (ir:=Ie) (vs:=[.l l,.i lv,.s bh,.s b6]) (by kernel_rfl) rfl rfl rfl (by simp[hl.fz,dj]) λT K=>by
  show Ok (aF (gam<|n+1) Bh [some<|.l l,some<|.i lv,some<|.s bh,some<|.s b6,none,none,none,none,none,none,none] []) T;unfold Bh;refine aZ (v:=.e 0) (H1:=[some<|.l l]) rfl ?_;refine aC (M1 n (ks:=["B","S","WS","ON","LRI","RLI","FSI","PDI"]) hl hb [some<|.l l]) λruns er hr=>?_
  let E:bR->bR->bR->bR->bR->bR->bf:=λa b c d e f=>[some<|.l l,some<|.i lv,some<|.s bh,some<|.s b6,some<|.e 0,a,b,c,d,e,f]
  refine lK (vs:=[.l runs]) (items:=runs) (λ(U:au) (z:bR×bR×bR×bR×bR×bR)=>E z.1 z.2.1 z.2.2.1 z.2.2.2.1 z.2.2.2.2.1 z.2.2.2.2.2) (λU out U=>[some<|.l out]) (λU out U=>iU out/\out.length=l.length) l (none,none,none,none,none,none)
   (aJ (bP (vs:=[.l l,Au]) (H1:=[some<|.l l]) rfl er) bA) rfl fF ⟨hl.ok,rfl⟩ (λi x out z hx hj T k=>?_) (λout z hj=>bX (v:=.e 0) (H':=[some<|.l out]) rfl<|K _ (.l out) _ _ (gu rfl hj.1.b8) (cM out rfl hj.1 hj.2))
  refine d_ (hr x<|dY hx) λa b hab hbn aT=>?_;clear hx;subst aT;refine d_ (M3 n (p:=.s bh) (q:=.s b6) hl hb hab hbn (.inr ⟨_,rfl⟩) (.inr ⟨_,rfl⟩) [some<|.l out]) λx y eb hx' hy'=>?_;obtain⟨sx,rfl⟩:isStr x:=hx'.elim id λh=>⟨_,h⟩
  obtain⟨sy,rfl⟩:isStr y:=hy'.elim id λh=>⟨_,h⟩
  refine aA _ rfl (kP (l:=[.s sx,.s sy]) (H1:=[some<|.l out]) (bP (vs:=[.l l,.i a,.i b,.s bh,.s b6]) (H1:=[some<|.l out]) rfl eb) rfl ?_);refine aC (M7 n sx [some<|.l out]) λp ep hp=>?_;refine aC (M7 n sy [some<|.l out]) λq eq hq=>?_;refine X1 (vu n lv [some<|.l out]) λem wa=>?_;refine aZ (v:=p) (H1:=[some<|.l out]) (bP (vs:=[.s sx]) (H1:=[some<|.l out]) rfl ep) ?_;have fin:∀d,j_ d->Ok (aF (gam<|n+1) _ (E (some<|.i a) (some<|.i b) (some<|.s sx) (some<|.s sy) (some d) z.2.2.2.2.2) [some<|.l out]) (Nx T):=λd hd=>
   vx (E:=E (some<|.i a) (some<|.i b) (some<|.s sx) (some<|.s sy)<|some d) (λU U=>rfl) (λU=>rfl) (λU=>rfl) (λU=>rfl) (λU=>rfl) (λU=>rfl) hbn hb (gX hab) hj.2 hj.1 hd λout x h1 h2=>k out (_,_,_,_,_,x) ⟨h1,h2⟩
  refine X1 (vw (H:=[some<|.l out]) hp hq) λc ec=>?_;refine bU (c:=c) (H':=[some<|.l out]) (bu (p:=p) (q:=q) rfl (bP (vs:=[.s sy]) (H1:=[some<|.l out]) rfl eq) ec) (λU=>?_) λU=>fin p hp;exact aZ (v:=.s em) (H1:=[some<|.l out]) (bP (vs:=[.i lv]) (H1:=[some<|.l out]) rfl wa)<|fin (.s em)<|.inr ⟨_,rfl⟩
 exact aA out e h
theorem wb(n:Nat){pl cl co bg:au}{lv:Int}{bh b6:String}(h1:dJ pl)(h2:bT cl)(h3:dJ co)(h4:bT bg)(hl:co.length<=cl.length)(hb:cl.length<=900)(H:ak):
  ∃out,gam (n+6) "" "neutral" [fG pl cl lv bh b6 co,bB,.l bg] H=some (.l out,H)/\iU out/\out.length=cl.length:=by
 refine c_ (vT (n+3) (lv:=lv) (bh:=bh) (b6:=b6) h2 hb []) λout e h5 h6=>?_;refine cM out ?_ h5 h6;refine dX (n:=n+5) (ir:=Ig) (vs:=[fG pl cl lv bh b6 co,bB,.l bg]) (by kernel_rfl) rfl rfl rfl (by simp[sQ h1 h2 h3,jj,h4.fz]) ?_;show Ok (aF (gam<|n+5) Bj [some<|fG pl cl lv bh b6 co,some bB,some<|.l bg,none,none,none] []) _;unfold Bj;refine aZ (v:=.l cl) (H1:=[]) (dF dP rfl (by decide) rfl) ?_;refine aZ (v:=.l bg) (H1:=[]) rfl ?_;refine aZ (v:=.l cl) (H1:=[]) (bP (vs:=[.l cl,.l [],.i lv,.s bh,.l bg]) (H1:=[]) (aJ rfl<|aJ (bP (vs:=[fG pl cl lv bh b6 co,bB]) (H1:=[]) rfl<|vl n h1 h2 h3 hl [])<|aJ (dF dP rfl (by decide) rfl)<|aJ (dF dP rfl (by decide) rfl)<|aJ rfl bA)<|vr (n+4) h2 h4 []) ?_;refine bX (v:=.l out) (H':=[]) (bP (vs:=[.l cl,.i lv,.s bh,.s b6]) (H1:=[]) (aJ rfl<|aJ (dF dP rfl (by decide) rfl)<|aJ (dF dP rfl (by decide) rfl)<|aJ (dF dP rfl (by decide) rfl) bA) e) ?_;exact jg λx hx=>dj (h5 x hx).flat
theorem wf(n:Nat){p:PV}{l:Int}(hp:j_ p)(H:ak):∃k,gam (n+1) "" "implicit_level" [p,.i l] H=some (.i k,H)/\l<=k/\k<=l+2:=by
 have main:∃v,gam (n+1) "" "implicit_level" [p,.i l] H=some (v,H)/\∃k,v=.i k/\l<=k/\k<=l+2:=by
  refine lJ (ir:=Ih) (vs:=[p,.i l]) (by kernel_rfl) rfl rfl rfl (by simp[dj hp.flat,dj]) ?_;show Ok (aF (gam n) Bk [some p,some<|.i l] []) _;unfold Bk;refine bU (c:=decide<|l %2=0) (H':=[]) rfl (λU=>?_) λU=>?_
  ·rcases hp with rfl|⟨s,rfl⟩
   ·refine bX (v:=.i<|l+0) (H':=[]) rfl<|lX _ rfl _ rfl UZ U0
   ·refine bX (v:=.i<|l+(if s∈["EN","AN"]then 2 else if s="R" then 1 else 0)) (H':=[]) (by
     (try simp only[wl,bx,reduceIte];try rfl)
     refine rR DV (rR gT ?_)
     (try simp only[wl,bx,reduceIte];try rfl)
     by_cases h:s∈["EN","AN"]
     ·simp only[h,decide_true,if_true,Option.bind_some,Option.map_some,yL]
     ·simp only[h,decide_false,Bool.false_eq_true,if_false];by_cases h':s="R"
      ·simp only[h',decide_true,if_true,Option.bind_some,Option.map_some,yL]
      ·simp only[h',decide_false,Bool.false_eq_true,if_false,Option.bind_some,Option.map_some,yL])<|lX _ rfl _ rfl ?_ ?_
    ·split
     ·exact U4
     ·split<;>(first|lia|omega)
    ·split
     ·exact U5
     ·split<;>(first|lia|omega)
  ·rcases hp with rfl|⟨s,rfl⟩
   ·exact bX (v:=.i<|l+1) (H':=[]) rfl<|lX _ rfl _ rfl U8 U9
   ·refine bX (v:=.i (if s="R" then l else l+1)) (H':=[]) (by
     (try simp only[wl,bx,reduceIte];try rfl)
     by_cases h':s="R"
     ·simp only[h',decide_true,if_true]
     ·simp only[h',decide_false,Bool.false_eq_true,if_false])<|lX _ rfl _ rfl ?_ ?_
    ·split<;>(first|lia|omega)
    ·split<;>(first|lia|omega)
 refine ni main λv e k aL h=>?_;subst aL;exact aA k e h
noncomputable def DW(a b:Int)(l:au):Prop:=∀x∈l,∃k,x=.i k/\a<=k/\k<=b
theorem dJ.b8{l:au}(h:dJ l){n:Nat}{H:ak}:∀x∈l,Mine.b8 n H x=some x:=λx hx=>iT<|.inr<|.inr<|.inl<|h x hx
theorem wi(n:Nat){l:au}{lv:Int}(hl:iU l)(H:ak):∃out,gam (n+2) "" "implicit" [.l l,.i lv] H=some (.l out,H)/\DW lv (lv+2) out/\out.length=l.length:=by
 obtain⟨f,hf⟩:∃f:PV->PV,∀x∈l,gam (n+1) "" "implicit_level" [x,.i lv] []=some (f x,[])/\∃k,f x=.i k/\lv<=k/\k<=lv+2:=by
  have:∀x:PV,∃y:PV,x∈l->gam (n+1) "" "implicit_level" [x,.i lv] []=some (y,[])/\∃k,y=.i k/\lv<=k/\k<=lv+2:=λx=>by
   by_cases hx:x∈l
   ·refine aC (wf n (l:=lv) (hl x hx) []) λk e h=>?_;exact⟨.i k,λU=>Ft e k rfl h⟩
   ·exact⟨.n,λh=>absurd h hx⟩
  exact⟨λx=>(this x).choose,λx hx=>(this x).choose_spec hx⟩
 have hb:DW lv (lv+2) (l.map f):=λx hx=>by refine aC (bV.mp hx) λy hy aM=>?_;clear hx;subst aM;exact(hf y hy).2
 refine cM (l.map f) ?_ hb<|by simp
 refine dX (n:=n+1) (ir:=Ii) (vs:=[.l l,.i lv]) (by kernel_rfl) rfl rfl rfl (by simp[hl.fz,dj]) ?_;show Ok (aF (gam<|n+1) Bl [some<|.l l,some<|.i lv] []) _;unfold Bl;refine bX (v:=.l<|l.map f) (H':=[]) ?_ (jg λx hx=>by(refine aC (hb x hx) λk aP U=>?_;clear hx;subst aP);exact dj<|.inr<|.inr<|.inl ⟨k,rfl⟩)
 (try simp only[wl,bx,reduceIte];try rfl)
 refine rR fF ?_;simp only[Option.bind_some];rw[comp_map (f:=f) λx hx=>?_]
 ·rfl
 ·simp only[iK,List.cons_append,List.nil_append]
  (try simp only[wl,bx,reduceIte];try rfl)
  refine rR ((hf x hx).1) ?_;rfl
theorem wn(n:Nat){pl cl co:au}{lv:Int}{bh b6:String}(h1:dJ pl)(h2:bT cl)(h3:dJ co)(hl:co.length<=cl.length)(hb:cl.length<=900)(H:ak):
  ∃out,gam (n+7) "" "sequence_levels" [fG pl cl lv bh b6 co,bB] H=some (.l out,H)/\DW lv (lv+2) out/\out.length=cl.length:=by
 refine c_ (ut (n+2) (lv:=lv) (bh:=bh) (b6:=b6) h1 h2 h3 hb []) λwk e1 s1 l1=>?_;refine c_ (wb n (lv:=lv) (bh:=bh) (b6:=b6) h1 s1 h3 h2 (Q6 hl l1) (F2 hb l1) []) λnt e2 s2 l2=>?_;refine c_ (wi (n+4) (lv:=lv) s2 []) λim e3 s3 l3=>?_;refine cM im ?_ s3<|Q7 l1 l2 l3
 refine dX (n:=n+6) (ir:=Ij) (vs:=[fG pl cl lv bh b6 co,bB]) (by kernel_rfl) rfl rfl rfl (by simp[sQ h1 h2 h3,jj]) ?_;show Ok (aF (gam<|n+6) Bm [some<|fG pl cl lv bh b6 co,some bB,none,none] []) _;unfold Bm;refine aZ (v:=.l wk) (H1:=[]) (bP (vs:=[fG pl cl lv bh b6 co]) (H1:=[]) rfl e1) ?_
 refine aZ (v:=fG pl wk lv bh b6 co) (H1:=[]) (bP (vs:=[.l pl,.l wk,.i lv,.s bh,.s b6,.l co]) (H1:=[])
  (aJ (dF dP rfl (by decide) rfl)<|aJ rfl<|aJ (dF dP rfl (by decide) rfl)<|aJ (dF dP rfl (by decide) rfl)<|aJ (dF dP rfl (by decide) rfl)<|aJ (dF dP rfl (by decide) rfl) bA) (M6 (n+5) h1 s1 h3 [])) ?_
 refine bX (v:=.l im) (H':=[]) (bP (vs:=[.l nt,.i lv]) (H1:=[]) (aJ (bP (vs:=[fG pl wk lv bh b6 co,bB,.l cl]) (H1:=[]) (aJ rfl<|aJ rfl<|aJ (dF dP rfl (by decide) rfl) bA) e2)<|aJ (dF dP rfl (by decide) rfl) bA) e3) ?_;exact jg λx hx=>by(refine aC (s3 x hx) λk aN U=>?_;clear hx;subst aN);exact dj<|.inr<|.inr<|.inl ⟨k,rfl⟩
theorem kc{Γ:b7}{a:CE}{es:List CE}{ae:bf}{H H1 H2:ak}{p:PV}{vs:au}{c m:String}{ns:aY}{l:au}{r:PV×ak}(ha:az Γ a ae H=some (p,H1))(hf:fieldsOf H1 p=some (c,ns,l))(hn:(ns.contains m||c=="")=false)
  (hes:cX Γ es ae H1=some (vs,H2))(h:Γ c m (p::vs) H2=some r):az Γ (.j a m es) ae H=some r:=by
 refine rR DO<|rR ha ?_
 simp only[Option.bind_some,hf,hn];refine rR (bO<|by decide)<|rR hes ?_
 exact h
theorem wp{H:ak}{m:Nat}{l:au}(h:H[m]?=some (some<|.l l)):jS H .l [.e m]=some (.i l.length,H):=by show(e_ H<|.e m).map _=_;simp only[e_,h,Option.map_some]
theorem wv{Γ:b7}{a:CE}{ae:bf}{H H1:ak}{m:Nat}{l:au}(ha:az Γ a ae H=some (.e m,H1))(h:H1[m]?=some (some<|.l l)):az Γ (.k .l [a]) ae H=some (.i l.length,H1):=by
 refine rR lM<|rR (aJ ha bA) ?_
 exact wp h
abbrev Ent:=Int×Bool
noncomputable def eG(e:Ent):PV:=.o "BidiEntry" ["level","override","is_isolate"] [.i e.1,.n,.b e.2]
noncomputable def bW(v:Int):Option AO:=some<|.n "BidiStack" ["depth","entries","over_isolates","over_embeddings","valid_isolates"] [.i 125,.e 1,.i 0,.i 0,.i v]
def ents(es:List Ent):Option AO:=some<|.l<|es.reverse.map eG
noncomputable def eB(r:Bool)(l:Int):Int:=if r then l+1+l %2 else l+2-l %2
theorem M8(n:Nat)(e:Ent)(H:ak):gam (n+1) "" "BidiEntry" [.i e.1,.n,.b e.2] H=some (eG e,H):=by kernel_rfl
section
variable {es:List Ent}{e:Ent}{v:Int}{R:ak}{n:Nat}
theorem yU:((e::es).reverse.map eG).getLast?=some (eG e):=by simp
theorem yV:gam (n+1) "BidiStack" "last" [.e 0] (bW v::ents (e::es)::R)=some (eG e,bW v::ents (e::es)::R):=by
 obtain⟨x,H',h,rfl,rfl⟩:=nQ (n:=n) (c:="BidiStack") (f:="last") (ir:=Hw) (args:=[.e 0]) (vs:=[.e 0]) (H:=bW v::ents (e::es)::R) (Q:=λx H'=>x=eG e/\H'=bW v::ents (e::es)::R) (by kernel_rfl) rfl rfl rfl (by
  show Ok (aF (gam n) AF [some<|.e 0] _) _;unfold AF
  refine bX (e_idx (p:=.e 1) (q:=.i<|-1) (dF dP rfl (by decide) rfl) rfl<|u0 rfl yU) ⟨rfl,rfl⟩)
 exact h
theorem M9(r:Bool):gam (n+2) "BidiStack" "further" [.e 0,.b r] (bW v::ents (e::es)::R)=some (.i<|eB r e.1,bW v::ents (e::es)::R):=by
 obtain⟨x,H',h,rfl,rfl⟩:=nQ (n:=n+1) (c:="BidiStack") (f:="further") (ir:=Hx) (args:=[.e 0,.b r]) (vs:=[.e 0,.b r]) (H:=bW v::ents (e::es)::R) (Q:=λx H'=>x=.i (eB r e.1)/\H'=bW v::ents (e::es)::R) (by kernel_rfl) rfl rfl rfl (by
  show Ok (aF (gam<|n+1) AG [some<|.e 0,some<|.b r,none] _) _;unfold AG;refine aZ (v:=.i e.1) (H1:=bW v::ents (e::es)::R) (dF (p:=eG e) (H1:=bW v::ents (e::es)::R) (kc (p:=.e 0) (H1:=bW v::ents (e::es)::R) rfl rfl (by decide) bA yV) rfl (by decide) rfl) ?_;refine bU (c:=r) (H':=bW v::ents (e::es)::R) rfl (λh=>?_) λh=>?_
  ·exact bX (v:=.i<|e.1+1+e.1 %2) rfl ⟨by refine rR h ?_;rfl,rfl⟩
  ·exact bX (v:=.i<|e.1+2-e.1 %2) rfl ⟨by refine rR h ?_;rfl,rfl⟩)
 exact h
theorem M_{l:Int}(hl:l<=125):gam (n+1) "BidiStack" "is_free" [.e 0,.i l] (bW v::ents es::R)=some (.b true,bW v::ents es::R):=by
 obtain⟨x,H',h,rfl,rfl⟩:=nQ (n:=n) (c:="BidiStack") (f:="is_free") (ir:=Hy) (args:=[.e 0,.i l]) (vs:=[.e 0,.i l]) (H:=bW v::ents es::R) (Q:=λx H'=>x=.b true/\H'=bW v::ents es::R) (by kernel_rfl) rfl rfl rfl (by
  show Ok (aF (gam n) AH [some<|.e 0,some<|.i l] _) _;unfold AH;refine bX (v:=.b true) (H':=bW v::ents es::R) ?_ ⟨rfl,rfl⟩;refine rR pn<|rR hU<|rR (bu (p:=.i l) (q:=.i 125) (c:=decide<|l<=125) rfl (dF dP rfl (by decide) rfl) rfl) ?_
  simp only[Option.bind_some,fZ,hl,decide_true,if_true];refine rR hU<|rR (bu (p:=.i 0) (q:=.i 0) (c:=true) (dF dP rfl (by decide) rfl) rfl rfl) ?_
  simp only[Option.bind_some,fZ,if_true];refine rR hU (rR (bu (p:=.i 0) (q:=.i 0) (c:=true) (dF dP rfl (by decide) rfl) rfl rfl) ?_)
  rfl)
 exact h
theorem ww(r:Bool)(hl:eB r e.1<=125)(hz:es.length<=900):gam (n+3) "BidiStack" "embed" [.e 0,.b r,.n] (bW v::ents (e::es)::R)=some (.n,bW v::ents ((eB r e.1,false)::e::es)::R):=by
 obtain⟨x,H',h,rfl,rfl⟩:=nQ (n:=n+2) (c:="BidiStack") (f:="embed") (ir:=Hz) (args:=[.e 0,.b r,.n]) (vs:=[.e 0,.b r,.n]) (H:=bW v::ents (e::es)::R) (Q:=λx H'=>x=.n/\H'=bW v::ents ((eB r e.1,false)::e::es)::R) (by kernel_rfl) rfl rfl rfl (by
  show Ok (aF (gam<|n+2) AI [some<|.e 0,some<|.b r,some .n,none] _) _;unfold AI;refine aZ (v:=.i<|eB r e.1) (H1:=bW v::ents (e::es)::R) (kc (p:=.e 0) (H1:=bW v::ents (e::es)::R) rfl rfl (by decide) (aJ rfl bA)<|M9 r) ?_;refine bU (c:=true) (H':=bW v::ents (e::es)::R) (kc (p:=.e 0) (H1:=bW v::ents (e::es)::R) rfl rfl (by decide) (aJ rfl bA)<|M_ (n:=n+1) hl) (λU=>?_) tB;refine eW (m:=1) (l1:=(e::es).reverse.map eG) (l2:=(e::es).reverse.map eG) (v:=eG (eB r e.1,false)) (H1:=bW v::ents (e::es)::R) (H2:=bW v::ents (e::es)::R) (dF dP rfl (by decide) rfl) rfl (bP (vs:=[.i<|eB r e.1,.n,.b false]) rfl<|M8 (n+1) (eB r e.1,false) _) rfl (by simp;exact F3 hz) ?_;refine cu ⟨rfl,?_⟩;show bW v::some (AO.l<|_++_)::R=_
  simp[ents])
 exact h
theorem wx(r:Bool)(hl:eB r e.1<=125)(hz:es.length<=900):gam (n+3) "BidiStack" "isolate" [.e 0,.b r] (bW v::ents (e::es)::R)=some (.n,bW (v+1)::ents ((eB r e.1,true)::e::es)::R):=by
 obtain⟨x,H',h,rfl,rfl⟩:=nQ (n:=n+2) (c:="BidiStack") (f:="isolate") (ir:=HA) (args:=[.e 0,.b r]) (vs:=[.e 0,.b r]) (H:=bW v::ents (e::es)::R) (Q:=λx H'=>x=.n/\H'=bW (v+1)::ents ((eB r e.1,true)::e::es)::R) (by kernel_rfl) rfl rfl rfl (by
  show Ok (aF (gam<|n+2) AJ [some<|.e 0,some<|.b r,none] _) _;unfold AJ;refine aZ (v:=.i<|eB r e.1) (H1:=bW v::ents (e::es)::R) (kc (p:=.e 0) (H1:=bW v::ents (e::es)::R) rfl rfl (by decide) (aJ rfl bA)<|M9 r) ?_;refine bU (c:=true) (H':=bW v::ents (e::es)::R) (kc (p:=.e 0) (H1:=bW v::ents (e::es)::R) rfl rfl (by decide) (aJ rfl bA)<|M_ (n:=n+1) hl) (λU=>?_) tB;refine nP (cZ:=[some<|.e 0,some<|.b r,some<|.i<|eB r e.1]) (H':=bW (v+1)::ents (e::es)::R) (by kernel_rfl) ?_;refine eW (m:=1) (l1:=(e::es).reverse.map eG) (l2:=(e::es).reverse.map eG) (v:=eG (eB r e.1,true)) (H1:=bW (v+1)::ents (e::es)::R) (H2:=bW (v+1)::ents (e::es)::R) (dF dP rfl (by decide) rfl) rfl (bP (vs:=[.i<|eB r e.1,.n,.b true]) rfl<|M8 (n+1) (eB r e.1,true) _) rfl (by simp;exact F3 hz) ?_;refine cu ⟨rfl,?_⟩;show bW (v+1)::some (AO.l<|_++_)::R=_
  simp[ents])
 exact h
theorem DX:((e::es).reverse.map eG).dropLast=es.reverse.map eG:=by simp
noncomputable def fS:List Ent->List Ent
 |[]=>[]
 |e::es=>if !e.2&&decide ((0:Int)<es.length)then es else e::es
theorem wy:gam (n+2) "BidiStack" "end_embedding" [.e 0] (bW v::ents (e::es)::R)=some (.n,bW v::ents (fS<|e::es)::R):=by
 obtain⟨x,H',h,rfl,rfl⟩:=nQ (n:=n+1) (c:="BidiStack") (f:="end_embedding") (ir:=HC) (args:=[.e 0]) (vs:=[.e 0]) (H:=bW v::ents (e::es)::R) (Q:=λx H'=>x=.n/\H'=bW v::ents (fS<|e::es)::R) (by kernel_rfl) rfl rfl rfl (by
  show Ok (aF (gam<|n+1) AL [some<|.e 0] _) _;unfold AL;refine bU (c:=false) (H':=bW v::ents (e::es)::R) (by kernel_rfl) nB λU=>?_;refine bU (c:=false) (H':=bW v::ents (e::es)::R) (by kernel_rfl) nB λU=>?_
  refine bU (c:=!e.2&&decide ((0:Int)<es.length)) (H':=bW v::ents (e::es)::R) (by
   refine rR pn<|rR hU<|rR yJ<|rR (dF (p:=eG e) (v:=.b e.2) (H1:=bW v::ents (e::es)::R) (kc (p:=.e 0) (H1:=bW v::ents (e::es)::R) rfl rfl (by decide) bA yV) rfl (by decide) rfl) ?_
   simp only[Option.bind_some,fZ,Option.map_some]
   rw[hU,bu (p:=.i<|es.length+1) (q:=.i 1) (c:=decide<|(1:Int)<es.length+1) (H1:=bW v::ents (e::es)::R) (H2:=bW v::ents (e::es)::R) (by
    refine rR (wv (m:=1) (l:=(e::es).reverse.map eG) (dF dP rfl (by decide) rfl) rfl) ?_
    simp) rfl rfl]
   simp only[Option.bind_some,fZ,nR];have:decide ((1:Int)<es.length+1)=decide ((0:Int)<es.length):=by apply rf.mpr;exact Q8
   refine rR this ?_
   cases e.2<;>cases decide ((0:Int)<es.length)<;>rfl) (λhc=>?_) λhc=>cu ⟨rfl,by simp only[fS,hc];rfl⟩
  refine nT (v:=eG e) (H1:=bW v::ents es::R) ?_<|cu ⟨rfl,by simp only[fS,hc];rfl⟩
  refine rR (yT (m:=1) (l1:=(e::es).reverse.map eG) (v:=eG e) (dF dP rfl (by decide) rfl) rfl yU) (rR DX ?_)
  rfl)
 exact h
end
noncomputable def eX:List Ent->List Ent
 |[]=>[]
 |e::es=>if e.2 then es else eX es
theorem wE{es:List Ent}{n:Nat}{R:ak}:gam (n+2) "BidiStack" "end_isolate" [.e 0] (bW 0::ents es::R)=some (.n,bW 0::ents es::R):=by kernel_rfl
theorem wP{es:List Ent}{n:Nat}{v:Int}{R:ak}(hv:0<v)(hi:es.any (·.2)=true)(hz:es.length<=900):gam (n+2) "BidiStack" "end_isolate" [.e 0] (bW v::ents es::R)=some (.n,bW (v-1)::ents (eX es)::R):=by
 obtain⟨x,H',h,rfl,rfl⟩:=nQ (n:=n+1) (c:="BidiStack") (f:="end_isolate") (ir:=HB) (args:=[.e 0]) (vs:=[.e 0]) (H:=bW v::ents es::R) (Q:=λx H'=>x=.n/\H'=bW (v-1)::ents (eX es)::R) (by kernel_rfl) rfl rfl rfl (by
  show Ok (aF (gam<|n+1) AK [some<|.e 0] _) _;unfold AK;refine bU (c:=false) (H':=bW v::ents es::R) (by kernel_rfl) nB λU=>?_;refine bU (c:=decide<|0<v) (H':=bW v::ents es::R) (bu (p:=.i v) (q:=.i 0) (dF dP rfl (by decide) rfl) rfl rfl) (λU=>?_) λh=>by simp[hv]at h
  refine nP (cZ:=[some<|.e 0]) (H':=bW v::ents es::R) (by kernel_rfl) ?_;refine yH (m:=es.length) (λm ae H=>∃es1,es1.any (·.2)=true/\eX es1=eX es/\es1.length=m/\ae=[some<|.e 0]/\H=bW v::ents es1::R) (wz es hi rfl rfl rfl rfl) (Q9 hz) λm ae H hI=>?_;refine E7 hI λes1 h1 h2 h3 aQ aR=>?_;subst aQ;subst aR
  induction es1 using b9 with
  |nil=>simp at h1
  |cons e es1=>
   refine⟨!e.2,bW v::ents (e::es1)::R,by
    refine rR yJ (rR (dF (p:=eG e) (v:=.b e.2) (H1:=bW v::ents (e::es1)::R) (kc (p:=.e 0) (H1:=bW v::ents (e::es1)::R) rfl rfl (by decide) bA yV) rfl (by decide) rfl) ?_)
    rfl,λhc=>?_,λhc=>?_⟩
   ·rw[k9]at hc;refine aA es1.length (by refine rL h3 ?_;rfl) ?_
    refine nT (v:=eG e) (H1:=bW v::ents es1::R) (by
     refine rR (yT (m:=1) (l1:=(e::es1).reverse.map eG) (v:=eG e) (dF dP rfl (by decide) rfl) rfl yU) (rR DX ?_)
     rfl)<|cu ?_
    refine Pz es1.length (bY _) es1 (by simpa[hc]using h1) ?_ rfl rfl rfl;refine rL h2 ?_;simp[eX,hc]
   ·rw[tD]at hc
    refine nT (v:=eG e) (H1:=bW v::ents es1::R) (by
     refine rR (yT (m:=1) (l1:=(e::es1).reverse.map eG) (v:=eG e) (dF dP rfl (by decide) rfl) rfl yU) (rR DX ?_)
     rfl) ?_
    refine nP (cZ:=[some<|.e 0]) (H':=bW (v-1)::ents es1::R) (by kernel_rfl)<|cu ⟨rfl,?_⟩
    refine rL h2 ?_
    simp[eX,hc])
 exact h
theorem wS(n:Nat)(base:Int):gam (n+2) "" "BidiStack" [.i base,.i 125] []=some (.e 0,[bW 0,ents [(base,false)]]):=by kernel_rfl
noncomputable def gb(k:String):Bool:=k=="LRI"||k=="RLI"||k=="FSI"
def iV(k:String)(i:Nat)(s:aG×List (Nat×Nat)):aG×List (Nat×Nat):=
 if gb k then(i::s.1,s.2)else if k=="PDI" then(match s.1 with
  |[]=>s
  |b::w=>(w,(b,i)::s.2))else s
def eY(ks:aY):Nat->aG×List (Nat×Nat)
 |0=>([],[])
 |i+1=>iV (ks.getD i "") i<|eY ks i
theorem wT{ks:aY}{i:Nat}:eY ks (i+1)=iV (ks.getD i "") i (eY ks i):=rfl
noncomputable def gc:List (Nat×Nat)->Int->bK
 |[]=>λU=>none
 |(b,e)::r=>λx=>if x=(e:Int)then some (b:Int)else if x=(b:Int)then some (e:Int)else gc r x
noncomputable def aE(i:Nat):PV:=.i i
noncomputable def bQ(s:String):PV:=.s s
theorem jH(ks:aY):bT (ks.map bQ):=λx hx=>by(refine aC (bV.mp hx) λs U aT=>?_;clear hx;subst aT);exact⟨s,rfl⟩
theorem Na{ks:aY}{i:Nat}{x:PV}(h:(ks.map bQ)[i]?=some x):x=.s (ks.getD i ""):=by rw[cQ]at h;refine aC (gV.mp h) λs hs aL=>?_;clear h;subst aL;rw[fV,hs];rfl
set_option tactic.hygienic true in
theorem Nb(ks:aY):∀i,(eY ks i).1.length+2*(eY ks i).2.length<=2*i/\(eY ks i).1.length+(eY ks i).2.length<=i
 |0=>by simp[show eY ks 0=([],[])from rfl]
 |i+1=>by
  have ih:=Nb ks i;simp only[wT,iV];split
  ·simp only[List.length_cons];exact Q_ ih
  ·split
   ·split
    ·exact F4 ih
    ·rename_i b w e;rw[e]at ih;simp only[List.length_cons]at ih⊢;exact Ra ih
   ·exact F4 ih
theorem ne_nil{H:ak}{m:Nat}{w:au}(h:H[m]?=some (some<|.l w))(hw:dJ w):cE H .n (.e m) (.l [])=some (!w.isEmpty):=by
 have e1:view H (.e m)=.l w:=by simp only[view,h]
 have e2:simple 4 (.l w)=true:=by show w.all (simple 3)=true;rw[gj];intro x hx;refine X1 (hw x hx) λi aM=>?_;clear hx;subst aM;rfl
 show(if mj H (.e m) (.l [])=true then some (!fj (view H<|.e m) (view H<|.l []))else none)=_;have e3:mj H (.e m) (.l [])=true:=by unfold mj;refine rR e1 (rR e2 ?_);rfl
 refine rR (bw e3)<|rR e1 ?_
 clear h hw e1 e2
 induction w using b9<;>rfl
theorem ints_of(w:aG):dJ (w.map aE):=λx hx=>by(refine aC (bV.mp hx) λs U aP=>?_;clear hx;subst aP);exact⟨s,rfl⟩
def iC(m:Nat)(s:aG×List (Nat×Nat)):ak:=[some<|.i m<|gc s.2,some<|.l<|s.1.reverse.map aE]
theorem Nc{k:String}:gb k=true↔k="LRI"\/k="RLI"\/k="FSI":=by simp[gb,Bool.or_eq_true,or_assoc]
theorem vg{H:ak}{k:String}:cE H .i (.s k) iM=some (gb k):=by
 refine rR ti<|rR gT ?_
 congr 1;rw[Bool.eq_iff_iff,Nc];simp
set_option tactic.hygienic true in
theorem w0{n i m:Nat}{k:String}{w:aG}{ps:List<|Nat×Nat}{ae:bf}{T:bf->ak->Prop}(hB:k≠"B")(hw:w.length<=900)(hm:m<=900)(v1:ae[1]?=some (some<|.e 0))(v2:ae[2]?=some (some<|.e 1))(v3:ae[3]?=some (some<|.i i))(v4:ae[4]?=some (some<|.s k))(h5:ae.length=6)
  (K:∀x m',m'<=m+2->T (ae.set 5 x) (iC m'<|iV k i (w,ps))):Ok (aF (gam n) [.i (.m .i (.v 4)<|.g "INITIATORS" iM)
   [.x<|.q (.v 2)<|.v 3]
   [.i (.a true [.m .e (.v 4)<|.c<|.s "PDI",.m .n (.v 2)<|.l []])
    [.a 5<|.u<|.v 2,
    .t (.v 1) (.v 5) (.v 3),
    .t (.v 1) (.v 3) (.v 5)]
    [.i (.m .e (.v 4)<|.g "SEPARATOR" qc)
     [.a 2<|.e []]
     []]]] ae<|iC m (w,ps)) (Nx T):=by
 refine X1 (h_ (l:=ae) (i:=5)<|by refine rR h5 ?_;decide) λo5 v5=>?_;have K0:∀m',m'<=m+2->T ae (iC m'<|iV k i (w,ps)):=λm' h=>by
  have:=K o5 m' h
  rwa[show ae.set 5 o5=ae by
   refine List.ext_getElem? λj=>?_;by_cases e:5=j
   ·subst e;rw[jL<|cH v5,v5]
   ·rw[jr e]]at this
 have lk:∀{j:Nat}{x:bR}{v:PV},5≠j->ae[j]?=some (some v)->(ae.set 5 x)[j]?=some (some v):=λh e=>by rw[jr h];exact e
 refine bU (c:=gb k) (H':=iC m (w,ps)) (bu (q:=iM) (bq v4) rfl vg) (λhk=>?_) λhk=>?_
 ·have e1:iV k i (w,ps)=(i::w,ps):=bw hk;rw[e1]at K0;refine eW (m:=1) (l1:=w.reverse.map aE) (l2:=w.reverse.map aE) (v:=.i i) (H1:=iC m (w,ps)) (H2:=iC m (w,ps)) (bq v2) rfl (bq v3) rfl (by(rewrite[bI];refine rR List.length_reverse ?_);exact rm hw)<|cu ?_
  have:=K0 m<|jt _ _
  unfold iC at this;rw[pR,kB]at this;exact this
 ·have hnk:¬gb k=true:=by refine rR hk ?_;exact gE
  have ew:(w.reverse.map aE).isEmpty=w.isEmpty:=by clear hw K K0;induction w using b9<;>simp
  refine bU (c:=decide (k="PDI")&&!w.isEmpty) (H':=iC m (w,ps)) (f_ (bu (p:=.s k) (q:=.s "PDI") (bq v4) cL rfl) λU=>bu (p:=.e 1) (q:=.l []) (bq v2) rfl<|by refine rL ew ?_;exact ne_nil rfl<|ints_of _) (λhc=>?_) λhc=>?_
  ·rw[cy,ff,k9]at hc;refine U1 hc λaN hne=>?_;clear hB v4 hk;subst aN
   induction w using b9 with
   |nil=>exact tB hne
   |cons b w=>
    have e1:iV "PDI" i (b::w,ps)=(w,(b,i)::ps):=(bO hnk).trans<|bw rfl
    rw[e1]at K
    refine aZ (v:=.i b) (H1:=iC m (w,ps)) (by
     refine rR (yT (m:=1) (l1:=(b::w).reverse.map aE) (v:=.i b) (H1:=iC m (b::w,ps)) (bq v2) rfl<|by simp[aE]) ?_
     simp[iC]) ?_
    have Nd:(ae.set 5<|some<|.i b)[5]?=some (some<|PV.i b):=jL<|by refine rR h5 ?_;decide
    refine DT (m:=0) (k:=b) (j:=i) (n:=m) (f:=gc ps) (H1:=iC m (w,ps)) (H2:=iC m (w,ps)) (H3:=iC m (w,ps)) (bq<|lk (by decide) v3) (bq<|lk (by decide) v1) (bq Nd) rfl (rm hm) ?_;exact DT (m:=0) (k:=i) (j:=b) (n:=m+1) (f:=λx=>if x=(b:Int)then some (i:Int)else gc ps x) (H1:=[some (.i (m+1) λx=>if x=(b:Int)then some (i:Int)else gc ps x),some<|.l<|w.reverse.map aE]) (H2:=[some (.i (m+1) λx=>if x=(b:Int)then some (i:Int)else gc ps x),some<|.l<|w.reverse.map aE]) (H3:=[some (.i (m+1) λx=>if x=(b:Int)then some (i:Int)else gc ps x),some<|.l<|w.reverse.map aE]) (bq Nd) (bq<|lk (by decide) v1) (bq<|lk (by decide) v3) rfl (Rb hm)<|cu<|K _ (m+2) (bY _)
  ·have e1:iV k i (w,ps)=(w,ps):=by
    unfold iV;refine rR (bO hnk) ?_;split
    ·rename_i hq;rw[di<|gQ.mp hq,qW,tD,lh]at hc;exact rR hc rfl
    ·rfl
   rw[e1]at K0;exact bU (c:=false) (H':=iC m (w,ps)) (bu (p:=.s k) (q:=.s "B") (bq v4) rfl<|by show some (decide<|k="B")=some false;exact rR (dG hB) rfl) nB λU=>cu<|K0 m<|jt _ _
theorem DY(n:Nat){ks:aY}(hB:"B"∉ks)(hb:ks.length<=400)(H:ak):gam (n+1) "" "isolate_pairs" [.l<|ks.map bQ] H=some (.d<|gc (eY ks ks.length).2,H):=by
 refine qy (ir:=Hs) (vs:=[.l<|ks.map bQ]) (by kernel_rfl) rfl rfl rfl (by simp[(jH ks).fz]) λT K=>?_;show Ok (aF (gam n) Az [some<|.l<|ks.map bQ,none,none,none,none,none] []) T;unfold Az;refine aZ (v:=.e 0) (H1:=[some (.i 0 λU=>none)]) rfl ?_;refine aZ (v:=.e 1) (H1:=iC 0 ([],[])) rfl ?_;refine lK (λ(U:Nat) (z:bR×bR×bR)=>[some<|.l<|ks.map bQ,some<|.e 0,some<|.e 1,z.1,z.2.1,z.2.2]) (λi m U=>iC m<|eY ks i) (λi m U=>m<=2*i) 0 (none,none,none)
  rfl rfl ji (bY _) (λi x m z hx hm T k=>?_) (λm z hm=>?_)
 ·(refine aC (j6 hx) λv hv aQ=>?_;clear hx;subst aQ)
  have hi:=cH hv;rw[bI]at hi;obtain rfl:=Na hv;have w8:ks.getD i ""≠"B":=λq=>hB (q▸by rw[fV,eE hi];exact tK hi);have hp:=(Nb ks i).2;exact aA _ rfl (w0 (i:=i) (w:=(eY ks i).1) (ps:=(eY ks i).2) w8 (Rc hb hi hp) (Rd hb hm hi) rfl rfl rfl rfl rfl λx m' h=>k m' (_,_,x)<|eR h<|Nat.add_le_add_right hm 2)
 ·(refine rR mP ?_;rewrite[bI])
  exact bX (v:=.e 0) rfl<|K _ _ _ rfl
noncomputable def fc:List Ent->Int
 |[]=>0
 |e::_=>e.1
def fT(es:List Ent):List Ent:=if es.any (·.2)then eX es else es
noncomputable def kQ(k:String):Bool:=k=="RLE"||k=="LRE"||k=="PDF"||k=="BN"
def fH(k:String)(es:List Ent):List Ent:=
 if k="RLE"\/k="LRE" then(eB (k=="RLE")<|fc es,false)::es
 else if k="PDF" then fS es
 else if k="PDI" then fT es
 else if gb k then(eB (k=="RLI")<|fc es,true)::es else es
def kR(k:String)(es:List Ent):bK:=if kQ k then none else some (fc (if k="PDI" then fT es else es))
def gK(ks:aY)(base:Int):Nat->List Ent
 |0=>[(base,false)]
 |t+1=>fH (ks.getD t "")<|gK ks base t
def eM(ks:aY)(base:Int)(t:Nat):bK:=kR (ks.getD t "")<|gK ks base t
noncomputable def aD:bK->PV
 |none=>.n
 |some i=>.i i
noncomputable def cnt(es:List Ent):Int:=(es.countP (·.2):Nat)
noncomputable def nV(k:String):Prop:=k≠"B"/\k≠"FSI"/\k≠"RLO"/\k≠"LRO"
set_option tactic.hygienic true in
theorem Nf:∀{es:List Ent},es.any (·.2)=true->cnt (eX es)=cnt es-1
 |[],h=>by simp at h
 |e::es,h=>by
  unfold cnt eX;refine rR tF ?_;split
  ·rename_i h';simp
  ·rename_i h';have:es.any (·.2)=true:=by simpa[h']using h
   have ih:=Nf this;unfold cnt at ih;simp[ih]
theorem Ng{es:List Ent}:es.any (·.2)=true↔0<cnt es:=by unfold cnt;rw[show((0:Int)<((es.countP (·.2):Nat):Int))↔0<es.countP (·.2)from Rf,List.countP_pos_iff,List.any_eq_true]
theorem Nh:∀(es:List Ent),(eX es).length<=es.length
 |[]=>bY _
 |e::es=>by have:=Nh es;unfold eX;split<;>simp only[List.length_cons]<;>(first|lia|omega)
theorem Ni(es:List Ent):(fT es).length<=es.length:=by have:=Nh es;unfold fT;split<;>(first|lia|omega)
noncomputable def fu(base:Int)(es:List Ent):Prop:=∃pre,es=pre++[(base,false)]
theorem fu.ne{base:Int}{es:List Ent}(h:fu base es):∃e r,es=e::r:=by
 refine X1 h λpre aR=>?_;subst aR
 induction pre using b9 with
 |nil=>exact I2 _ _ rfl
 |cons a t=>exact I2 a _ rfl
theorem fu.push{base:Int}{es:List Ent}(h:fu base es)(e:Ent):fu base (e::es):=by refine X1 h λpre aT=>?_;clear h;subst aT;exact⟨e::pre,rfl⟩
set_option tactic.hygienic true in
theorem fu.eX{base:Int}:∀{es:List Ent},fu base es->es.any (·.2)=true->fu base (eX es)
 |[],h,_=>by(revert h;refine Y1 λpre h=>?_);simp at h
 |e::es,h,ha=>by
  have hb:es.any (·.2)=true\/e.2=true:=by simp only[List.any_cons,Bool.or_eq_true]at ha;exact ha.symm
  have hes:fu base es:=by
   revert h;refine Y1 λpre h=>?_
   induction pre using b9 with
   |nil=>
    simp only[List.nil_append,List.cons.injEq]at h;refine U1 h λaL aM=>?_;clear ha h;subst aL;subst aM;simp at hb
   |cons a t=>
    simp only[List.cons_append,List.cons.injEq]at h;exact⟨t,h.2⟩
  unfold Mine.eX;split
  ·exact hes
  ·rename_i hn;exact fu.eX hes<|hb.resolve_right hn
set_option tactic.hygienic true in
theorem fu.fT{base:Int}{es:List Ent}(h:fu base es):fu base (fT es):=by
 unfold Mine.fT;split
 ·rename_i h';exact h.eX h'
 ·exact h
theorem fu.fS{base:Int}{es:List Ent}(h:fu base es):fu base (fS es):=by
 refine X1 h λpre aP=>?_;subst aP
 induction pre using b9 with
 |nil=>exact⟨[],rfl⟩
 |cons a t=>
  simp only[List.cons_append,Mine.fS];split
  ·exact⟨t,rfl⟩
  ·exact⟨a::t,rfl⟩
theorem fu.step{base:Int}{es:List Ent}(h:fu base es)(k:String):fu base (fH k es):=by
 unfold fH;split
 ·exact h.push _
 ·split
  ·exact h.fS
  ·split
   ·exact h.fT
   ·split
    ·exact h.push _
    ·exact h
theorem vh(ks:aY)(base:Int):∀t,fu base<|gK ks base t
 |0=>⟨[],rfl⟩
 |t+1=>(vh ks base t).step _
noncomputable def Lb(a b:Int)(es:List Ent):Prop:=∀e∈es,a<=e.1/\e.1<=b
theorem Nj:∀{es:List Ent}{e:Ent},e∈eX es->e∈es
 |[],e,h=>h
 |a::es,e,h=>by
  unfold eX at h;split at h
  ·exact dh _ h
  ·exact dh _ (Nj h)
theorem DZ{es:List Ent}{e:Ent}(h:e∈fT es):e∈es:=by
 unfold fT at h;split at h
 ·exact Nj h
 ·exact h
theorem xa{es:List Ent}{e:Ent}(h:e∈fS es):e∈es:=by
 induction es using b9 with
 |nil=>exact h
 |cons a t=>
  simp only[fS]at h;split at h
  ·exact dh _ h
  ·exact h
theorem vj(r:Bool)(l:Int):l+1<=eB r l/\eB r l<=l+2:=by unfold eB;split<;>(first|lia|omega)
theorem yW{base:Int}{es:List Ent}(h:fu base es):∃e∈es,fc es=e.1:=by refine X2 h.ne λe r aN=>?_;clear h;subst aN;exact aA e cR rfl
theorem Lb.step{base a b:Int}{es:List Ent}(h:Lb a b es)(hb:fu base es)(k:String):Lb a (b+2) (fH k es):=by
 refine aC (yW hb) λe0 h0 e1=>?_;have ht:=h e0 h0;rw[<-e1]at ht;have old:∀e∈es,a<=e.1/\e.1<=b+2:=λe he=>by have:=h e he;exact U_ this
 have push:∀r i,Lb a (b+2) ((eB r<|fc es,i)::es):=λr i e he=>by
  rcases eO.mp he with rfl|he
  ·have:=vj r<|fc es;dsimp only;exact U' ht this
  ·exact old e he
 unfold fH;split
 ·exact push _ _
 ·split
  ·exactλe he=>old e<|xa he
  ·split
   ·exactλe he=>old e<|DZ he
   ·split
    ·exact push _ _
    ·exact old
theorem yX(ks:aY)(base:Int):∀t:Nat,Lb base (base+2*t)<|gK ks base t
 |0=>λe he=>by rw[show gK ks base 0=[(base,false)]from rfl,dO]at he;subst he;dsimp only;exact Va
 |t+1=>by
  have:=(yX ks base t).step (vh ks base t)<|ks.getD t ""
  rw[show base+2*(t:Int)+2=base+2*((t+1:Nat):Int)from VN]at this;exact this
theorem xb(k:String)(es:List Ent):(fH k es).length<=es.length+1:=by
 have h1:=Ni es;have h2:(fS es).length<=es.length:=by
  induction es using b9 with
  |nil=>exact bY _
  |cons a t=>simp only[fS];split<;>simp
 unfold fH;split
 ·simp
 ·split
  ·exact l8 h2
  ·split
   ·exact l8 h1
   ·split
    ·simp
    ·exact Rg
theorem Nk(ks:aY)(base:Int):∀t,(gK ks base t).length<=t+1
 |0=>bY _
 |t+1=>by
  have h1:=Nk ks base t;have h2:=xb (ks.getD t "")<|gK ks base t
  refine rR (show gK ks base (t+1)=fH (ks.getD t "") (gK ks base t)from rfl) ?_;exact Rh h1 h2
theorem Nl(ks:aY)(base:Int)(t:Nat){l:Int}(h:eM ks base t=some l):base<=l/\l<=base+2*t:=by
 unfold eM kR at h;split at h
 ·exact nN h
 ·obtain rfl:=aK h;split
  ·refine aC (yW (vh ks base t).fT) λe h1 h2=>?_;refine rR h2 ?_;exact yX ks base t e<|DZ h1
  ·refine aC (yW<|vh ks base t) λe h1 h2=>?_;refine rR h2 ?_;exact yX ks base t e h1
theorem xc(n:Nat){l:au}{i:Nat}{k:String}{p:PV}(hl:bT l)(hk:l[i]?=some (.s k))(hF:k≠"FSI")(hp:fz 8 p=true)(H:ak):gam (n+1) "" "bidi_is_right_isolate" [.l l,.i i,p] H=some (.b<|k=="RLI",H):=by
 refine dX (ir:=HE) (vs:=[.l l,.i i,p]) (by kernel_rfl) rfl rfl rfl (by simp[hl.fz,hp,dj]) ?_;show Ok (aF (gam n) AN [some<|.l l,some<|.i i,some p,none] []) _;unfold AN;have hi:az (gam n) (.d (.v 0)<|.v 1) [some<|.l l,some<|.i i,some p,none] []=some (.s k,[]):=e_idx (p:=.l l) (q:=.i i) rfl rfl<|dB hk
 refine bU (c:=true) (H':=[]) (bu hi cL<|by show some (!decide (k="FSI"))=some true;simp[hF]) (λU=>?_) tB;exact bX (v:=.b<|k=="RLI") (H':=[]) (bu hi cL rfl) rfl
theorem D0(f:Int->bK)(n:Nat):fz n (.d f)=true:=by induction n using gD<;>rfl
abbrev xf:List CS:=[.i (.m .i (.v 8)<|.g "REMOVED" oK)
   [.x<|.q (.v 5)<|.c .n,
   .x (.q (.v 6)<|.c<|.s "BN"),
   .i (.m .i (.v 8)<|.g "EMBEDDINGS" rE)
    [.a 9<|.a false [.m .e (.v 8)<|.c<|.s "RLE",.m .e (.v 8)<|.c<|.s "RLO"],
    .a 10 (.i (.a false [.m .e (.v 8)<|.c<|.s "RLO",.m .e (.v 8)<|.c<|.s "LRO"]) (.i (.v 9) (.c<|.s "R")<|.c<|.s "L")<|.c .n),
    .x (.j (.v 3) "embed" [.v 9,.v 10])]
    [.i (.m .e (.v 8)<|.c<|.s "PDF")
     [.x<|.j (.v 3) "end_embedding" []]
     []]]
   [.i (.m .e (.v 8)<|.g "SEPARATOR" qc)
    [.x<|.q (.v 5)<|.v 1,
    .x (.q (.v 6)<|.v 8)]
    [.i (.m .e (.v 8)<|.c<|.s "PDI")
     [.x<|.j (.v 3) "end_isolate" []]
     [],
    .a 11 (.j (.v 3) "last" []),
    .x (.q (.v 5)<|.f (.v 11) "level"),
    .x (.q (.v 6)<|.i (.m .t (.f (.v 11) "override")<|.c .n) (.f (.v 11) "override")<|.v 8),
    .i (.m .i (.v 8)<|.g "INITIATORS" iM)
     [.x<|.j (.v 3) "isolate" [.h "bidi_is_right_isolate" [.v 0,.v 7,.v 4]]]
     []]]]
noncomputable def qD(l:au)(base:Int)(pf:Int->bK)(x y a b c:bR):bf:=[some<|.l l,some<|.i base,some<|.i 125,some<|.e 0,some<|.d pf,some<|.e 2,some<|.e 3,x,y,a,b,c]
def dc(es:List Ent)(lv cl:au):ak:=[bW<|cnt es,ents es,some<|.l lv,some<|.l cl]
section
variable {n:Nat}{l:au}{base:Int}{i:Nat}{k:String}{pf:Int->bK}{es:List Ent}{lv cl:au}{x a b c:bR}{T:bf->ak->Prop}
set_option tactic.hygienic true in
theorem xi(es:List Ent):cnt (fS es)=cnt es:=by
 induction es using b9 with
 |nil=>rfl
 |cons e r=>
  show cnt (if _ then r else e::r)=_;split
  ·rename_i h;rw[cy,k9]at h;unfold cnt;refine rR tF<|rR h.1 ?_;rfl
  ·rfl
theorem xk(jI:fu base es)(htop:fc es<=100)(hes:es.length<=800)(gJ:lv.length<=800)(hcl:cl.length<=800)(nW:k≠"RLO")(pC:k≠"LRO")(hr:kQ k=true)(K:∀a b c,T (qD l base pf x (some<|.s k) a b c)<|dc (fH k es) (lv++[PV.n])<|cl++[PV.s "BN"]):
  Ok (aF (gam<|n+3) [.x<|.q (.v 5)<|.c .n,
   .x (.q (.v 6)<|.c<|.s "BN"),
   .i (.m .i (.v 8)<|.g "EMBEDDINGS" rE)
    [.a 9<|.a false [.m .e (.v 8)<|.c<|.s "RLE",.m .e (.v 8)<|.c<|.s "RLO"],
    .a 10 (.i (.a false [.m .e (.v 8)<|.c<|.s "RLO",.m .e (.v 8)<|.c<|.s "LRO"]) (.i (.v 9) (.c<|.s "R")<|.c<|.s "L")<|.c .n),
    .x (.j (.v 3) "embed" [.v 9,.v 10])]
    [.i (.m .e (.v 8)<|.c<|.s "PDF")
     [.x<|.j (.v 3) "end_embedding" []]
     []]] (qD l base pf x (some<|.s k) a b c)<|dc es lv cl) (Nx T):=by
 refine eW (m:=2) (l1:=lv) (l2:=lv) (v:=.n) (H1:=dc es lv cl) (H2:=dc es lv cl) rfl rfl rfl rfl (wM gJ) ?_;refine eW (m:=3) (l1:=cl) (l2:=cl) (v:=.s "BN") (H1:=dc es (lv++[PV.n]) cl) (H2:=dc es (lv++[PV.n]) cl) rfl rfl rfl rfl (wM hcl) ?_;show Ok (aF _ _ _ (dc es (lv++[PV.n])<|cl++[PV.s "BN"])) _;refine bU (c:=decide<|k∈["RLE","LRE","RLO","LRO"]) (H':=dc es (lv++[PV.n])<|cl++[PV.s "BN"]) (bu (p:=.s k) (q:=rE) rfl rfl<|by exact rR tf<|rR gT rfl) (λhc=>?_) λhc=>?_
 ·have hk:k="RLE"\/k="LRE":=by have:=cG hc;simp only[List.mem_cons,List.not_mem_nil,or_false,nW,pC]at this;exact this
  have hst:fH k es=(eB (k=="RLE")<|fc es,false)::es:=bw hk;rw[hst]at K;have e8:∀(s:String) ae H,ae[8]?=some (some<|.s k)->az (gam<|n+3) (.m .e (.v 8)<|.c<|.s s) ae H=some (.b<|decide<|k=s,H):=λs ae H h=>bu (p:=.s k) (q:=.s s) (bq h) cL rfl;refine aZ (v:=.b<|k=="RLE") (H1:=dc es (lv++[PV.n])<|cl++[PV.s "BN"]) ((pA (e8 _ _ _ rfl) λU=>e8 _ _ _ rfl).trans<|by(refine rR (dG nW) ?_;rewrite[Bool.or_false]);rfl) ?_;refine aZ (v:=.n) (H1:=dc es (lv++[PV.n])<|cl++[PV.s "BN"]) (iB (c:=false) ((pA (e8 _ _ _ rfl) λU=>e8 _ _ _ rfl).trans<|by refine rR (dG nW)<|rR (dG pC) ?_;rfl) nB λU=>cL) ?_;refine X2 jI.ne λe r aQ=>?_;clear jI hst;subst aQ;have hf:=vj (k=="RLE") e.1
  exact nT (v:=.n) (H1:=[bW<|cnt<|e::r,ents<|(eB (k=="RLE") e.1,false)::e::r,some<|.l<|lv++[PV.n],some<|.l<|cl++[PV.s "BN"]]) (kc (p:=.e 0) (vs:=[.b<|k=="RLE",.n]) (H1:=dc (e::r) (lv++[PV.n])<|cl++[PV.s "BN"]) rfl rfl (by decide) rfl (ww _ (by
   simp only[fc]at htop;exact GN htop hf) (by simp only[List.length_cons]at hes;exact F5 hes)))<|cu<|K _ _ _
 ·have hk:¬(k="RLE"\/k="LRE"):=by have:=lW hc;simp only[List.mem_cons,List.not_mem_nil,or_false,nW,pC]at this;exact this
  refine bU (c:=decide<|k="PDF") (H':=dc es (lv++[PV.n])<|cl++[PV.s "BN"]) rfl (λhc3=>?_) λhc3=>?_
  ·have hst:fH k es=fS es:=(bO hk).trans<|bw<|cG hc3
   rw[hst]at K;refine X2 jI.ne λe r aR=>?_;clear jI htop hes hst;subst aR;refine nT (v:=.n) (H1:=dc (fS<|e::r) (lv++[PV.n])<|cl++[PV.s "BN"]) (kc (p:=.e 0) (vs:=[]) (H1:=dc (e::r) (lv++[PV.n])<|cl++[PV.s "BN"]) rfl rfl (by decide) bA ?_)<|cu<|K _ _ _
   unfold dc;rw[xi];exact wy (n:=n+1)
  ·have xl:k="BN":=by have yY:=lW hc3;simp only[kQ,Bool.or_eq_true,beq_iff_eq,hk,yY,false_or]at hr;exact hr
   clear nW pC hr hc hk hc3;subst xl;exact cu<|K _ _ _
theorem xp(b:Bool)(v:Int)(es:List Ent):cnt ((v,b)::es)=cnt es+(if b then 1 else 0):=by
 unfold cnt;refine rR tF ?_
 induction b using cP<;>rfl
theorem Nm(hl:bT l)(hk:l[i]?=some (.s k))(hF:k≠"FSI")(jI:fu base es)(htop:fc es<=100)(hes:es.length<=800)(gJ:lv.length<=800)(hcl:cl.length<=800)
  (K:∀a b c,T (qD l base pf (some<|.i i) (some<|.s k) a b c)<|dc (if gb k then(eB (k=="RLI")<|fc es,true)::es else es) (lv++[PV.i<|fc es])<|cl++[PV.s k]):
  Ok (aF (gam<|n+3) [.a 11<|.j (.v 3) "last" [],
    .x (.q (.v 5)<|.f (.v 11) "level"),
    .x (.q (.v 6)<|.i (.m .t (.f (.v 11) "override")<|.c .n) (.f (.v 11) "override")<|.v 8),
    .i (.m .i (.v 8)<|.g "INITIATORS" iM)
     [.x<|.j (.v 3) "isolate" [.h "bidi_is_right_isolate" [.v 0,.v 7,.v 4]]]
     []] (qD l base pf (some<|.i i) (some<|.s k) a b c)<|dc es lv cl) (Nx T):=by
 refine X2 jI.ne λe r aT=>?_;clear jI;subst aT;refine aZ (v:=eG e) (H1:=dc (e::r) lv cl) (kc (p:=.e 0) (vs:=[]) (H1:=dc (e::r) lv cl) rfl rfl (by decide) bA<|yV (n:=n+2)) ?_;refine eW (m:=2) (l1:=lv) (l2:=lv) (v:=.i e.1) (H1:=dc (e::r) lv cl) (H2:=dc (e::r) lv cl) rfl rfl (dF (p:=eG e) (H1:=dc (e::r) lv cl) rfl rfl (by decide) rfl) rfl (wM gJ) ?_;show Ok (aF _ _ _ (dc (e::r) (lv++[PV.i e.1]) cl)) _;refine eW (m:=3) (l1:=cl) (l2:=cl) (v:=.s k) (H1:=dc (e::r) (lv++[PV.i e.1]) cl) (H2:=dc (e::r) (lv++[PV.i e.1]) cl) rfl rfl (iB (c:=false) (bu (p:=.n) (q:=.n) (H1:=dc (e::r) (lv++[PV.i e.1]) cl) (dF (p:=eG e) (H1:=dc (e::r) (lv++[PV.i e.1]) cl) rfl rfl (by decide) rfl) cL rfl) nB λU=>rfl) rfl (wM hcl) ?_;show Ok (aF _ _ _ (dc (e::r) (lv++[PV.i e.1])<|cl++[PV.s k])) _;refine bU (c:=gb k) (H':=dc (e::r) (lv++[PV.i e.1])<|cl++[PV.s k]) (bu (p:=.s k) (q:=iM) rfl rfl vg) (λhi=>?_) λhi=>?_
 ·rw[bw hi]at K;have hf:=vj (k=="RLI") e.1
  refine nT (v:=.n) (H1:=[bW<|cnt (e::r)+1,ents<|(eB (k=="RLI") e.1,true)::e::r,some<|.l<|lv++[PV.i e.1],some<|.l<|cl++[PV.s k]]) (kc (p:=.e 0) (vs:=[.b<|k=="RLI"]) (H1:=dc (e::r) (lv++[PV.i e.1])<|cl++[PV.s k]) rfl rfl (by decide)
   (aJ (bP (vs:=[.l l,.i i,.d pf]) rfl<|xc (n+2) hl hk hF (D0 _ _) _) bA) (wx _ (by
   simp only[fc]at htop;exact GN htop hf) (by simp only[List.length_cons]at hes;exact F5 hes)))<|cu ?_
  have:=K a b<|some<|eG e
  unfold dc at this;rw[xp]at this;exact this
 ·rw[bO<|by refine rR hi ?_;exact gE]at K;exact cu<|K _ _ _
theorem xt(h:¬es.any (·.2)=true):cnt es=0:=
 kq (Int.not_lt.mp λq=>h<|Ng.mpr q) (iY _)
set_option tactic.hygienic true in
theorem xz(hl:bT l)(hk:l[i]?=some (.s k))(hK:nV k)(jI:fu base es)(hall:∀e∈es,e.1<=100)(hes:es.length<=800)(gJ:lv.length<=800)(hcl:cl.length<=800)
  (K:∀a b c s,T (qD l base pf (some<|.i i) (some<|.s k) a b c)<|dc (fH k es) (lv++[aD<|kR k es])<|cl++[.s s]):
  Ok (aF (gam<|n+3) xf (qD l base pf (some<|.i i) (some<|.s k) a b c)<|dc es lv cl) (Nx T):=by
 refine U3 hK λhB hF nW pC=>?_;have top:∀{D3},fu base D3->(∀e∈D3,e∈es)->fc D3<=100:=λhb hm=>by refine aC (yW hb) λe h1 h2=>?_;refine rR h2 ?_;exact hall e<|hm e h1
 refine bU (c:=kQ k) (H':=dc es lv cl) (bu (p:=.s k) (q:=oK) rfl rfl (by
  refine rR MY<|rR gT ?_
  congr 1;rw[Bool.eq_iff_iff]
  simp only[decide_eq_true_iff,List.mem_cons,List.not_mem_nil,or_false,nW,pC,false_or,kQ,Bool.or_eq_true,beq_iff_eq,or_assoc])) (λhr=>?_) λhr=>?_
 ·have qE:kR k es=none:=bw hr;rw[qE]at K;exact xk jI (top jI λU h=>h) hes gJ hcl nW pC hr λa b c=>K a b c _
 ·refine bU (c:=decide<|k="B") (H':=dc es lv cl) rfl (λh=>absurd (cG h) hB) λU=>?_;have iS:=hr;simp only[kQ,Bool.or_eq_false_iff,beq_eq_false_iff_ne]at iS;refine U1 iS λaL n6=>?_;revert aL;refine V1 λaM n5=>?_;revert aM;refine V1 λn1 n2=>?_;have hst:fH k es=if k="PDI" then fT es else if gb k then(eB (k=="RLI")<|fc es,true)::es else es:=by unfold fH;exact rR (bO λh=>h.elim n1 n2)<|rR (bO n5) rfl
  have qE:kR k es=some (fc (if k="PDI" then fT es else es)):=by unfold kR;exact rR (bO<|by rw[hr];exact gE) rfl
  rw[hst,qE]at K;refine bU (c:=decide<|k="PDI") (H':=dc es lv cl) rfl (λhp=>?_) λhp=>?_
  ·have hp:=cG hp;rw[bw hp,bw hp]at K;refine nT (v:=.n) (H1:=dc (fT es) lv cl) (kc (p:=.e 0) (vs:=[]) (H1:=dc es lv cl) rfl rfl (by decide) bA ?_)
    (Nm hl hk hF jI.fT (top jI.fT λU=>DZ) (eR (Ni es) hes) gJ hcl λa b c=>?_)
   ·unfold fT dc;split
    ·rename_i ha;refine rR (Nf ha) ?_;exact wP (n:=n+1) (Ng.mp ha) ha<|Rj hes
    ·rename_i ha;refine rR (xt ha) ?_;exact wE (n:=n+1)
   ·refine rR (bO<|by clear hk hK K hB hF nW pC hr iS n6 n5 n1 n2 hst qE;subst hp;decide) ?_;exact K a b c _
  ·have hp:=lW hp;rw[bO hp,bO hp]at K;exact Nm hl hk hF jI (top jI λU h=>h) hes gJ hcl λa b c=>K a b c _
end
def eH(ks:aY)(base:Int):au:=(List.range ks.length).map λt=>aD<|eM ks base t
theorem D4{n:Nat}{H:ak}(o:bK):b8 n H (aD o)=some (aD o):=iT<|by induction o using e9<;>simp[aD]
theorem yZ{n:Nat}(o:bK):fz n (aD o)=true:=dj<|by induction o using e9<;>simp[aD]
theorem xI(n:Nat){ks:aY}{base:Int}(hK:∀k∈ks,nV k)(hb:ks.length<=40)(hbase:base<=1)(H:ak):
  ∃cl,gam (n+4) "" "explicit" [.l<|ks.map bQ,.i base,.i 125] H=some (.t [.l<|eH ks base,.l cl],H)/\bT cl/\cl.length=ks.length:=by
 obtain⟨v,e,cl,rfl,h⟩:=sI (c:="") (f:="explicit") (H:=H) (args:=[.l<|ks.map bQ,.i base,.i 125]) (Q:=λv=>∃cl,v=.t [.l<|eH ks base,.l cl]/\bT cl/\cl.length=ks.length) (n:=n+3) (ir:=HD) (vs:=[.l<|ks.map bQ,.i base,.i 125]) (by kernel_rfl) rfl rfl rfl (by simp[(jH ks).fz,dj]) λT K=>by
  show Ok (aF (gam<|n+3) AM [some<|.l<|ks.map bQ,some<|.i base,some<|.i 125,none,none,none,none,none,none,none,none,none] []) T;unfold AM;refine aZ (v:=.e 0) (H1:=[bW 0,ents [(base,false)]]) (bP (vs:=[.i base,.i 125]) (H1:=[]) rfl<|wS (n+1) base) ?_;refine aZ (v:=.d<|gc (eY ks ks.length).2) (H1:=[bW 0,ents [(base,false)]]) (bP (vs:=[.l<|ks.map bQ]) (H1:=[bW 0,ents [(base,false)]]) rfl<|DY (n+2) (λh=>(hK _ h).1 rfl) (Rk hb) _) ?_;refine gen (gc (eY ks ks.length).2) λpf=>?_;refine aZ (v:=.e 2) (H1:=[bW 0,ents [(base,false)],some<|.l []]) rfl ?_;refine aZ (v:=.e 3) (H1:=dc [(base,false)] [] []) rfl ?_;refine sH (λ(U:au) x yz=>qD (ks.map bQ) base pf x yz.1 yz.2.1 yz.2.2.1 yz.2.2.2) (λi cl U U=>dc (gK ks base i) ((List.range i).map λt=>aD<|eM ks base t) cl) (λi cl U U=>bT cl/\cl.length=i) [] none (none,none,none,none) rfl rfl ji ⟨bT.nil,rfl⟩ (λi x cl a bc hx hj T k=>?_) λcl a bc hj=>?_
  ·refine U1 hj λh1 h2=>?_;refine aC (j6 hx) λv hv aP=>?_;clear hx;subst aP;have hi:=cH hv;rw[bI]at hi;obtain rfl:=Na hv;have hmem:ks.getD i ""∈ks:=by rw[fV,eE hi];exact tK hi
   have hlb:=yX ks base i;have xL:=Nk ks base i;refine aA _ rfl (xz (jH ks) hv (hK _ hmem) (vh ks base i) (λe he=>by have:=hlb e he;exact VO hb hbase hi this) (Rm hb hi xL) (by(rewrite[bI];refine rR tL ?_);exact Rn hb hi) (by(first|lia|omega)) λa b c s=>?_);have:=k (cl++[.s s]) (some<|.i i) (some<|.s<|ks.getD i "",a,b,c) ⟨h1.app s,by refine rR gF<|rR h2 ?_;rfl⟩;rw[List.range_succ,kB]at this;exact this
  ·refine U1 hj λh1 h2=>?_;rw[mP,bI]at h2⊢;refine bX (v:=.t [.e 2,.e 3]) rfl<|K _ (.t [.l<|eH ks base,.l cl]) _ _ ?_ (cM cl rfl h1 h2)
   show Option.map PV.t ([PV.e 2,.e 3].mapM (b8 5<|dc (gK ks base ks.length) (eH ks base) cl))=_;have e1:b8 5 (dc (gK ks base ks.length) (eH ks base) cl) (.e 2)=some (.l<|eH ks base):=gu rfl λx hx=>by refine aC (bV.mp hx) λt U aN=>?_;clear hx;subst aN;exact D4 _
   have e2:b8 5 (dc (gK ks base ks.length) (eH ks base) cl) (.e 3)=some (.l cl):=gu rfl h1.b8;refine rR List.mapM_cons (rR e1<|rR List.mapM_cons<|rR e2 ?_);rfl
 exact aA cl e h
noncomputable def Lk(aH:Nat->bK)(t:Nat):List Ent->aG->Prop
 |[],_=>False
 |[e],w=>e.2=false/\w=[]
 |e::f::es,w=>f.1<e.1/\((e.2=true/\∃b w',w=b::w'/\aH b=some f.1/\(∀j,b<j->j<t->∀l,aH j=some l->f.1<l)/\Lk aH t (f::es) w')\/(e.2=false/\Lk aH t (f::es) w))
theorem Lk.ne{aH:Nat->bK}{t:Nat}{es:List Ent}{w:aG}(h:Lk aH t es w):∃e r,es=e::r:=by
 induction es using b9 with
 |nil=>exact h.elim
 |cons e r=>exact I2 e r rfl
theorem Lk.ext{aH:Nat->bK}{t:Nat}:∀{es:List Ent}{w:aG},Lk aH t es w->(∀l,aH t=some l->fc es<=l)->Lk aH (t+1) es w
 |[],_,h,_=>h.elim
 |[e],w,h,_=>h
 |e::f::es,w,h,ht=>by
  refine U1 h λh1 h2=>?_;have ht':∀l,aH t=some l->fc (f::es)<=l:=λl hl=>by have:=ht l hl;simp only[fc]at this⊢;exact GG h1 this
  refine⟨h1,?_⟩;rcases h2 with⟨he,b,w',rfl,hb,hj,hk⟩|⟨he,hk⟩
  ·refine .inl<|Fx he b w' rfl hb (λj x' yA l hl=>?_)<|Lk.ext hk ht'
   rcases dm j t with h|h
   ·exact hj j x' h l hl
   ·obtain rfl:j=t:=jP yA h;have:=ht l hl;simp only[fc]at this;exact Vb h1 this
  ·exact .inr ⟨he,Lk.ext hk ht'⟩
theorem Lk.nil{aH:Nat->bK}{t:Nat}:∀{es:List Ent},Lk aH t es []->es.any (·.2)=false
 |[],h=>h.elim
 |[e],h=>by simp[h.1]
 |e::f::es,h=>by
  rcases h.2 with⟨_,b,w',h',_⟩|⟨he,hk⟩
  ·injection h'
  ·have:=Lk.nil hk;refine rR qY<|rR he<|rR this ?_;rfl
theorem Lk.iso{aH:Nat->bK}{t b:Nat}{w:aG}:∀{es:List Ent},Lk aH t es (b::w)->es.any (·.2)=true/\Lk aH t (eX es) w/\aH b=some (fc<|eX es)/\∀j,b<j->j<t->∀l,aH j=some l->fc (eX es)<l
 |[],h=>h.elim
 |[e],h=>by cases h.2
 |e::f::es,h=>by
  rcases h.2 with⟨he,b',w',h',hb,hj,hk⟩|⟨he,hk⟩
  ·(refine U1 (qZ h') λaQ aR=>?_;clear h';subst aQ;subst aR)
   have e1:eX (e::f::es)=f::es:=by(rewrite[eX];exact rR (bw he) rfl)
   refine rR e1 ?_;exact⟨by refine rR qY<|rR he ?_;rfl,hk,hb,hj⟩
  ·have e1:eX (e::f::es)=eX (f::es):=by(rewrite[eX];exact rR (bO<|by rw[he];decide) rfl)
   refine U3 (Lk.iso hk) λa1 a2 a3 a4=>?_;refine rR e1 ?_;exact⟨by(refine rR qY<|rR a1 ?_;rw[Bool.or_true]),a2,a3,a4⟩
theorem Lk.yB{aH:Nat->bK}{t:Nat}:∀{es:List Ent}{w:aG},Lk aH t es w->Lk aH t (fS es) w
 |[],w,h=>h
 |[e],w,h=>by
  have:fS [e]=[e]:=by simp[fS]
  refine rR this ?_;exact h
 |e::f::es,w,h=>by
  cases he:e.2 with
  |true=>
   have:fS (e::f::es)=e::f::es:=by simp[fS,he]
   refine rR this ?_;exact h
  |false=>
   have:fS (e::f::es)=f::es:=by rw[fS,bw];refine rR he ?_;simp
   refine rR this ?_;rcases h.2 with⟨h',_⟩|⟨_,hk⟩
   ·rw[he]at h';exact nB h'
   ·exact hk
structure Pr (ks:aY)(aH:Nat->bK)(t b e:Nat):Prop where
 lt:b<e
 et:e<t
 ke:ks.getD e ""="PDI"
 kb:gb (ks.getD b "")=true
 lv:∃L,aH b=some L/\aH e=some L/\∀j,b<j->j<e->∀l,aH j=some l->L<l
structure PI (ks:aY)(aH:Nat->bK)(t:Nat)(es:List Ent)(s:aG×List (Nat×Nat)):Prop where
 lk:Lk aH t es s.1
 wt:∀b∈s.1,b<t/\gb (ks.getD b "")=true
 pr:∀p∈s.2,Pr ks aH t p.1 p.2
theorem Nn(ks:aY)(base:Int):∀t,PI ks (eM ks base) t (gK ks base t)<|eY ks t
 |0=>⟨(⟨rfl,rfl⟩:Lk _ 0 [(base,false)] []),(λU h=>nomatch h),(λU h=>nomatch h)⟩
 |t+1=>by
  have ih:=Nn ks base t;have hl:eM ks base t=kR (ks.getD t "") (gK ks base t):=rfl;have e1:gK ks base (t+1)=fH (ks.getD t "") (gK ks base t):=rfl;have e2:eY ks (t+1)=iV (ks.getD t "") t (eY ks t):=rfl;refine rR e1<|rR e2 ?_
  generalize hes:gK ks base t=es at*;generalize y0:eY ks t=s at*;generalize hk:ks.getD t ""=k at*;obtain⟨w,ps⟩:=s;obtain⟨lk,wt,pr⟩:=ih;dsimp only at lk wt pr;have sR:∀b∈w,b<t+1/\gb (ks.getD b "")=true:=λb h=>⟨by have:=(wt b h).1;exact ue this,(wt b h).2⟩
  have qF:∀p∈ps,Pr ks (eM ks base) (t+1) p.1 p.2:=λp h=>let q:=pr p h;⟨q.lt,by have:=q.et;exact ue this,q.ke,q.kb,q.lv⟩
  have y9:k="PDI"->iV k t (w,ps)=(match w with
    |[]=>(w,ps)
    |b::w=>(w,(b,t)::ps)):=λc3=>by
    unfold iV;refine rR (bO<|by rw[c3];decide)<|rR (bw<|by simp[c3]) ?_
    induction w using b9<;>rfl
  have vm:k≠"PDI"->gb k=false->iV k t (w,ps)=(w,ps):=λh1 h2=>by unfold iV;exact rR (bO<|by rw[h2];decide)<|rR (bO<|by simpa using h1) rfl
  by_cases c1:k="RLE"\/k="LRE"
  ·have hn:eM ks base t=none:=by refine rR hl ?_;rewrite[kR];exact rR (bw (by rcases c1 with h|h<;>rw[h]<;>rfl)) rfl
   have hx:fH k es=(eB (k=="RLE")<|fc es,false)::es:=by(rewrite[fH];exact rR (bw c1) rfl)
   refine rR hx<|rR (vm (by intro h';rw[h']at c1;revert c1;decide) (by clear hk hl e1 e2 y9 vm hx;rcases c1 with rfl|rfl<;>rfl)) ?_
   refine X2 lk.ne λe r aT=>?_;clear hes hl e1 y9 hx;subst aT;refine⟨⟨?_,.inr ⟨rfl,lk.ext λl h=>by rw[hn]at h;exact nN h⟩⟩,sR,qF⟩;have:=vj (k=="RLE") e.1;show e.1<eB (k=="RLE") e.1;exact GO this
  by_cases c2:k="PDF"
  ·have hn:eM ks base t=none:=by(refine rR hl ?_;rewrite[kR];exact rR (bw<|by rw[c2];rfl) rfl)
   have hx:fH k es=fS es:=by(rewrite[fH];exact rR (bO c1)<|rR (bw c2) rfl)
   refine rR hx<|rR (vm (by rw[c2];decide)<|by rw[c2];rfl) ?_
   exact⟨(lk.ext λl h=>by rw[hn]at h;exact nN h).yB,sR,qF⟩
  by_cases c3:k="PDI"
  ·have hx:fH k es=fT es:=by(rewrite[fH];exact rR (bO c1)<|rR (bO c2)<|rR (bw c3) rfl)
   have hn:eM ks base t=some (fc<|fT es):=by refine rR hl ?_;rewrite[kR];exact rR (bO<|by rw[c3];decide)<|rR (bw c3) rfl
   refine rR hx ?_;have hp:=y9 c3;refine rR hp ?_
   induction w using b9 with
   |nil=>
    have:fT es=es:=by unfold fT;exact rR (bO<|by rw[lk.nil];decide) rfl
    rw[this]at hn⊢;exact⟨lk.ext λl h=>by rw[hn]at h;obtain rfl:=aK h;exact k_ _,sR,qF⟩
   |cons b w=>
    refine U3 lk.iso λa1 a2 a3 a4=>?_;have:fT es=eX es:=by unfold fT;exact rR (bw a1) rfl
    rw[this]at hn⊢;refine⟨a2.ext λl h=>by rw[hn]at h;obtain rfl:=aK h;exact k_ _,λb' h=>sR b'<|dh _ h,λp hp=>?_⟩;rcases eO.mp hp with rfl|hp
    ·exact⟨(wt b cR).1,by dsimp only;exact l9,by dsimp only;exact rR hk<|rR c3 rfl,(wt b cR).2,_,a3,hn,a4⟩
    ·exact qF p hp
  by_cases c4:gb k=true
  ·have hx:fH k es=(eB (k=="RLI")<|fc es,true)::es:=by(rewrite[fH];exact rR (bO c1)<|rR (bO c2)<|rR (bO c3)<|rR (bw c4) rfl)
   have hn:eM ks base t=some (fc es):=by refine rR hl ?_;rewrite[kR];exact rR (bO (by rcases Nc.mp c4 with h|h|h<;>rw[h]<;>decide))<|rR (bO c3) rfl
   have hp:iV k t (w,ps)=(t::w,ps):=by unfold iV;exact rR (bw c4) rfl
   refine rR hx<|rR hp ?_
   refine X2 lk.ne λe r aL=>?_;clear hx;clear hes hl e1 y9;subst aL;refine⟨⟨?_,.inl<|Fx rfl t w rfl hn (λj h1 h2=>by(first|lia|omega)) (lk.ext λl h=>by rw[hn]at h;obtain rfl:=aK h;exact k_ _)⟩,λb hb=>?_,qF⟩
   ·have:=vj (k=="RLI") e.1;show e.1<eB (k=="RLI") e.1;exact GO this
   ·clear y0 e2 wt pr qF vm hp lk hn;rcases eO.mp hb with rfl|hb
    ·exact⟨l9,by exact rR hk<|rR c4 rfl⟩
    ·exact sR b hb
  ·have hx:fH k es=es:=by(rewrite[fH];exact rR (bO c1)<|rR (bO c2)<|rR (bO c3)<|rR (bO c4) rfl)
   refine rR hx<|rR (vm c3<|by simpa using c4) ?_
   refine⟨lk.ext λl h=>?_,sR,qF⟩;rw[hl,kR]at h;split at h
   ·exact nN h
   ·obtain rfl:=aK h;exact k_ _
set_option tactic.hygienic true in
theorem Np:∀{ps:List<|Nat×Nat}{x y:Int},gc ps x=some y->∃p∈ps,(x=(p.2:Int)/\y=(p.1:Int))\/(x=(p.1:Int)/\y=(p.2:Int))
 |[],x,y,h=>by simp[gc]at h
 |(b,e)::r,x,y,h=>by
  unfold gc at h;split at h
  ·rename_i hx;exact aA (b,e) cR<|.inl ⟨hx,(aK h).symm⟩
  ·split at h
   ·rename_i hx;exact aA (b,e) cR<|.inr ⟨hx,(aK h).symm⟩
   ·refine aC (Np h) λp hp h'=>?_;exact aA p (dh _ hp) h'
theorem Nq{ks:aY}{base:Int}{i:Nat}{y:Int}(hi:gb (ks.getD i "")=true)(h:gc (eY ks ks.length).2 i=some y):∃q:Nat,y=q/\Pr ks (eM ks base) ks.length i q:=by
 refine aC (Np h) λaM hp h'=>?_;obtain⟨b,e⟩:=aM;have P:=(Nn ks base ks.length).pr _ hp;dsimp only at h' P;rcases h' with⟨h1,h2⟩|⟨h1,h2⟩
 ·obtain rfl:i=e:=wN h1;rw[P.ke]at hi;exact nB hi
 ·obtain rfl:i=b:=wN h1;exact aA e h2 P
noncomputable def lP(o:bK)(t:Nat)(s:List aG×bK):List aG×bK:=match o with
 |none=>s
 |some l=>if some l=s.2 then(s.1.dropLast++[s.1.getLast?.getD []++[t]],some l)else(s.1++[[t]],some l)
def lrs(aH:Nat->bK):Nat->List aG×bK
 |0=>([],none)
 |t+1=>lP (aH t) t<|lrs aH t
noncomputable def y_(aH:Nat->bK)(t:Nat)(rs:List aG):bK->Prop
 |none=>rs=[]/\∀j,j<t->aH j=none
 |some l=>∃dn cur p,rs=dn++[cur]/\cur.getLast?=some p/\aH p=some l/\p<t/\(∀j,p<j->j<t->aH j=none)/\∀r∈dn,∀x∈r,x<p
structure LR (aH:Nat->bK)(t:Nat)(rs:List aG):Prop where
 ne:∀r∈rs,r≠[]
 el:∀r∈rs,∀x∈r,x<t/\aH x≠none
 mo:∀r∈rs,∀h,r.head?=some h->∀x∈r,h<=x
 hd:∀q,q<t->aH q≠none->(∃r∈rs,r.head?=some q)\/∃p,p<q/\aH p=aH q/\∀j,p<j->j<q->aH j=none
 tl:∀r∈rs,∀i,r.getLast?=some i->∀p,i<p->p<t->aH p≠none->(∀j,i<j->j<p->aH j=none)->aH p≠aH i
 sz:(rs.map List.length).sum<=t/\rs.length<=t
theorem D5(aH:Nat->bK):∀t,LR aH t (lrs aH t).1/\y_ aH t (lrs aH t).1 (lrs aH t).2
 |0=>⟨⟨λU h=>(nomatch h),λU h=>(nomatch h),λU h=>(nomatch h),λU h=>absurd h<|q_ _,λU h=>(nomatch h),bY _,bY _⟩,rfl,λU h=>absurd h<|q_ _⟩
 |t+1=>by
  refine U1 (D5 aH t) λI L=>?_;have e1:lrs aH (t+1)=lP (aH t) t (lrs aH t):=rfl;refine rR e1 ?_;generalize lrs aH t=s at I L;obtain⟨rs,la⟩:=s;dsimp only at I L;have hd0:∀q,q<t->aH q≠none->∀rs':List aG,(∀r∈rs,∀h,r.head?=some h->∃r'∈rs',r'.head?=some h)->(∃r∈rs',r.head?=some q)\/∃p,p<q/\aH p=aH q/\∀j,p<j->j<q->aH j=none:=λq hq hn rs' hr=>by
   rcases I.hd q hq hn with⟨r,h1,h2⟩|h
   ·exact .inl<|hr r h1 q h2
   ·exact .inr h
  cases hl:aH t with
  |none=>
   show LR aH (t+1) rs/\y_ aH (t+1) rs la;refine⟨⟨I.ne,λr hr x hx=>⟨by have:=(I.el r hr x hx).1;exact ue this,(I.el r hr x hx).2⟩,I.mo,λq hq hn=>?_,λr hr i hi p pg vn hn hj=>?_,by have:=I.sz;exact Ro this,by have:=I.sz;exact Rp this⟩,?_⟩
   ·rcases dm q t with h|h
    ·exact I.hd q h hn
    ·obtain rfl:q=t:=jP hq h;exact absurd hl hn
   ·rcases dm p t with h|h
    ·exact I.tl r hr i hi p pg h hn hj
    ·obtain rfl:p=t:=jP vn h;exact absurd hl hn
   ·induction la using e9 with
    |none=>
     refine⟨L.1,λj hj=>?_⟩;rcases dm j t with h|h
     ·exact L.2 j h
     ·obtain rfl:j=t:=jP hj h;exact hl
    |some l=>
     refine t6 L λdn cur p a1 a2 a3 a4 a5 a6=>?_;refine PE dn cur p a1 a2 a3 (ue a4) (λj h1 h2=>?_) a6;rcases dm j t with h|h
     ·exact a5 j h1 h
     ·obtain rfl:j=t:=jP h2 h;exact hl
  |some l=>
   by_cases hc:some l=la
   ·subst hc;refine t6 L λdn cur p0 aP a2 a3 a4 a5 a6=>?_;subst aP;have e2:lP (some l) t (dn++[cur],some l)=(dn++[cur++[t]],some l):=by simp only[lP];refine rR (bw True.intro) ?_;simp
    refine rR e2 ?_;show LR aH (t+1) (dn++[cur++[t]])/\y_ aH (t+1) (dn++[cur++[t]]) (some l);have Nr:cur≠[]:=by rintro rfl;simp at a2
    have mem:∀{r},r∈dn++[cur++[t]]->r∈dn\/r=cur++[t]:=λh=>by simpa using h
    have m1:∀{r},r∈dn->r∈dn++[cur]:=λh=>dR.mpr<|.inl h
    have m2:cur∈dn++[cur]:=dR.mpr<|.inr cR
    refine Fz ⟨λr hr=>?_,λr hr x hx=>?_,λr hr h hh x hx=>?_,λq hq hn=>?_,λr hr i hi p pg vn hn hj=>?_,?_,?_⟩ dn (cur++[t]) t rfl (by simp) hl l9 (λj h1 h2=>by(first|lia|omega)) λr hr x hx=>(I.el r (m1 hr) x hx).1
    ·rcases mem hr with h|rfl
     ·exact I.ne r<|m1 h
     ·simp
    ·rcases mem hr with h|rfl
     ·have:=I.el r (m1 h) x hx;exact⟨by(first|lia|omega),this.2⟩
     ·rcases dR.mp hx with hx|hx
      ·have:=I.el cur m2 x hx;exact⟨by(first|lia|omega),this.2⟩
      ·refine rR (dO.mp hx) ?_;exact⟨l9,by refine rR hl ?_;simp⟩
    ·rcases mem hr with h'|rfl
     ·exact I.mo r (m1 h') h hh x hx
     ·have Nt:cur.head?=some h:=by
       induction cur using b9 with
       |nil=>exact absurd rfl Nr
       |cons a b=>simpa using hh
      rcases dR.mp hx with hx|hx
      ·exact I.mo cur m2 h Nt x hx
      ·refine rR (dO.mp hx) ?_;have:=(I.el cur m2 h<|List.mem_of_mem_head?<|by refine rR Nt ?_;rfl).1;exact gX this
    ·rcases dm q t with h|h
     ·refine hd0 q h hn _ λr hr x hx=>?_;rcases dR.mp hr with h'|h'
      ·exact aA r (dR.mpr<|.inl h') hx
      ·rw[dO.mp h']at hx;refine aA (cur++[t]) (by simp) ?_
       induction cur using b9 with
       |nil=>exact absurd rfl Nr
       |cons a b=>simpa using hx
     ·obtain rfl:q=t:=jP hq h;exact .inr<|cM p0 a4 (by exact rR a3<|rR hl rfl) a5
    ·rcases mem hr with h|rfl
     ·rcases dm p t with h'|h'
      ·exact I.tl r (m1 h) i hi p pg h' hn hj
      ·obtain rfl:p=t:=jP vn h';have:=a6 r h i<|q6<|by refine rR hi ?_;rfl
       have:=hj p0 this a4;rw[a3]at this;exact sN this
     ·simp at hi;(first|lia|omega)
    ·have:=I.sz.1;simp only[List.map_append,List.sum_append,List.map_cons,List.map_nil,List.length_append,List.sum_cons,List.sum_nil,List.length_cons,List.length_nil]at this⊢;exact Rq this
    ·have:=I.sz.2;simp only[List.length_append,List.length_cons,List.length_nil]at this⊢;exact Rr this
   ·have e2:lP (some l) t (rs,la)=(rs++[[t]],some l):=by simp only[lP];exact rR (bO hc) rfl
    refine rR e2 ?_;show LR aH (t+1) (rs++[[t]])/\y_ aH (t+1) (rs++[[t]]) (some l);have mem:∀{r},r∈rs++[[t]]->r∈rs\/r=[t]:=λh=>by simpa using h
    refine Fz ⟨λr hr=>?_,λr hr x hx=>?_,λr hr h hh x hx=>?_,λq hq hn=>?_,λr hr i hi p pg vn hn hj=>?_,?_,?_⟩ rs [t] t rfl rfl hl l9 (λj h1 h2=>by(first|lia|omega)) λr hr x hx=>(I.el r hr x hx).1
    ·rcases mem hr with h|rfl
     ·exact I.ne r h
     ·simp
    ·rcases mem hr with h|rfl
     ·have:=I.el r h x hx;exact⟨by(first|lia|omega),this.2⟩
     ·refine rR (dO.mp hx) ?_;exact⟨l9,by refine rR hl ?_;simp⟩
    ·rcases mem hr with h'|rfl
     ·exact I.mo r h' h hh x hx
     ·refine rR (dO.mp hx) ?_;simp at hh;exact A8 hh
    ·rcases dm q t with h|h
     ·exact hd0 q h hn _ λr hr x hx=>aA r (dR.mpr<|.inl hr) hx
     ·obtain rfl:q=t:=jP hq h;exact .inl<|aA [q] (by simp) rfl
    ·rcases mem hr with h|rfl
     ·rcases dm p t with h'|h'
      ·exact I.tl r h i hi p pg h' hn hj
      ·obtain rfl:p=t:=jP vn h'
       induction la using e9 with
       |none=>rw[L.1]at h;cases h
       |some l0=>
        refine t6 L λdn cur p0 aN a2 a3 a4 a5 a6=>?_;clear hd0 mem hr L e2;subst aN;have hi':=I.el r h i<|q6<|by refine rR hi ?_;rfl
        have h1:¬i<p0:=λq=>by have:=hj p0 q a4;rw[a3]at this;exact sN this
        have h2:¬p0<i:=λq=>hi'.2<|a5 i q hi'.1
        obtain rfl:i=p0:=Ru h1 h2;refine rR hl<|rR a3 ?_
        exact hc
     ·simp at hi;(first|lia|omega)
    ·have:=I.sz.1;simp only[List.map_append,List.sum_append,List.map_cons,List.map_nil,List.sum_cons,List.sum_nil,List.length_cons,List.length_nil]at this⊢;exact Rv this
    ·have:=I.sz.2;simp only[List.length_append,List.length_cons,List.length_nil]at this⊢;exact Rw this
theorem zi{aH:Nat->bK}{i:Nat}:∀d,aH (i+1+d)≠none->∃p,i<p/\p<=i+1+d/\aH p≠none/\∀j,i<j->j<p->aH j=none
 |0,h=>iq (i+1) l9 Rx h λj h1 h2=>by(first|lia|omega)
 |d+1,h=>by
  by_cases hx:∃e,e<=d/\aH (i+1+e)≠none
  ·refine aC hx λe he hn=>?_;have:∀e,e<=d->aH (i+1+e)≠none->∃p,i<p/\p<=i+1+d/\aH p≠none/\∀j,i<j->j<p->aH j=none:=by
    intro e
    induction e using Nat.strongRecOn with
    |ind e ih=>
     intro he hn;by_cases hy:∃f,f<e/\aH (i+1+f)≠none
     ·refine aC hy λf hf hn'=>?_;exact ih f hf (Ry he hf) hn'
     ·refine iq (i+1+e) Rz (RA he) hn λj h1 h2=>?_;by_cases hz:aH j=none
      ·exact hz
      ·exact absurd ⟨j-i-1,RB h1 h2,by refine rR (show i+1+(j-i-1)=j from wQ h1) ?_;exact hz⟩ hy
   refine c_ (this e he hn) λp a b c=>?_;exact cM p a (RC b) c
  ·refine iq (i+1+(d+1)) RD RE h λj h1 h2=>?_;by_cases hz:aH j=none
   ·exact hz
   ·exact absurd ⟨j-i-1,RG h2,by refine rR (show i+1+(j-i-1)=j from wQ h1) ?_;exact hz⟩ hx
theorem LR.jump{ks:aY}{aH:Nat->bK}{n:Nat}{rs:List aG}(I:LR aH n rs){i q:Nat}(P:Pr ks aH n i q){r:aG}(hr:r∈rs)(hi:r.getLast?=some i):∃r'∈rs,r'.head?=some q:=by
 refine c_ P.lv λL l1 l2 l3=>?_;refine zP (zi (aH:=aH) (i:=i) (q-i-1)<|by refine rR (show i+1+(q-i-1)=q by have:=P.lt;exact wQ this)<|rR l2 ?_;simp) λp p1 p2 p3 p4=>?_;have hlt:=P.lt;rw[show i+1+(q-i-1)=q from wQ hlt]at p2;rcases dm p q with h|h
 ·rcases I.hd q P.et (by refine rR l2 ?_;simp)with h'|⟨p',h1,h2,h3⟩
  ·exact h'
  ·exfalso;rcases dm i p' with g|g
   ·have:=l3 p' g h1 L (by exact rR h2<|rR l2 rfl)
    (first|lia|omega)
   ·exact p3<|h3 p (RH p1 g) h
 ·obtain rfl:p=q:=F6 p2 h;exact absurd (by exact rR l1<|rR l2 rfl)<|I.tl r hr i hi p p1 P.et p3 p4
def gf(r:aG):PV:=.l<|r.map aE
def cV(r:aG):Option AO:=some<|.l<|r.map aE
noncomputable def iD(o k:Nat):au:=(List.range k).map λi=>.e<|i+o
theorem D6(o k:Nat):iD o (k+1)=iD o k++[.e<|k+o]:=by unfold iD;refine rR List.range_succ<|rR kB ?_;rfl
theorem D7(o k:Nat):(iD o k).length=k:=by simp[iD]
theorem Nu{f:PV->bR}:∀{l l':au},l.length=l'.length->(∀(i:Nat)(x y:PV),l[i]?=some x->l'[i]?=some y->f x=some y)->l.mapM f=some l'
 |[],[],_,_=>rfl
 |[],_::_,h,_=>by simp at h
 |_::_,[],h,_=>by simp at h
 |a::l,b::l',h,hf=>by refine rR List.mapM_cons (rR (hf 0 a b rfl rfl)<|rR (Nu (l':=l') (by simpa using h) λi x y h1 h2=>hf (i+1) x y (by simpa using h1)<|by simpa using h2) ?_);rfl
theorem Nv{n m o:Nat}{H:ak}{rs:List aG}(hm:H[m]?=some (some<|.l<|iD o rs.length))(h:∀i r,rs[i]?=some r->H[i+o]?=some (cV r)):b8 (n+2) H (.e m)=some (.l<|rs.map gf):=by
 refine MO hm (Nu (by simp[iD]) λi x y h1 h2=>?_);have hi:=cH h1;rw[D7]at hi;refine X1 (h_ hi) λr hr=>?_;rw[cQ,hr]at h2;obtain rfl:=aK h2;have:x=.e (i+o):=by unfold iD at h1;rw[cQ,lU hi]at h1;exact(aK h1).symm
 clear h1;subst this;exact gu (h i r hr) (ints_of r).b8
set_option tactic.hygienic true in
theorem zn{H:ak}(a b:bK):cE H .n (aD a) (aD b)=some (!decide (a=b)):=by
 induction a using e9<;>induction b using e9<;>try rfl
 rename_i x y;show some (!decide (x=y))=_;simp
theorem qG{H:ak}(a:bK):cE H .t (aD a) .n=some a.isSome:=by induction a using e9<;>rfl
theorem Ny{H:ak}(a:bK):cE H .s (aD a) .n=some a.isNone:=by induction a using e9<;>rfl
def gg(aH:Nat->bK)(n:Nat):au:=(List.range n).map λt=>aD<|aH t
theorem za{aH:Nat->bK}{n i:Nat}(h:i<n):(gg aH n)[i]?=some (aD<|aH i):=by unfold gg;rw[cQ,lU h];rfl
theorem zb(aH:Nat->bK)(n:Nat):(gg aH n).length=n:=by simp[gg]
theorem vp(aH:Nat->bK)(n m:Nat):fz (m+1) (.l<|gg aH n)=true:=nS λx hx=>by(refine aC (bV.mp hx) λt U aQ=>?_;clear hx;subst aQ);exact yZ _
abbrev hp(rs:List aG):ak:=some (.l<|iD 1 rs.length)::rs.map cV
theorem zr(dn:List aG)(cur:aG):(iD 1 (dn++[cur]).length).getLast?=some (.e<|dn.length+1):=by
 refine rR gF<|rR List.length_singleton ?_
 rewrite[D6];simp
theorem Nz(dn:List aG)(cur:aG):(hp<|dn++[cur])[dn.length+1]?=some (cV cur):=by simp[hp]
theorem zs(dn:List aG)(cur cur':aG):(hp<|dn++[cur]).set (dn.length+1) (cV cur')=hp (dn++[cur']):=by simp[hp]
theorem zt(m:Nat)(aH:Nat->bK){n:Nat}(hn:n<=100)(H:ak):gam (m+1) "" "level_runs" [.l<|gg aH n] H=some (.l<|(lrs aH n).1.map gf,H):=by
 refine dX (n:=m) (ir:=HF) (vs:=[.l<|gg aH n]) (by kernel_rfl) rfl rfl rfl (by simp[vp]) ?_;show Ok (aF (gam m) AQ [some<|.l<|gg aH n,none,none,none,none] []) _;unfold AQ;refine aZ (v:=.e 0) (H1:=hp []) rfl ?_;refine aZ (v:=.n) (H1:=hp []) rfl ?_;refine gr (H':=hp []) (items:=dU<|gg aH n) (λi ae H=>∃o3 o4,ae=[some<|.l<|gg aH n,some<|.e 0,some<|aD (lrs aH i).2,o3,o4]/\H=hp (lrs aH i).1)
  rfl ji (gR none none rfl rfl) (λi x ae H hx hI=>?_) (λae H hI=>?_)
 ·(refine gG hI λo3 o4 aR aT=>?_;clear hI;subst aR;subst aT)
  refine aC (j6 hx) λv hv aL=>?_;clear hx;subst aL;have hi:=cH hv;rw[zb]at hi;rw[za hi]at hv;obtain rfl:=aK hv;refine aA _ rfl ?_;refine U1 (D5 aH i) λI L=>?_;have e1:lrs aH (i+1)=lP (aH i) i (lrs aH i):=rfl;refine rR e1 ?_;generalize lrs aH i=s at I L;obtain⟨rs,la⟩:=s;dsimp only at I L;refine bU (c:=(aH i).isSome) (H':=hp rs) (bu (p:=aD<|aH i) (q:=.n) rfl rfl<|qG _) (λhc=>?_) λhc=>?_
  ·refine X1 (nh.mp hc) λl hl=>?_;refine rR hl ?_;have hsz:=I.sz;have fin:∀dn cur,cur.length<=900->Ok (aF (gam m) [.x<|.q (.d (.v 1)<|.n<|.c<|.i 1)<|.v 3,.a 2<|.v 4] [some<|.l<|gg aH n,some<|.e 0,some<|aD la,some<|.i i,some<|aD<|some l]<|hp<|dn++[cur])
     (λr=>r.1=.n/\r.2.1=[some<|.l<|gg aH n,some<|.e 0,some<|aD<|some l,some<|.i i,some<|aD<|some l]/\r.2.2=hp (dn++[cur++[i]])):=λdn cur hcl=>by
    refine eW (m:=dn.length+1) (l1:=cur.map aE) (l2:=cur.map aE) (v:=.i i) (H1:=hp<|dn++[cur]) (H2:=hp<|dn++[cur])
     (e_idx (p:=.e 0) (q:=.i<|-1) rfl rfl<|u0 rfl<|zr dn cur) (Nz dn cur) rfl (Nz dn cur) (by simp;exact rm hcl) ?_
    have:some (AO.l<|cur.map aE++[.i i])=cV (cur++[i]):=by simp[cV,aE]
    refine rR this ?_;rewrite[zs];exact aZ (v:=aD<|some l) (H1:=hp<|dn++[cur++[i]]) rfl<|cu ⟨rfl,rfl,rfl⟩
   refine bU (c:=!decide (some l=la)) (H':=hp rs) (bu (p:=aD<|some l) (q:=aD la) rfl rfl<|zn _ _) (λhc2=>?_) λhc2=>?_
   ·have hne:¬some l=la:=by simpa using hc2
    have e2:lP (some l) i (rs,la)=(rs++[[i]],some l):=by simp only[lP];exact rR (bO hne) rfl
    refine rR e2 ?_
    refine eW (m:=0) (l1:=iD 1 rs.length) (l2:=iD 1 rs.length) (v:=.e<|rs.length+1) (H1:=hp rs) (H2:=hp rs++[some<|AO.l []]) rfl rfl (by
     refine rR yI<|rR yK ?_
     simp[jR,hp]) rfl (by rw[D7];exact RI hn hi hsz) ?_
    have:(hp rs++[some<|AO.l []]).set 0 (some<|AO.l<|iD 1 rs.length++[PV.e<|rs.length+1])=hp (rs++[[]]):=by simp[hp,D6,cV]
    refine rR this ?_;refine(fin rs []<|by simp).mono λr h=>?_;obtain⟨f,ae,H⟩:=r;refine U2 h λaM aP aN=>?_;subst aM;clear h;subst aP;subst aN;exact gR _ _ rfl rfl
   ·have heq:some l=la:=by simpa using hc2
    clear hc2;subst heq;refine t6 L λdn cur p0 aQ a2 a3 a4 a5 a6=>?_;clear I L;subst aQ;have e2:lP (some l) i (dn++[cur],some l)=(dn++[cur++[i]],some l):=by simp only[lP];refine rR (bw True.intro) ?_;simp
    refine rR e2 ?_;simp only[List.map_append,List.sum_append,List.map_cons,List.map_nil,List.sum_cons,List.sum_nil]at hsz;refine(fin dn cur<|RJ hn hi hsz).mono λr h=>?_;obtain⟨f,ae,H⟩:=r;refine U2 h λaR aT aL=>?_;subst aR;clear h;subst aT;subst aL;exact gR _ _ rfl rfl
  ·have hl:aH i=none:=by simpa using hc
   refine rR hl ?_;exact cu<|gR _ _ rfl rfl
 ·(refine gG hI λo3 o4 aM aP=>?_;clear hI;subst aM;subst aP)
  refine rR mP ?_;rewrite[zb];refine bX (v:=.e 0) rfl (Nv (o:=1) rfl λi r hr=>?_);show((lrs aH n).1.map cV)[i]?=_;rw[cQ,hr];rfl
theorem z'(m:Nat)(aH:Nat->bK){n:Nat}{a st base:Int}(hn:n<=100)(ha:0<=a/\a<=n)(hs:st=1\/st=-1)(H:ak):∃v:Int,gam (m+1) "" "bidi_level_beside" [.l<|gg aH n,.i a,.i st,.i base] H=some (.i v,H):=by
 have main:∃v,gam (m+1) "" "bidi_level_beside" [.l<|gg aH n,.i a,.i st,.i base] H=some (v,H)/\∃i:Int,v=.i i:=by
  refine lJ (n:=m) (ir:=HJ) (vs:=[.l<|gg aH n,.i a,.i st,.i base]) (by kernel_rfl) rfl rfl rfl (by simp[vp,dj]) ?_;show Ok (aF (gam m) AS [some<|.l<|gg aH n,some<|.i a,some<|.i st,some<|.i base] []) _;unfold AS;refine aZ (v:=.i<|a+st) (H1:=[]) rfl ?_;refine yH (m:=if st=1 then(n-(a+st)).toNat else(a+st+1).toNat) (λk ae H=>∃at':Int,k=(if st=1 then(n-at').toNat else(at'+1).toNat)/\ae=[some<|.l<|gg aH n,some<|.i at',some<|.i st,some<|.i base]/\H=[]) (cM _ rfl rfl rfl) (by split<;>(first|lia|omega)) λk ae H hI=>?_;refine c_ hI λat' hk aN aQ=>?_;subst aN;subst aQ;refine fg (decide (0<=at')&&decide (at'<n)) [] ?_ (λhc=>?_) λU=>bX (v:=.i base) rfl<|zQ _ rfl _ rfl
  ·(try simp only[wl,bx,reduceIte];try rfl)
   rw[zb];by_cases h:(0:Int)<=at'<;>simp[h]
  ·simp only[Bool.and_eq_true,decide_eq_true_eq]at hc;have hi:at'.toNat<n:=VP hc;have hx:az (gam m) (.d (.v 0)<|.v 1) [some<|.l<|gg aH n,some<|.i at',some<|.i st,some<|.i base] []=some (aD<|aH at'.toNat,[]):=
    e_idx (p:=.l<|gg aH n) (q:=.i at') rfl rfl (MK hc.1<|za hi)
   refine aA (k-1) (by split at hk<;>(first|lia|omega)) ?_;refine bU (c:=(aH at'.toNat).isSome) (H':=[]) (bu hx cL<|qG _) (λhs=>?_) λU=>?_
   ·refine X1 (nh.mp hs) λl hl=>?_;rw[hl]at hx;exact bX (v:=.i l) hx<|zQ _ rfl _ rfl
   ·refine aZ (v:=.i<|at'+st) (H1:=[]) rfl<|cu ?_
    exact lX _ (by split at hk<;>split<;>(first|lia|omega)) _ rfl rfl rfl
 refine Ph main λv e i aR=>?_;subst aR;exact⟨i,e⟩
theorem NB{H:ak}{x:Int}{f:Int->bK}:cE H .i (.i x) (.d f)=some (f x).isSome:=rfl
theorem NC{H:ak}{x:Int}{f:Int->bK}:cE H .o (.i x) (.d f)=some (!(f x).isSome):=rfl
theorem ND{H:ak}{x y:Int}{f:Int->bK}(h:f x=some y):gH H (.d f) (.i x)=some (.i y):=by show(f x).map PV.i=_;refine rR h ?_;rfl
theorem Ap{H:ak}{m n:Nat}{x y:Int}{f:Int->bK}(hm:H[m]?=some (some<|.i n f))(h:f x=some y):gH H (.e m) (.i x)=some (.i y):=by
 show(match e_ H (.e m)with
  |some l=>(gx x l.length).bind λj=>l[j]?
  |none=>(rt H<|.e m).bind λf=>(f x).map .i)=_
 simp only[e_,rt,hm,Option.bind_some,h,Option.map_some]
noncomputable def dM(ks:aY)(i:Nat):String:=ks.getD i ""
theorem sS{ks:aY}{i:Nat}(h:i<ks.length):(ks.map bQ)[i]?=some (.s<|dM ks i):=by rw[cQ,eE h,dM,fV,eE h];rfl
structure pD (aH:Nat->bK)(n:Nat)(r:aG):Prop where
 ne:r≠[]
 sz:r.length<=900
 el:∀x∈r,x<n/\aH x≠none
theorem LR.szr{aH:Nat->bK}{n:Nat}{rs:List aG}(I:LR aH n rs){r:aG}(h:r∈rs):r.length<=n:=by
 have:∀{l:aG}{x:Nat},x∈l->x<=l.sum:=λ{l}=>by
  induction l with
  |nil=>intro x h;cases h
  |cons a t ih=>
   intro x h;refine rR List.sum_cons ?_;rcases eO.mp h with rfl|h
   ·exact wR
   ·have:=ih h;exact RK this
 have:=this (bV.mpr (aA r h rfl):r.length∈rs.map List.length);have:=I.sz.1
 (first|lia|omega)
abbrev jh(m:Nat)(f:Int->bK)(js:List aG):ak:=some (.i m f)::some (.l<|iD 2 js.length)::js.map cV
theorem D8{m:Nat}{f:Int->bK}{js:List aG}{r:aG}:(jh m f js++[cV r])[js.length+2]?=some (cV r):=by simp[jh]
theorem At{m:Nat}{f:Int->bK}{js:List aG}{r r':aG}:(jh m f js++[cV r]).set (js.length+2) (cV r')=jh m f js++[cV r']:=by simp[jh]
theorem NF{r:aG}{i:Nat}(h:r.getLast?=some i):(r.map aE).getLast?=some (.i i):=by rw[List.getLast?_map,h];rfl
theorem D9(a b:aG):some (AO.l<|a.map aE++b.map aE)=cV (a++b):=by simp[cV]
structure zc (rs:List aG)(i:Nat)(f:Int->bK):Prop where
 a:∀(x:Nat)(y:Int),f x=some y->∃(k:Nat)(r:aG),y=k/\rs[k]?=some r/\r.head?=some x
 b:∀(k:Nat)(r:aG)(x:Nat),k<i->rs[k]?=some r->r.head?=some x->(f x).isSome=true
set_option tactic.hygienic true in
theorem zc.step{rs:List aG}{i h0:Nat}{t0:aG}{f:Int->bK}(h:zc rs i f)(hr:rs[i]?=some (h0::t0)):zc rs (i+1) (λx=>if x=h0 then some (i:Int)else f x):=by
 refine⟨λx y h'=>?_,λk r x hk hr' hx'=>?_⟩
 ·split at h'
  ·rename_i hx';obtain rfl:=aK h';obtain rfl:x=h0:=wN hx';exact fg i _ rfl hr rfl
  ·exact h.a x y h'
 ·split
  ·rfl
  ·rename_i LZ;rcases dm k i with hk'|hk'
   ·exact h.b k r x hk' hr' hx'
   ·obtain rfl:k=i:=jP hk hk';rw[hr]at hr';obtain rfl:=aK hr';simp at hx'
    (first|lia|omega)
structure NG (ks:aY)(aH:Nat->bK)(rs:List aG)(pl:aG)(i0 k:Nat):Prop where
 P:pD aH ks.length pl
 hl:pl.getLast?=some i0
 ex:∃r∈rs,r.getLast?=some i0
 sz:pl.length<=20*(i0+1)
 hk:k=ks.length-i0
theorem AC(n:Nat){ks:aY}{K V:PV}{pf:Int->bK}{aH:Nat->bK}{rs:List aG}(hb:ks.length<=20)(hK:PV.l (ks.map bQ)=K)(I:LR aH ks.length rs)(er:∀H,gam (n+1) "" "level_runs" [V] H=some (.l<|rs.map gf,H))
  (D_:∀{i:Nat} {y:Int},gb (ks.getD i "")=true->pf i=some y->∃q:Nat,y=q/\Pr ks aH ks.length i q){T:Res->Prop}(fin:∀(js:List aG) (u:PV) (ae:bf) (H:ak),b8 6 H u=some (.l<|js.map gf)->js.length<=ks.length->(∀r∈js,pD aH ks.length r)->T (.r u,ae,H)):
  Ok (aF (gam<|n+1) AU [some K,some V,some<|.d pf,none,none,none,none,none,none] []) T:=by
 have hsz:=I.sz.2
 let E:PV->bR->bR->bR->bR->bf:=λc a b x y=>[some K,some V,some<|.d pf,some<|.l<|rs.map gf,some c,a,b,x,y]
 unfold AU;refine aZ (v:=.l<|rs.map gf) (H1:=[]) (bP (vs:=[V]) (H1:=[]) rfl<|er []) ?_;refine aZ (v:=.e 0) (H1:=[some (.i 0 λU=>none)]) rfl ?_;refine sH (λ(U:Int->bK) a b=>E (.e 0) a b none none) (λi f U U=>[some<|.i i f]) (λi f U U=>zc rs i f) (λU=>none) none none rfl rfl ji ⟨nofun,λk r x h=>absurd h<|q_ _⟩ (λi x f a b hx h T k=>?_) λf a b h=>?_
 ·(refine aC (j6 hx) λv hv aL=>?_;subst aL)
  have hi:=cH hv;rw[bI]at hi;refine X1 (h_ hi) λr hr=>?_;rw[cQ,hr]at hv;obtain rfl:=aK hv
  induction r using b9 with
  |nil=>exact absurd rfl<|I.ne _ (dY hr)
  |cons h0 t0=>
  exact aA _ rfl (DT (m:=0) (k:=(h0:Int)) (j:=(i:Int)) (n:=i) (f:=f) (H1:=[some<|.i i f]) (H2:=[some<|.i i f]) (H3:=[some<|.i i f]) rfl rfl (e_idx (p:=gf<|h0::t0) (q:=.i 0) rfl rfl u9) rfl (F7 hb hsz hi)<|cu<|k _ _ _ (h.step hr))
 ·rw[mP,bI]at h⊢;refine aZ (v:=.e 1) (H1:=jh rs.length f []) rfl ?_;refine sH (λ(js:List aG) b y=>E (.e 0) a b (some<|.e 1) y) (λi js U U=>jh rs.length f js) (λi js U U=>(∀r∈js,pD aH ks.length r)/\js.length<=i) [] b none rfl rfl fF ⟨nofun,bY _⟩ (λi x js b y hx hj T kk=>?_) λjs b y hj=>?_
  ·(revert hj;refine V1 λhj kg=>?_)
   have hi:=cH hx;rw[bI]at hi;refine X1 (h_ hi) λr hr=>?_;rw[cQ,hr]at hx;obtain rfl:=aK hx;have hmem:=dY hr;have mR:=I.szr hmem
   induction r using b9 with
   |nil=>exact absurd rfl<|I.ne _ hmem
   |cons h0 t0=>
   have vq:=(I.el _ hmem h0 cR).1;have hidx:az (gam<|n+1) (.d (.v 6)<|.c<|.i 0) (E (.e 0) a (some<|gf<|h0::t0) (some<|.e 1) y) (jh rs.length f js)=some (.i h0,jh rs.length f js):=e_idx (p:=gf<|h0::t0) (q:=.i 0) rfl rfl u9;refine aA _ rfl (bU (c:=decide (dM ks h0="PDI")&&(pf h0).isSome) (H':=jh rs.length f js) (f_ (bu (e_idx (p:=K) (q:=.i h0) rfl hidx<|by refine rL hK ?_;exact dB<|sS vq) cL rfl) λU=>bu (q:=.d pf) hidx rfl NB) (λU=>nz<|kk _ _ _ ⟨hj,l8 kg⟩) λU=>?_)
   refine aZ (v:=.e<|js.length+2) (H1:=jh rs.length f js++[cV<|h0::t0]) (by
    refine rR lM<|rR (aJ (p:=gf<|h0::t0) (H1:=jh rs.length f js) rfl bA) ?_
    simp only[Option.bind_some];show some (jR _ _)=_
    simp[jR,jh,cV]) ?_
   have nX:=wg<|tE h0 t0
   revert nX;refine gen ((h0::t0).getLast _) λi0 nX=>?_;refine Mm (λU=>E (.e 0) a (some<|gf<|h0::t0) (some<|.e 1)<|some<|.e<|js.length+2) (λs=>jh rs.length f js++[cV s.1]) (λk s=>NG ks aH rs s.1 s.2 k) (_,i0) rfl rfl ⟨⟨tE _ _,eR mR<|RL hb,I.el _ hmem⟩,nX,aA _ hmem nX,eR mR<|RM hb,rfl⟩ (RN hb) λk s=>?_;obtain⟨pl,i0⟩:=s;refineλ(J:NG ks aH rs pl i0 k) T kw=>?_;have sU:=(J.P.el i0<|q6<|by refine rR J.hl ?_;rfl).1;have hk:=J.hk;have nY:az (gam<|n+1) (.d (.v 8)<|.n<|.c<|.i 1) (E (.e 0) a (some<|gf<|h0::t0) (some<|.e 1)<|some<|.e<|js.length+2) (jh rs.length f js++[cV pl])=some (.i i0,jh rs.length f js++[cV pl]):=
    e_idx (p:=.e<|js.length+2) (q:=.i<|-1) rfl rfl (u0 D8<|NF J.hl)
   refine fg (gb (dM ks i0)&&(pf i0).isSome) (jh rs.length f js++[cV pl]) ?_ (λhc=>?_) λU=>?_
   ·exact f_ (bu (p:=.s<|dM ks i0) (q:=iM) (c:=gb<|dM ks i0) (e_idx (p:=K) (q:=.i i0) rfl nY<|by refine rL hK ?_;exact dB<|sS sU) rfl vg) λU=>bu (q:=.d pf) nY rfl NB
   ·rw[cy]at hc;refine X1 (nh.mp hc.2) λy hy=>?_;refine aC (D_ hc.1 hy) λq aM Pq=>?_;subst aM;refine aC J.ex λr1 ez hl1=>?_;refine aC (I.jump Pq ez hl1) λr2 iS hq2=>?_;refine X1 (kA iS) λk2 hk2=>?_;refine X1 (nh.mp<|h.b k2 r2 q (cH hk2) hk2 hq2) λz hz=>?_;refine d_ (h.a q z hz) λk3 r3 aP yY Bi=>?_;subst aP;have sV:=dY yY;have Ea:=I.szr sV;obtain⟨i3,Eb⟩:∃i3,r3.getLast?=some i3:=⟨_,wg<|I.ne r3 sV⟩
    have NH:=q6 (show i3∈r3.getLast? by refine rR Eb ?_;rfl);have Ec:=(I.el r3 sV i3 NH).1;have hge:q<=i3:=I.mo r3 sV q Bi i3 NH;have hlt:=Pq.lt;have hpl:=J.sz
    refine⟨RO sU hk,sP (m:=js.length+2) (l1:=pl.map aE) (l2:=pl.map aE) (v:=gf r3) (r:=r3.map aE) (H1:=jh rs.length f js++[cV pl]) (H2:=jh rs.length f js++[cV pl]) rfl D8
     (e_idx (p:=.l<|rs.map gf) (q:=.i k3) rfl (e_idx (p:=.e 0) (q:=.i q) rfl (e_idx (p:=.d pf) (q:=.i i0) rfl nY<|ND hy)<|Ap rfl hz)<|dB<|by rw[cQ,yY];rfl) D8 rfl (by
      simp only[List.length_map];exact RP hb Ea Ec hge hlt hpl) ?_⟩
    rewrite[D9];refine rR At ?_;refine cu<|kw (ks.length-i3) (pl++r3,i3) (RQ hk Ec hge hlt) ⟨⟨by simp[J.P.ne],by refine rR gF ?_;exact RS hb Ea Ec hge hlt hpl,λx hx=>?_⟩,by rw[List.getLast?_append,Eb];rfl,aA r3 sV Eb,by refine rR gF ?_;exact RT hb Ea hge hlt hpl,rfl⟩
    rcases dR.mp hx with hx|hx
    ·exact J.P.el x hx
    ·exact I.el r3 sV x hx
   ·refine eW (m:=1) (l1:=iD 2 js.length) (l2:=iD 2 js.length) (v:=.e<|js.length+2) (H1:=jh rs.length f js++[cV pl]) (H2:=jh rs.length f js++[cV pl]) rfl rfl rfl rfl (by rw[D7];exact RU hb hsz kg hi)<|cu ?_
    have:=kk (js++[pl]) (some<|gf<|h0::t0) (some<|.e<|js.length+2) ⟨λr hr=>?_,by refine rR gF ?_;simp;exact ud kg⟩
    ·rwa[show jh rs.length f (js++[pl])=(jh rs.length f js++[cV pl]).set 1 (some<|.l<|iD 2 js.length++[.e<|js.length+2]) by simp[jh,D6]]at this
    ·rcases dR.mp hr with hr|hr
     ·exact hj r hr
     ·refine rR (dO.mp hr) ?_;exact J.P
  ·(revert hj;refine V1 λhj kg=>?_)
   rw[bI]at kg;refine bX (v:=.e 1) rfl<|fin js _ _ _ (Nv (o:=2) (rs:=js) rfl λi r hr=>?_) (RV hsz kg) hj
   show(js.map cV)[i]?=_;rw[cQ,hr];rfl
theorem Bn(n:Nat){ks:aY}{base:Int}(hb:ks.length<=20)(H:ak):
  ∃js:List aG,gam (n+2) "" "bidi_joined_runs" [.l<|ks.map bQ,.l<|eH ks base,.d<|gc (eY ks ks.length).2] H=some (.l<|js.map gf,H)/\js.length<=ks.length/\∀r∈js,pD (eM ks base) ks.length r:=by
 obtain⟨v,e,js,rfl,h⟩:=sI (c:="") (f:="bidi_joined_runs") (args:=[.l<|ks.map bQ,.l<|eH ks base,.d<|gc (eY ks ks.length).2]) (H:=H) (Q:=λv=>∃js:List aG,v=.l (js.map gf)/\js.length<=ks.length/\∀r∈js,pD (eM ks base) ks.length r) (n:=n+1) (ir:=HL) (vs:=[.l<|ks.map bQ,.l<|gg (eM ks base) ks.length,.d<|gc (eY ks ks.length).2]) (by kernel_rfl) rfl rfl rfl (by simp[(jH ks).fz,vp,D0])
  λT K=>AC n hb rfl (D5 (eM ks base) ks.length).1 (λH=>zt n (eM ks base) (n:=ks.length) (uf hb) H) Nq λjs u ae H e h1 h2=>K u _ ae H e (cM js rfl h1 h2)
 exact aA js e h
theorem nZ{Γ:b7}{ae:bf}{H H1:ak}{e:CE}{nm:String}{b:CE}{l:au}{f:PV->PV}(hb:az Γ b ae H=some (.l l,H1))(he:∀x∈l,az Γ e (ae++[some x]) H1=some (f x,H1)):
  az Γ (.D e false [nm] .v [b] []) ae H=some (.l<|l.map f,H1):=by
 refine rR sJ<|rR (aJ hb bA) ?_
 simp only[Option.bind_some];refine rR fF ?_;simp only[Option.bind_some];rw[comp_map (f:=f) λx hx=>?_]
 ·rfl
 ·simp only[iK,Bool.false_eq_true,if_false,Option.bind_some];refine rR nR ?_;simp only[Option.bind_some,fZ,if_true];refine rR (he x hx) ?_;rfl
noncomputable def gh(l:au)(x:PV):PV:=match x with
 |.i i=>l.getD i.toNat .n
 |x=>x
theorem vt{l:au}{pl:aG}(h:∀x∈pl,x<l.length){y:PV}(hy:y∈(pl.map aE).map (gh l)):y∈l:=by refine aC (bV.mp hy) λz hz aN=>?_;clear hy;subst aN;refine aC (bV.mp hz) λi hi aQ=>?_;clear hz;subst aQ;show l.getD i .n∈l;rw[fV,eE<|h i hi];exact tK _
theorem zd{H:ak}{l:au}{i:Nat}(h:i<l.length):gH H (.l l) (.i i)=some (gh l<|.i i):=by refine dB ?_;show _=some (l.getD i .n);rw[fV,eE h];rfl
theorem Bz{pl cl co:au}{lv:Int}{bh b6:String}(h1:dJ pl)(h2:bT cl)(h3:dJ co)(n:Nat)(H:ak):b8 n H (fG pl cl lv bh b6 co)=some (fG pl cl lv bh b6 co):=by
 have:=sQ (lv:=lv) (bh:=bh) (b6:=b6) h1 h2 h3 2
 induction n using gD<;>exact bw this
structure Ed (aH:Nat->bK)(n:Nat)(s:PV)(pl:aG)(cl:au)(lv:Int)(bh b6:String)(co:au):Prop where
 eq:s=fG (pl.map aE) cl lv bh b6 co
 NI:pD aH n pl
 Ef:bT cl
 cn:cl.length=pl.length
 Eg:dJ co
 con:co.length=pl.length
 BM:∃x,x<n/\aH x=some lv
noncomputable def vy(aH:Nat->bK)(n:Nat)(s:PV):Prop:=∃pl cl lv bh b6 co,Ed aH n s pl cl lv bh b6 co
theorem qH{ae:bf}{i j:Nat}{x:bR}{v:PV}(h:i≠j)(e:ae[j]?=some (some v)):(ae.set i x)[j]?=some (some v):=by rw[jr h];exact e
theorem NJ{Γ:b7}{ae:bf}{H:ak}{l:au}{r:aG}{a:Nat}(hr:∀x∈r,x<l.length)(hl:ae.length=14)(va:ae[a]?=some (some<|.l l))(v7:ae[7]?=some (some<|gf r)):az Γ (.D (.d (.v a)<|.v 14) false ["at"] .v [.v 7] []) ae H=some (.l<|(r.map aE).map<|gh l,H):=
 nZ (l:=r.map aE) (bq v7) λx hx=>by refine aC (bV.mp hx) λj hj aR=>?_;clear hx;subst aR;exact e_idx (p:=.l l) (q:=.i j) (lO va) (kO (i:=0) hl rfl)<|zd<|hr j hj
theorem B1{n N:Nat}{aH:Nat->bK}{r:aG}{cl co ss:au}{L:Int}{bh b6:String}{ae:bf}{T:bf->ak->Prop}(P:pD aH N r)(hcl:bT cl)(hcn:cl.length=N)(hco:dJ co)(vz:co.length=N)(hL:∃x,x<N/\aH x=some L)(hsl:ss.length<=900)
  (hl:ae.length=14)(v2:ae[2]?=some (some<|.l cl))(v4:ae[4]?=some (some<|.l co))(v6:ae[6]?=some (some<|.e 0))(v7:ae[7]?=some (some<|gf r))(v10:ae[10]?=some (some<|.i L))(v11:ae[11]?=some (some<|.s bh))(B2:ae[12]?=some (some<|.s b6))
  (K:∀s o,vy aH N s->T (ae.set 13 o) [some<|.l<|ss++[s]]):
  Ok (aF (gam<|n+2) [.a 13<|.i (.m .t (.v 4)<|.c .n) (.D (.d (.v 4)<|.v 14) false ["at"] .v [.v 7] [])<|.l [],
   .x (.q (.v 6)<|.h "BidiSequence" [.v 7,.D (.d (.v 2)<|.v 14) false ["at"] .v [.v 7] [],.v 10,.v 11,.v 12,.v 13])] ae [some<|.l ss]) (Nx T):=by
 have ez:∀x∈r,x<co.length:=λx hx=>vz▸(P.el x hx).1;have iS:∀x∈r,x<cl.length:=λx hx=>hcn▸(P.el x hx).1;have h1:bT ((r.map aE).map<|gh cl):=λx hx=>hcl x<|vt iS hx
 have h2:dJ ((r.map aE).map<|gh co):=λx hx=>hco x<|vt ez hx
 refine aZ (v:=.l<|(r.map aE).map<|gh co) (H1:=[some<|.l ss]) (iB (c:=true) (bu (p:=.l co) (q:=.n) (bq v4) cL rfl) (λU=>NJ ez hl v4 v7) nofun) ?_;refine eW (m:=0) (l1:=ss) (l2:=ss) (v:=fG (r.map aE) ((r.map aE).map<|gh cl) L bh b6<|(r.map aE).map<|gh co) (H1:=[some<|.l ss]) (H2:=[some<|.l ss]) (bq<|qH (by decide) v6) rfl
  (bP (aJ (bq<|qH (by decide) v7)<|aJ (NJ iS (by refine rR i5 ?_;exact hl) (qH (by decide) v2)<|qH (by decide) v7)<|aJ (bq<|qH (by decide) v10)<|aJ (bq<|qH (by decide) v11)<|aJ (bq<|qH (by decide) B2)<|aJ (bq<|by rw[jL<|by refine rR hl ?_;decide]) bA)<|M6 (n+1) (ints_of r) h1 h2 _) rfl (eR hsl<|by decide) (cu<|K _ _ ?_)
 exact I6 r _ L _ _ _ ⟨rfl,P,h1,by rw[bI,bI],h2,by rw[bI,bI],hL⟩
theorem Ch(n:Nat){ks:aY}{base:Int}{cl co:au}{js:List aG}{aH:Nat->bK}{pf:Int->bK}{K V:PV}{T:Res->Prop}(hb:ks.length<=20)(hcl:bT cl)(hcn:cl.length=ks.length)(hco:dJ co)(vz:co.length=ks.length)
  (hK:PV.l (ks.map bQ)=K)(hV:PV.l (gg aH ks.length)=V)(ej:gam (n+2) "" "bidi_joined_runs" [K,V,.d pf] [some<|.l []]=some (.l<|js.map gf,[some<|.l []]))(NK:js.length<=ks.length)(hj:∀r∈js,pD aH ks.length r)(ep:∀H,gam (n+2) "" "isolate_pairs" [K] H=some (.d pf,H))
  (lb:∀{st a:Int},0<=a/\a<=ks.length->st=1\/st=-1->∀H,∃b:Int,gam (n+2) "" "bidi_level_beside" [V,.i a,.i st,.i base] H=some (.i b,H))(fin:∀ss ae,(∀s∈ss,vy aH ks.length s)->T (.r<|.e 0,ae,[some<|.l ss])):
  Ok (aF (gam<|n+2) AV [some K,some V,some<|.l cl,some<|.i base,some<|.l co,none,none,none,none,none,none,none,none,none] []) T:=by
 unfold AV;refine aZ (v:=.d pf) (H1:=[]) (bP (vs:=[K]) (H1:=[]) rfl<|ep _) ?_;refine aZ (v:=.e 0) (H1:=[some<|.l []]) rfl ?_
 let E:bR->bR->bR->bR->bR->bR->bR->bf:=λa b c d e f g=>[some K,some V,some<|.l cl,some<|.i base,some<|.l co,some<|.d pf,some<|.e 0,a,b,c,d,e,f,g]
 refine lK (λ(U:au) (z:bR×bR×bR×bR×bR×bR×bR)=>E z.1 z.2.1 z.2.2.1 z.2.2.2.1 z.2.2.2.2.1 z.2.2.2.2.2.1 z.2.2.2.2.2.2) (λU ss U=>[some<|.l ss]) (λi ss U=>(∀s∈ss,vy aH ks.length s)/\ss.length<=i) [] (none,none,none,none,none,none,none)
  (aJ (bP (vs:=[K,V,.d pf]) (H1:=[some<|.l []]) rfl ej) bA) rfl fF ⟨nofun,bY _⟩ (λi x ss z hx hI T k=>?_) (λss z hI=>bX (v:=.e 0) rfl<|fin ss _ hI.1)
 refine U1 hI λhs hsl=>?_;have hi:=cH hx;rw[bI]at hi;refine X1 (h_ hi) λr hr=>?_;rw[cQ,hr]at hx;obtain rfl:=aK hx;have P:=hj r<|dY hr
 induction r using b9 with
 |nil=>exact absurd rfl P.ne
 |cons h0 t0=>
 have nX:=wg P.ne;have sU:=P.el _ (q6 (show(h0::t0).getLast P.ne∈(h0::t0).getLast? by refine rR nX ?_;rfl));have vq:=P.el h0 cR;refine X1 (Option.ne_none_iff_exists'.mp vq.2) λL hL=>?_;revert nX sU;refine gen ((h0::t0).getLast P.ne) λi0 nX sU=>?_;refine aA _ rfl (aZ (v:=.i h0) (H1:=[some<|.l ss]) (e_idx (p:=gf<|h0::t0) (q:=.i 0) rfl rfl u9) ?_);refine aZ (v:=.i i0) (H1:=[some<|.l ss]) (e_idx (p:=gf<|h0::t0) (q:=.i<|-1) rfl rfl<|DP<|NF nX) ?_;refine aZ (v:=.i L) (H1:=[some<|.l ss]) (e_idx (p:=V) (q:=.i h0) rfl rfl<|by refine rL hV ?_;exact dB<|by refine rR (za vq.1)<|rR hL ?_;rfl) ?_;refine X1 (lb (a:=h0) (st:=-1) (by(first|lia|omega)) (.inr rfl) [some<|.l ss]) λb1 Cl=>?_;refine aZ (v:=.s<|qB<|max L b1) (H1:=[some<|.l ss]) (bP (vs:=[.i L,.i b1]) (aJ rfl<|aJ (bP (vs:=[V,.i h0,.i<|-1,.i base]) rfl Cl) bA)<|DU (n+1) L b1 _) ?_;have rest:∀b6,Ok (aF (gam<|n+2) _ (E (some<|gf<|h0::t0) (some<|.i h0) (some<|.i i0) (some<|.i L) (some<|.s<|qB<|max L b1) (some<|.s b6) z.2.2.2.2.2.2) _) _:=λb6=>
  B1 P hcl hcn hco vz (aA h0 vq.1 hL) (by(first|lia|omega)) rfl rfl rfl rfl rfl rfl rfl rfl λs o hq=>k (ss++[s]) (_,_,_,_,_,_,o) ⟨λx hx=>(dR.mp hx).elim (hs x) λh=>dO.mp h▸hq,by refine rR gF ?_;exact tR hsl⟩
 refine bU (c:=gb (dM ks i0)&&!(pf i0).isSome) (H':=[some<|.l ss]) (f_ (bu (p:=.s<|dM ks i0) (q:=iM) (c:=gb<|dM ks i0) (e_idx (p:=K) (q:=.i i0) rfl rfl<|by refine rL hK ?_;exact dB<|sS sU.1) rfl vg) λU=>bu (p:=.i i0) (q:=.d pf) rfl rfl NC) (λU=>?_) λU=>?_
 ·exact aZ (v:=.s<|qB<|max L base) (H1:=[some<|.l ss]) (bP (vs:=[.i L,.i base]) (H1:=[some<|.l ss]) rfl<|DU (n+1) L base _)<|rest _
 ·refine X1 (lb (a:=i0) (st:=1) (by(first|lia|omega)) (.inl rfl) [some<|.l ss]) λb2 Da=>?_;exact aZ (v:=.s<|qB<|max L b2) (H1:=[some<|.l ss]) (bP (vs:=[.i L,.i b2]) (aJ rfl<|aJ (bP (vs:=[V,.i i0,.i 1,.i base]) rfl Da) bA)<|DU (n+1) L b2 _)<|rest _
theorem Db(n:Nat){ks:aY}{base:Int}{cl co:au}(hK:∀k∈ks,nV k)(hb:ks.length<=20)(hcl:bT cl)(hcn:cl.length=ks.length)(hco:dJ co)(vz:co.length=ks.length)(H:ak):
  ∃ss,gam (n+3) "" "isolating_sequences" [.l<|ks.map bQ,.l<|eH ks base,.l cl,.i base,.l co] H=some (.l ss,H)/\∀s∈ss,∃pl cl lv bh b6 co,Ed (eM ks base) ks.length s pl cl lv bh b6 co:=by
 refine c_ (Bn n (base:=base) hb [some<|.l []]) λjs ej NK hj=>?_;obtain⟨v,e,ss,rfl,h⟩:=sI (c:="") (f:="isolating_sequences") (H:=H) (args:=[.l<|ks.map bQ,.l<|eH ks base,.l cl,.i base,.l co]) (Q:=λv=>∃ss,v=.l ss/\∀s∈ss,vy (eM ks base) ks.length s) (n:=n+2) (ir:=HM) (vs:=[.l<|ks.map bQ,.l<|gg (eM ks base) ks.length,.l cl,.i base,.l co]) (by kernel_rfl) rfl rfl rfl (by simp[(jH ks).fz,vp,hcl.fz,hco.fz,dj])
  λT K=>by refine Ch n hb hcl hcn hco vz rfl rfl ej NK hj (λH=>DY (n+1) (λh=>(hK _ h).1 rfl) (Ac hb) H) (λ{st a} h1 h2 H=>z' (n+1) (eM ks base) (n:=ks.length) (a:=a) (st:=st) (base:=base) (uf hb) h1 h2 H) λss ae hs=>K _ (.l ss) _ _ (gu (l:=ss) rfl λs h=>?_) (aA ss rfl hs);refine X6 (hs s h) λpl ze lv bh b6 co' Q=>?_;refine rR Q.eq ?_;exact Bz (ints_of pl) Q.Ef Q.Eg _ _
 exact aA ss e h
noncomputable def br(i:Int):PV:=.i i
noncomputable def iW(bg en:Int)(co:au)(base:Int)(kn lv cl:au):PV:=.o "BidiParagraph" ["begin","end","codes","base","kinds","levels","classes"] [.i bg,.i en,.l co,.i base,.l kn,.l lv,.l cl]
theorem Eh{bg en base:Int}{co kn lv cl:au}(h1:dJ co)(h2:bT kn)(h3:∀n,fz (n+1) (.l lv)=true)(h4:bT cl)(n:Nat):fz (n+2) (iW bg en co base kn lv cl)=true:=by exact gj.mpr<|mc u_<|mc u_<|mc (h1.fz n)<|mc u_<|mc (h2.fz n)<|mc (h3 n)<|mc (h4.fz n) mz
theorem Do(n:Nat){bg base:Int}{co kn lv cl:au}(h1:dJ co)(h2:bT kn)(h3:∀n,fz (n+1) (.l lv)=true)(h4:bT cl)(H:ak):
  gam (n+1) "" "BidiParagraph" [.i bg,.l co,.i base,.l kn,.l lv,.l cl] H=some (iW bg (bg+co.length) co base kn lv cl,H):=by
 refine Mk (ir:=HN) (vs:=[.i bg,.l co,.i base,.l kn,.l lv,.l cl]) (by kernel_rfl) rfl rfl rfl (by simp[h1.fz,h2.fz,h3,h4.fz,dj]) ?_;refine Ok.mk (r:=(.n,[some<|.e 0,some<|.i bg,some<|.l co,some<|.i base,some<|.l kn,some<|.l lv,some<|.l cl],[some<|.n "BidiParagraph" ["begin","end","codes","base","kinds","levels","classes"] [.i bg,.i<|bg+co.length,.l co,.i base,.l kn,.l lv,.l cl]])) (by kernel_rfl)<|aA _ rfl ?_
 show Option.map (PV.o _ _) (List.mapM (b8 5 _) [PV.i bg,.i<|bg+co.length,.l co,.i base,.l kn,.l lv,.l cl])=_;refine rR (yP<|mc yO<|mc yO<|mc (qz<|h1.fz 3)<|mc yO<|mc (qz<|h2.fz 3)<|mc (qz<|h3 3)<|mc (qz<|h4.fz 3) mz) ?_;rfl
theorem Dx{bg en base:Int}{co kn lv cl:au}(h1:dJ co)(h2:bT kn)(h3:∀n,fz (n+1) (.l lv)=true)(h4:bT cl)(n:Nat)(H:ak):b8 n H (iW bg en co base kn lv cl)=some (iW bg en co base kn lv cl):=by
 have:fz 4 (iW bg en co base kn lv cl)=true:=Eh (bg:=bg) (en:=en) (base:=base) h1 h2 h3 h4 2
 induction n using gD<;>exact bw this
def kT(cs:bk):Prop:=∀c∈cs,j9 c
def bM(cs:bk):PV:=.l<|cs.map br
def aW(cs:bk):aY:=cs.map kindOf
noncomputable def vA:aY:=["L","R","AL","EN","AN","ON","WS","S","NSM","LRI","RLI","PDI","RLE","LRE","PDF","BN"]
theorem NL{c:Int}(h:j9 c):kindOf c∈vA:=by exact h.el (P:=λc=>kindOf c∈vA)<|by decide
theorem DD:∀k∈vA,nV k:=by unfold nV;decide
theorem Ei{k:String}(h:k∈vA):nV k:=DD k h
theorem NN{cs:bk}(h:kT cs){k:String}(hk:k∈aW cs):k∈vA:=by refine aC (bV.mp hk) λc hc aT=>?_;clear hk;subst aT;exact NL<|h c hc
theorem kU(cs:bk):dJ (cs.map br):=λx hx=>by(refine aC (bV.mp hx) λc U aL=>?_;clear hx;subst aL);exact⟨c,rfl⟩
theorem n7(cs:bk)(n:Nat):fz (n+1) (bM cs)=true:=(kU cs).fz n
theorem jk(cs:bk):(aW cs).length=cs.length:=by simp[aW]
theorem Ej(n:Nat){cs:bk}(hc:kT cs)(H:ak):gam (n+4) "" "bidi_kinds" [bM cs,bB] H=some (.l<|(aW cs).map bQ,H):=by
 refine dX (n:=n+3) (ir:=Hq) (vs:=[bM cs,bB]) (by kernel_rfl) rfl rfl rfl (by simp[n7,jj]) ?_;show Ok (aF (gam<|n+3) Ax [some<|bM cs,some bB] []) _;unfold Ax
 let f:PV->PV:=λx=>match x with
  |.i c=>.s<|kindOf c
  |x=>x
 have e:(cs.map br).map f=(aW cs).map bQ:=by simp only[aW,List.map_map];rfl
 refine bX (v:=.l<|(cs.map br).map f) (H':=[]) (nZ (l:=cs.map br) rfl λx hx=>?_) (by
  refine rR e ?_;exact jg λx hx=>by(refine X1 (jH _ x hx) λs aM=>?_;clear hx;subst aM);exact dj<|.inr<|.inr<|.inr ⟨s,rfl⟩)
 refine aC (bV.mp hx) λc hc' aP=>?_;clear hx;subst aP;exact vf (p:=.i c) (by simp only[List.cons_append,List.nil_append];(try simp only[wl,bx,reduceIte];try rfl)) (by simp only[List.cons_append,List.nil_append];(try simp only[wl,bx,reduceIte];try rfl))<|M5 n (hc c hc') _
theorem D1(n:Nat){cs:bk}(hc:kT cs)(h0:0<cs.length)(H:ak):gam (n+4) "" "paragraphs" [bM cs,bB] H=some (.l [.t [.i 0,.i cs.length]],H):=by
 refine dX (n:=n+3) (ir:=Hr) (vs:=[bM cs,bB]) (by kernel_rfl) rfl rfl rfl (by simp[n7,jj]) ?_;show Ok (aF (gam<|n+3) Ay [some<|bM cs,some bB,none,none,none,none,none] []) _;unfold Ay;refine aZ (v:=.e 0) (H1:=[some<|.l []]) rfl ?_;refine aZ (v:=.i 0) (H1:=[some<|.l []]) rfl ?_;refine gr (H':=[some<|.l []]) (vs:=[bM cs]) (items:=dU<|cs.map br) (λi ae H=>∃o4 o5 o6,ae=[some<|bM cs,some bB,some<|.e 0,some<|.i 0,o4,o5,o6]/\H=[some<|.l []])
  rfl ji (wA none none none rfl rfl) (λi x ae H hx hI=>?_) (λae H hI=>?_)
 ·(refine tY hI λo4 o5 o6 aN aQ=>?_;clear hI;subst aN;subst aQ)
  refine aC (j6 hx) λv hv aR=>?_;clear hx;subst aR;refine aC (bV.mp<|dY hv) λc hc' aT=>?_;clear hv;subst aT;refine aA _ rfl ?_;refine bU (c:=false) (H':=[some<|.l []]) (bu (p:=.s<|kindOf c) (q:=.s "B") (vf (p:=.i c) rfl rfl<|M5 n (hc c hc') _) rfl ?_) nB λU=>cu<|wA _ _ _ rfl rfl
  show some (decide<|kindOf c="B")=some false;have:=(Ei<|NL<|hc c hc').1;simp[this]
 ·(refine tY hI λo4 o5 o6 aL aM=>?_;clear hI;subst aL;subst aM)
  have hl:(cs.map br).length=cs.length:=by simp
  refine bU (c:=true) (H':=[some<|.l []]) (bu (p:=.i 0) (q:=.i cs.length) (H2:=[some<|.l []]) rfl (by unfold bM;(try simp only[wl,bx,reduceIte];try rfl);exact rR hl rfl) (by
   show some (decide<|(0:Int)<cs.length)=some true
   exact rR (di<|RW h0) rfl)) (λU=>?_) nofun
  refine eW (m:=0) (l1:=[]) (l2:=[]) (v:=.t [.i 0,.i cs.length]) (H1:=[some<|.l []]) (H2:=[some<|.l []]) rfl rfl (by unfold bM;(try simp only[wl,bx,reduceIte];try rfl);exact rR hl rfl) rfl (by simp) ?_;exact bX (v:=.e 0) rfl rfl
theorem D2(n:Nat){ks:aY}(hb:ks.length<=400)(H:ak):∃v,gam (n+1) "" "bidi_first_strong" [.l<|ks.map bQ,.i 0,.i ks.length,.d<|gc (eY ks ks.length).2] H=some (v,H)/\j_ v:=by
 refine lJ (n:=n) (ir:=Ht) (vs:=[.l<|ks.map bQ,.i 0,.i ks.length,.d<|gc (eY ks ks.length).2]) (by kernel_rfl) rfl rfl rfl (by simp[(jH ks).fz,D0,dj]) ?_;show Ok (aF (gam n) AA [some<|.l<|ks.map bQ,some<|.i 0,some<|.i ks.length,some<|.d<|gc (eY ks ks.length).2,none,none] []) _;have D_:∀{i:Nat}{y:Int},gb (ks.getD i "")=true->gc (eY ks ks.length).2 i=some y->∃q:Nat,y=q/\Pr ks (eM ks 0) ks.length i q:=Nq;generalize gc (eY ks ks.length).2=pf at*;generalize hK:PV.l (ks.map bQ)=K at*;unfold AA;refine aZ (v:=.i (0:Nat)) (H1:=[]) rfl ?_;refine yH (m:=ks.length) (λm ae H=>∃(i:Nat)(o5:bR),m=ks.length-i/\ae=[some K,some<|.i 0,some<|.i ks.length,some<|.d pf,some<|.i i,o5]/\H=[]) (fg 0 none rfl rfl rfl) (RX hb) λm ae H hI=>?_;refine d_ hI λi o5 hm aP aN=>?_;subst aP;clear hI;subst aN;have Ee:∀{ae:bf}{t:List CS},Ok (aF (gam n) (.r (.c .n)::t) ae []) (λr=>∃v,b8 6 r.2.2 (fX r.1)=some v/\j_ v):=λ{ae t}=>bX (v:=.n) (H':=[]) cL<|aA _ rfl (.inl rfl)
 refine fg (decide<|(i:Int)<ks.length) [] (by(try simp only[wl,bx,reduceIte];try rfl)) (λhc=>?_) λU=>Ee;have hi:i<ks.length:=by have:=cG hc;exact RY this
 refine aA (m-1) (RZ hm hi) ?_;have fin:∀(j:Nat)(k:String),i<=j->Ok (aF (gam n) [.a 4<|.b .a (.v 4)<|.c<|.i 1] [some K,some<|.i 0,some<|.i ks.length,some<|.d pf,some<|.i j,some<|.s k] [])
   (Turn (λae H=>∃j,j<=m-1/\∃(i:Nat)(o5:bR),j=ks.length-i/\ae=[some K,some<|.i 0,some<|.i ks.length,some<|.d pf,some<|.i i,o5]/\H=[]) (After (gam n) [.r<|.c .n] λr=>∃v,b8 6 r.2.2 (fX r.1)=some v/\j_ v)):=λj k hij=>
  aZ (v:=.i ((j+1:Nat):Int)) (H1:=[]) rfl (cu<|Fi (ks.length-(j+1)) (R0 hm hij) (j+1) _ rfl rfl rfl)
 refine aZ (v:=.s<|dM ks i) (H1:=[]) (e_idx (p:=K) (q:=.i i) rfl rfl<|by refine rL hK ?_;exact dB<|sS hi) ?_;refine bU (c:=decide<|dM ks i∈["L","R","AL"]) (H':=[]) (by(try simp only[wl,bx,reduceIte];try rfl);refine rR tj<|rR gT ?_;(try simp only[wl,bx,reduceIte];try rfl)) (λU=>bX (v:=.s<|dM ks i) rfl<|aA _ (iT<|.inr<|.inr<|.inr ⟨_,rfl⟩) (.inr ⟨_,rfl⟩)) λU=>?_;refine bU (c:=decide<|dM ks i="B") (H':=[]) rfl (λU=>bX (v:=.n) (H':=[]) cL<|aA _ rfl (.inl rfl)) λU=>?_;refine bU (c:=gb<|dM ks i) (H':=[]) (bu (p:=.s<|dM ks i) (q:=iM) rfl rfl vg) (λEv=>?_) λU=>fin i _ (bY _);refine bU (c:=!(pf i).isSome) (H':=[]) (bu (p:=.i i) (q:=.d pf) rfl rfl NC) (λU=>bX (v:=.n) (H':=[]) cL<|aA _ rfl (.inl rfl)) λhs=>?_;rw[tD]at hs;refine X1 (nh.mp hs) λy hy=>?_;refine aC (D_ Ev hy) λq aQ P=>?_;subst aQ;have:=P.lt;exact aZ (v:=.i q) (H1:=[]) (e_idx (p:=.d pf) (q:=.i i) rfl rfl<|ND hy)<|fin q _ (gX this)
noncomputable def isWord(w:String):Prop:=w="rtl"\/w="ltr"\/w="auto"
theorem NO(n:Nat){ks:aY}{w:String}(hw:isWord w)(hK:∀k∈ks,nV k)(hb:ks.length<=400):∃b:Int,(0<=b/\b<=1)/\∀H,gam (n+2) "" "bidi_base" [.l<|ks.map bQ,.s w] H=some (.i b,H):=by
 have main:∃v,(∀H,gam (n+2) "" "bidi_base" [.l<|ks.map bQ,.s w] H=some (v,H))/\∃b:Int,v=.i b/\0<=b/\b<=1:=by
  suffices h:Ok (aF (gam<|n+1) AD [some<|.l<|ks.map bQ,some<|.s w,none] []) (λr=>∃v,b8 6 r.2.2 (fX r.1)=some v/\∃b:Int,v=.i b/\0<=b/\b<=1) by
   refine ni h λr e v hv q=>?_;exact aA v (λH=>dX (n:=n+1) (ir:=Hv) (vs:=[.l<|ks.map bQ,.s w]) (by kernel_rfl) rfl rfl rfl (by simp[(jH ks).fz,dj])<|aA r e hv) q
  unfold AD;have zf:∀{e:CE}{b:Int}{ae:bf}{t:List CS},az (gam<|n+1) e ae []=some (.i b,[])->0<=b->b<=1->Ok (aF (gam<|n+1) (.r e::t) ae []) (λr=>∃v,b8 6 r.2.2 (fX r.1)=some v/\∃b:Int,v=.i b/\0<=b/\b<=1):=λh h1 h2=>bX h<|lX _ (iT<|.inr<|.inr<|.inl ⟨_,rfl⟩) _ rfl h1 h2
  rcases hw with rfl|rfl|rfl
  ·exact bU (c:=true) (H':=[]) rfl (λU=>zf (b:=1) rfl (by decide)<|by decide) tB
  ·exact bU (c:=true) (H':=[]) rfl (λU=>zf (b:=0) rfl (by decide)<|by decide) tB
  ·refine bU (c:=false) (H':=[]) rfl nB λU=>?_;refine aC (D2 n hb []) λv e hv=>?_;refine aZ (v:=v) (H1:=[]) (bP (vs:=[.l<|ks.map bQ,.i 0,.i ks.length,.d<|gc (eY ks ks.length).2]) (H1:=[]) (aJ rfl<|aJ (H1:=[]) rfl<|aJ (p:=.i ks.length) (H1:=[]) (by(try simp only[wl,bx,reduceIte];try rfl);simp)<|aJ (bP (vs:=[.l<|ks.map bQ]) rfl<|DY n (λh=>(hK _ h).1 rfl) hb _) bA) e) ?_;clear e;rcases hv with rfl|⟨s,rfl⟩
   ·exact bU (c:=true) (H':=[]) rfl (λU=>zf (b:=0) rfl (by decide)<|by decide) tB
   ·refine bU (c:=false) (H':=[]) rfl nB λU=>zf (b:=if s="L" then 0 else 1) (by(try simp only[wl,bx,reduceIte];try rfl);split<;>simp_all) (by split<;>decide)<|by split<;>decide
 refine ni main λv e b aR h=>?_;subst aR;exact aA b h e
theorem vB{n d k:Nat}(h:k<=1000):ny n d (.i k)=some (min k n):=by
 have e:cO (k:Int)=true:=by simp only[cO,Bool.and_eq_true,decide_eq_true_eq];exact R1 h
 have e2:cutAt (k:Int) n=min k n:=by unfold cutAt;refine rR (bw<|iY k) ?_;rw[Int.toNat_natCast]
 simp only[ny,e,if_true,e2]
theorem vC{H:ak}{l:au}{a b:Nat}(ha:a<=1000)(hb:b<=1000)(h:b<=l.length)(hab:a<=b):ja H (.l l) (.i a) (.i b)=some (.l<|(l.take b).drop a):=by have e:rz H (.l l)=some l:=rfl;unfold ja;refine rR e ?_;simp only[Option.bind_some,vB ha,vB hb,Option.map_some];exact rR (oz h)<|rR (oz<|eR hab h) rfl
theorem EQ{H:ak}{l:au}(h:l.length<=1000):ja H (.l l) (.i 0) (.i l.length)=some (.l l):=by
 have:=vC (H:=H) (a:=0) R3 h (bY _)<|iF _
 rw[m_,List.drop_zero]at this;exact this
theorem pF{Γ:b7}{a b c:CE}{ae:bf}{H H1 H2 H3:ak}{p q r v:PV}(ha:az Γ a ae H=some (p,H1))(hb:az Γ b ae H1=some (q,H2))(hc:az Γ c ae H2=some (r,H3))(h:ja H3 p q r=some v):az Γ (.s a b c) ae H=some (v,H3):=by
 refine rR Mu<|rR ha ?_
 simp only[Option.bind_some,hb,hc,h,Option.map_some]
theorem zg(ks:aY)(base:Int)(n:Nat):fz (n+1) (.l<|eH ks base)=true:=vp _ _ n
theorem NP(ks:aY)(base:Int):(eH ks base).length=ks.length:=zb _ _
structure mT (cs:bk):Prop where
 ok:kT cs
 pos:0<cs.length
 le:cs.length<=20
theorem mT.zh{cs:bk}(h:mT cs):∀k∈aW cs,nV k:=λk hk=>Ei<|NN h.ok hk
theorem Fa(n:Nat){cs:bk}{w:String}(hT:mT cs)(hw:isWord w)(H:ak):
  ∃(b:Int)(cl:au),(0<=b/\b<=1)/\bT cl/\cl.length=cs.length/\gam (n+5) "" "bidi_paragraphs" [bM cs,bB,.s w,.i 125] H=some (.l [iW 0 (0+(cs.map br).length) (cs.map br) b ((aW cs).map bQ) (eH (aW cs) b) cl],H):=by
 have hlen:=hT.le;refine aC (NO (n+2) (ks:=aW cs) hw hT.zh<|by rw[jk];exact Ac hlen) λb hb eb=>?_;refine c_ (xI n (ks:=aW cs) (base:=b) hT.zh (by rw[jk];exact R5 hlen) hb.2 [some<|.l []]) λcl ec c1 c2=>?_;rw[jk]at c2;refine fy b cl hb c1 c2 ?_;refine dX (n:=n+4) (ir:=HP) (vs:=[bM cs,bB,.s w,.i 125]) (by kernel_rfl) rfl rfl rfl (by simp[n7,jj,dj]) ?_;show Ok (aF (gam<|n+4) AX [some<|bM cs,some bB,some<|.s w,some<|.i 125,none,none,none,none,none,none,none,none] []) _;unfold AX;refine aZ (v:=.e 0) (H1:=[some<|.l []]) rfl ?_
 refine gr (H':=[some<|.l []]) (vs:=[.l [.t [.i 0,.i cs.length]]]) (items:=[.t [.i 0,.i cs.length]]) (λi ae H=>∃o5 o6 o7 o8 o9 qI qJ,ae=[some<|bM cs,some bB,some<|.s w,some<|.i 125,some<|.e 0,o5,o6,o7,o8,o9,qI,qJ]/\
   H=[some<|.l<|[iW 0 (0+(cs.map br).length) (cs.map br) b ((aW cs).map bQ) (eH (aW cs) b) cl].take i])
  (aJ (bP (vs:=[bM cs,bB]) (H1:=[some<|.l []]) rfl<|D1 n hT.ok hT.pos _) bA) fF (Fq none none none none none none none rfl rfl) (λi x ae H hx hI=>?_) (λae H hI=>?_)
 ·(refine Fd hI λo5 o6 o7 o8 o9 qI qJ aT aL=>?_;subst aT;subst aL)
  have hi:=cH hx;obtain rfl:i=0:=by simp at hi;exact F8 hi
  obtain rfl:=aK hx;refine aA _ rfl ?_;have hl:(cs.map br).length=cs.length:=by simp
  refine aZ (v:=bM cs) (H1:=[some<|.l []]) (pF (p:=bM cs) (q:=.i 0) (r:=.i cs.length) (H1:=[some<|.l []]) (H2:=[some<|.l []]) rfl rfl rfl<|by have:=EQ (H:=[some<|.l []]) (l:=cs.map br)<|R6 hlen hl;rw[hl]at this;exact this) ?_;refine aZ (v:=.l<|(aW cs).map bQ) (H1:=[some<|.l []]) (bP (vs:=[bM cs,bB]) (H1:=[some<|.l []]) rfl<|Ej n hT.ok _) ?_;refine aZ (v:=.i b) (H1:=[some<|.l []]) (bP (vs:=[.l<|(aW cs).map bQ,.s w]) (H1:=[some<|.l []]) rfl<|eb _) ?_;refine kP (l:=[.l<|eH (aW cs) b,.l cl]) (H1:=[some<|.l []]) (bP (vs:=[.l<|(aW cs).map bQ,.i b,.i 125]) (H1:=[some<|.l []]) rfl ec) rfl ?_;refine eW (m:=0) (l1:=[]) (l2:=[]) (v:=iW 0 (0+(cs.map br).length) (cs.map br) b ((aW cs).map bQ) (eH (aW cs) b) cl) (H1:=[some<|.l []]) (H2:=[some<|.l []]) rfl rfl
   (bP (vs:=[.i 0,bM cs,.i b,.l<|(aW cs).map bQ,.l<|eH (aW cs) b,.l cl]) (H1:=[some<|.l []]) rfl<|Do (n+3) (kU cs) (jH _) (zg _ _) c1 _) rfl (by simp) (cu<|Fq _ _ _ _ _ _ _ rfl rfl)
 ·(refine Fd hI λo5 o6 o7 o8 o9 qI qJ aM aP=>?_;clear hI;subst aM;subst aP)
  refine bX (v:=.e 0) rfl (gu (l:=[iW 0 (0+(cs.map br).length) (cs.map br) b ((aW cs).map bQ) (eH (aW cs) b) cl]) rfl λx hx=>?_);refine rR (dO.mp hx) ?_;exact Dx (kU cs) (jH _) (zg _ _) c1 _ _
noncomputable def kh(aH:Nat->bK)(n:Nat)(fl:au):Prop:=fl.length=n/\∀i x,fl[i]?=some x->(x=.n/\aH i=none)\/∃l:Int,x=.i l/\aH i≠none/\0<=l/\l<=60
set_option tactic.hygienic true in
theorem kh.set{aH:Nat->bK}{n:Nat}{fl:au}(h:kh aH n fl){i:Nat}{l:Int}(h1:aH i≠none)(h2:0<=l)(h3:l<=60):kh aH n (fl.set i<|.i l):=by
 refine⟨by refine rR i5 ?_;exact h.1,λj x hx=>?_⟩;rw[List.getElem?_set]at hx;split at hx
 ·rename_i e;subst e;split at hx
  ·exact .inr<|iq l ((aK hx).symm) h1 h2 h3
  ·exact nN hx
 ·exact h.2 j x hx
theorem zip_get{l r:au}{i:Nat}{x:PV}(h:(gZ l r)[i]?=some x):∃a b,l[i]?=some a/\r[i]?=some b/\x=.t [a,b]:=by unfold gZ at h;rw[cQ]at h;refine aC (gV.mp h) λp hp aN=>?_;clear h;subst aN;rw[List.getElem?_zip_eq_some]at hp;exact fg p.1 p.2 hp.1 hp.2 rfl
theorem Fh{l r:au}:fb .z [.l l,.l r]=some (gZ l r):=rfl
theorem kh.flat{aH:Nat->bK}{n:Nat}{fl:au}(h:kh aH n fl):∀x∈fl,x=.n\/(∃b,x=.b b)\/(∃i,x=.i i)\/∃s,x=.s s:=λx hx=>by
 refine X1 (kA hx) λi hi=>?_;clear hx;rcases h.2 i x hi with⟨rfl,_⟩|⟨l,rfl,_⟩
 ·exact .inl rfl
 ·exact .inr<|.inr<|.inl ⟨l,rfl⟩
theorem Fk(n:Nat){cs:bk}{b:Int}{cl:au}(hT:mT cs)(h1:bT cl)(h2:cl.length=cs.length)(H:ak):
  ∃ss,gam (n+4) "BidiParagraph" "sequences" [iW 0 (0+(cs.map br).length) (cs.map br) b ((aW cs).map bQ) (eH (aW cs) b) cl] H=some (.l ss,H)/\∀s∈ss,∃pl cl lv bh b6 co,Ed (eM (aW cs) b) (aW cs).length s pl cl lv bh b6 co:=by
 have hlen:=hT.le;refine aC (Db n (base:=b) (ks:=aW cs) hT.zh (by rw[jk];exact R7 hlen) h1 (by(rewrite[jk];exact rR h2 rfl)) (kU cs) (by rw[jk];simp) []) λss e hs=>?_;refine aA ss ?_ hs;refine dX (n:=n+3) (ir:=HO) (vs:=[iW 0 (0+(cs.map br).length) (cs.map br) b ((aW cs).map bQ) (eH (aW cs) b) cl]) (by kernel_rfl) rfl rfl rfl (by simp only[List.all_cons,List.all_nil,Bool.and_true];exact Eh (kU cs) (jH _) (zg _ _) h1 6) ?_;show Ok (aF (gam<|n+3) AW [some<|iW 0 (0+(cs.map br).length) (cs.map br) b ((aW cs).map bQ) (eH (aW cs) b) cl] []) _;unfold AW
 refine bX (v:=.l ss) (H':=[]) (bP (vs:=[.l<|(aW cs).map bQ,.l<|eH (aW cs) b,.l cl,.i b,.l<|cs.map br]) (H1:=[])
  (aJ (dF dP rfl (by decide) rfl)<|aJ (dF dP rfl (by decide) rfl)<|aJ (dF dP rfl (by decide) rfl)<|aJ (dF dP rfl (by decide) rfl)<|aJ (dF dP rfl (by decide) rfl) bA) e) ?_
 exact jg λx hx=>by refine X6 (hs x hx) λpl cl lv bh b6 co Q=>?_;refine rR Q.eq ?_;exact sQ (ints_of pl) Q.Ef Q.Eg 1
theorem Fm{cs:bk}{b:Int}(hlen:cs.length<=20)(hb:0<=b/\b<=1):kh (eM (aW cs) b) cs.length (eH (aW cs) b):=by
 refine⟨by rw[NP,jk],λi x hx=>?_⟩;have hi:=cH hx;rw[NP]at hi;rw[show eH (aW cs) b=gg (eM (aW cs) b) (aW cs).length from rfl,za hi]at hx;obtain rfl:=aK hx;rw[jk]at hi;cases hl:eM (aW cs) b i with
 |none=>exact .inl ⟨rfl,rfl⟩
 |some l=>
  have:=Nl _ _ _ hl;exact .inr<|iq l rfl nofun (VQ hb this)<|VR hlen hb hi this
theorem Fn(n:Nat){N:Nat}{ss ll:au}{aH:Nat->bK}{P:PV}{T:Res->Prop}(hat:∀{r:bf} {H:ak},az (gam<|n+7) (.f (.v 0) "levels") (some P::r) H=some (.l ll,H))(em:az (gam<|n+7) (.j (.v 0) "sequences" []) [some P,some bB,some<|.e 0,none,none,none] [some<|.l ll]=some (.l ss,[some<|.l ll]))
  (h0:kh aH N ll)(gJ:∀x l,x<N->aH x=some l->0<=l/\l<=41)(hs:∀s∈ss,vy aH N s)(fin:∀fl ae,kh aH N fl->T (.r<|.e 0,ae,[some<|.l fl])):
  Ok (aF (gam<|n+7) Bo [some P,some bB,none,none,none,none] []) T:=by
 unfold Bo;refine aZ (v:=.e 0) (H1:=[some<|.l ll]) (by refine rR lM<|rR (aJ hat bA) ?_;rfl) ?_;refine lK (vs:=[.l ss]) (items:=ss) (λ(U:au) (z:bR×bR×bR)=>[some P,some bB,some<|.e 0,z.1,z.2.1,z.2.2]) (λU fl U=>[some<|.l fl]) (λU fl U=>kh aH N fl) ll (none,none,none)
  (aJ em bA) rfl fF h0 (λi x fl z hx hf T k=>?_) (λfl z hf=>bX (v:=.e 0) rfl<|fin fl _ hf)
 refine X6 (hs x<|dY hx) λpl ze lv bh b6 co Q=>?_;refine c_ (wn n (pl:=pl.map aE) (lv:=lv) (bh:=bh) (b6:=b6) (ints_of pl) Q.Ef Q.Eg (by refine rR Q.con<|rR Q.cn ?_;exact bY _) (by refine rR Q.cn ?_;exact Q.NI.sz) [some<|.l fl]) λout eo ho hon=>?_;refine aC Q.BM λx0 Fr hlx=>?_;have hbd:=gJ x0 lv Fr hlx;have hel:=Q.NI.el;refine rR Q.eq ?_;clear Q hs;refine aA _ rfl ?_;refine lK (vs:=[.l<|pl.map aE,.l out]) (items:=gZ (pl.map aE) out) (λ(U:au) (y:bR×bR)=>[some P,some bB,some<|.e 0,some<|fG (pl.map aE) ze lv bh b6 co,y.1,y.2]) (λU fl U=>[some<|.l fl]) (λU fl U=>kh aH N fl) fl z.2
  (aJ (dF (p:=fG (pl.map aE) ze lv bh b6 co) rfl rfl (by decide) rfl)<|aJ (bP (vs:=[fG (pl.map aE) ze lv bh b6 co,bB]) (H1:=[some<|.l fl]) rfl eo) bA) rfl Fh hf (λj y fl u hy hf T k=>?_) (λfl u hf=>cu<|k fl (_,u) hf)
 refine d_ (zip_get hy) λp q hp hq aQ=>?_;subst aQ;rw[cQ]at hp;refine aC (gV.mp hp) λc hk aR=>?_;clear hp;clear hy;subst aR;refine aC (ho q<|dY hq) λl aT hl=>?_;clear hq;subst aT;have hel:=hel c<|dY hk
 exact aA _ rfl (pB (k:=c) (v:=.i l) (m:=0) (l1:=fl) (H1:=[some<|.l fl]) (H2:=[some<|.l fl]) (H3:=[some<|.l fl]) rfl rfl rfl rfl (by refine rR hf.1 ?_;exact hel.1)<|cu<|k _ (_,_) (hf.set hel.2 (Vc hbd hl)<|Vd hbd hl))
theorem Fs(n:Nat){cs:bk}{b:Int}{cl:au}(hT:mT cs)(hb:0<=b/\b<=1)(h1:bT cl)(h2:cl.length=cs.length)(H:ak):
  ∃fl,gam (n+8) "" "paragraph_levels" [iW 0 (0+(cs.map br).length) (cs.map br) b ((aW cs).map bQ) (eH (aW cs) b) cl,bB] H=some (.l fl,H)/\kh (eM (aW cs) b) cs.length fl:=by
 have hlen:=hT.le;refine aC (Fk (n+3) (b:=b) hT h1 h2 [some<|.l<|eH (aW cs) b]) λss es hs=>?_;rw[jk]at hs;obtain⟨v,e,fl,rfl,h⟩:=sI (c:="") (f:="paragraph_levels") (H:=H) (args:=[iW 0 (0+(cs.map br).length) (cs.map br) b ((aW cs).map bQ) (eH (aW cs) b) cl,bB]) (Q:=λv=>∃fl,v=.l fl/\kh (eM (aW cs) b) cs.length fl) (n:=n+7) (ir:=Ik) (vs:=[iW 0 (0+(cs.map br).length) (cs.map br) b ((aW cs).map bQ) (eH (aW cs) b) cl,bB]) (by kernel_rfl) rfl rfl rfl (by simp only[List.all_cons,List.all_nil,Bool.and_true,jj];exact Eh (kU cs) (jH _) (zg _ _) h1 6)
  λT K=>Fn n (dF dP rfl (by decide) rfl) (kc (H1:=[some<|.l<|eH (aW cs) b]) dP rfl (by decide) bA es) (Fm hlen hb) (λx l h h'=>by have:=Nl _ _ _ h';exact VS hb hlen h this) hs λfl ae hf=>K _ (.l fl) _ _ (gu (l:=fl) rfl λx hx=>iT<|hf.flat x hx) (aA fl rfl hf)
 exact aA fl e h
structure zj (ks:aY)(lv:bj):Prop where
 len:lv.length=ks.length
 none:∀i o,lv[i]?=some o->(o=none↔kQ (dM ks i)=true)
 bd:∀l,some l∈lv->0<=l/\l<=60
theorem NQ:∀{fl:au},(∀x∈fl,x=.n\/∃l:Int,x=.i l)->∃lv:bj,fl=lv.map aD
 |[],_=>⟨[],rfl⟩
 |x::fl,h=>by
  refine X1 (NQ (fl:=fl) λy hy=>h y<|dh _ hy) λlv aL=>?_;subst aL;rcases h x cR with rfl|⟨l,rfl⟩
  ·exact⟨none::lv,rfl⟩
  ·exact⟨some l::lv,rfl⟩
theorem Fu(ks:aY)(b:Int)(i:Nat):eM ks b i=none↔kQ (dM ks i)=true:=by show(if kQ (dM ks i)then none else some (fc (if dM ks i="PDI" then fT (gK ks b i)else gK ks b i)))=none↔_;cases kQ (dM ks i)<;>simp
theorem FB{cs:bk}{b:Int}{fl:au}(hf:kh (eM (aW cs) b) cs.length fl):∃lv:bj,fl=lv.map aD/\zj (aW cs) lv:=by
 obtain⟨lv,rfl⟩:=NQ (fl:=fl) λx hx=>by
  refine X1 (kA hx) λi hi=>?_;clear hx;rcases hf.2 i x hi with⟨rfl,_⟩|⟨l,rfl,_⟩
  ·exact .inl rfl
  ·exact .inr ⟨l,rfl⟩
 refine aA lv rfl ⟨by(rewrite[jk];refine rL hf.1 ?_;rw[bI]),λi o ho=>?_,λl hl=>?_⟩
 ·rw[<-Fu _ b];rcases hf.2 i (aD o) (by rw[cQ,ho];rfl)with⟨h1,h2⟩|⟨l,h1,h2,_⟩
  ·induction o using e9 with
   |none=>rw[h2]
   |some l=>injection h1
  ·induction o using e9 with
   |none=>injection h1
   |some l=>exact⟨nofun,λh=>(h2 h).elim⟩
 ·refine X1 (kA hl) λi hi=>?_;rcases hf.2 i (aD<|some l) (by rw[cQ,hi];rfl)with⟨h1,h2⟩|⟨l',h1,h2,h3⟩
  ·injection h1
  ·obtain rfl:=PV.i.inj h1;exact h3
theorem FC(n:Nat){cs:bk}{w:String}(hT:mT cs)(hw:isWord w):∃lv:bj,zj (aW cs) lv/\∀H,gam (n+9) "" "bidi_levels" [bM cs,bB,.s w] H=some (.l<|lv.map aD,H):=by
 refine eJ (Fa (n+3) hT hw [some<|.l []]) λb cl hb h1 h2 e=>?_;refine aC (Fs n hT hb h1 h2 [some<|.l []]) λfl ef hf=>?_;refine aC (FB hf) λlv aM gJ=>?_;subst aM;have hlen:((lv.map aD).length:Nat)<=20:=by refine rR hf.1 ?_;exact hT.le
 refine aA lv gJ λH=>qy (n:=n+8) (ir:=Il) (vs:=[bM cs,bB,.s w,.i 125]) (by kernel_rfl) rfl rfl rfl (by simp[n7,jj,dj]) λT K=>?_;show Ok (aF (gam<|n+8) Bp [some<|bM cs,some bB,some<|.s w,some<|.i 125,none,none] []) T;revert e ef;refine gen (iW 0 (0+(cs.map br).length) (cs.map br) b ((aW cs).map bQ) (eH (aW cs) b) cl) λP e ef=>?_;unfold Bp;refine aZ (v:=.e 0) (H1:=[some<|.l []]) rfl ?_;refine DK (vs:=[.l [P]]) (items:=[P]) (λo=>[some<|bM cs,some bB,some<|.s w,some<|.i 125,some<|.e 0,o]) (λi U=>[some<|.l (if i=0 then[]else lv.map aD)]) (λU U=>True) none
   (aJ (bP (vs:=[bM cs,bB,.s w,.i 125]) (H1:=[some<|.l []]) rfl e) bA) rfl fF trivial (λi x o hx U T k=>?_) (λo U=>?_)
 ·have hi:=cH hx;obtain rfl:i=0:=Nat.lt_one_iff.mp hi;obtain rfl:=aK hx;exact aA _ rfl (sP (m:=0) (l1:=[]) (l2:=[]) (v:=.l<|lv.map aD) (r:=lv.map aD) (H1:=[some<|.l []]) (H2:=[some<|.l []]) rfl rfl (bP (vs:=[P,bB]) (H1:=[some<|.l []]) rfl ef) rfl rfl (by(refine rR List.length_nil ?_;rewrite[Nat.zero_add]);exact eR hlen<|by decide)<|cu<|k _ trivial)
 ·exact bX (v:=.e 0) rfl<|K _ _ _ (gu (l:=lv.map aD) rfl λx hx=>iT<|hf.flat x hx)
theorem FM(n:Nat){cs:bk}{w:String}(hT:mT cs)(hw:isWord w):∃b:Int,(0<=b/\b<=1)/\∀H,gam (n+5) "" "base_level" [bM cs,bB,.s w] H=some (.i b,H):=by have hlen:=hT.le;refine aC (NO (n+2) (ks:=aW cs) hw hT.zh<|by rw[jk];exact Ac hlen) λb hb eb=>?_;refine aA b hb λH=>dX (n:=n+4) (ir:=Hu) (vs:=[bM cs,bB,.s w]) (by kernel_rfl) rfl rfl rfl (by simp[n7,jj,dj]) ?_;show Ok (aF (gam<|n+4) AB [some<|bM cs,some bB,some<|.s w] []) _;unfold AB;exact bX (v:=.i b) (H':=[]) (bP (vs:=[.l<|(aW cs).map bQ,.s w]) (H1:=[]) (aJ (bP (vs:=[bM cs,bB]) (H1:=[]) rfl<|Ej n hT.ok _) rfl)<|eb _) rfl
noncomputable def lo(lv:bj)(i:Nat):bK:=lv.getD i none
theorem lQ{lv:bj}{i:Nat}(h:i<lv.length):(lv.map aD)[i]?=some (aD<|lo lv i):=by rw[cQ,eE h,lo,fV,eE h];rfl
theorem zk{lv:bj}{i:Nat}(h:i<lv.length):lv[i]?=some (lo lv i):=by rw[lo,fV,eE h];rfl
noncomputable def jl:aY:=["S","B"]
noncomputable def kW:aY:=["WS","FSI","LRI","RLI","PDI"]
def mU(lv:bj)(ks:aY)(i:Nat):Bool:=(lo lv i).isNone||decide (dM ks i∈kW)
def kX(lv:bj)(ks:aY)(b:Nat):Nat->Bool
 |0=>true
 |k+1=>if mU lv ks (b-(k+1))then kX lv ks b k else decide (dM ks (b-(k+1))∈jl)
def qK(lv:bj)(ks:aY)(base:Int)(b i:Nat):bK:=(lo lv i).map λl=>if kX lv ks b (b-i)then base else l
def gi(lv:bj)(ks:aY)(base:Int)(a b:Nat):bj:=(List.range<|b-a).map λj=>qK lv ks base b<|a+j
theorem FR:uu=.t (jl.map .s):=rfl
theorem FS:uv=.t (kW.map .s):=rfl
noncomputable def qL:aY:=["RLE","LRE","RLO","LRO","PDF","BN"]
theorem FV{k:String}(h:nV k):k∈qL↔kQ k=true:=by
 simp only[qL,List.mem_cons,List.not_mem_nil,or_false,kQ,Bool.or_eq_true,beq_iff_eq];constructor
 ·rintro(h'|h'|h'|h'|h'|h')
  ·simp[h']
  ·simp[h']
  ·exact absurd h' h.2.2.1
  ·exact absurd h' h.2.2.2
  ·simp[h']
  ·simp[h']
 ·rintro(((h'|h')|h')|h')<;>simp[h']
noncomputable def jm(R O:Nat->PV)(N i:Nat):au:=(List.range N).map λj=>if N-i<=j then R j else O j
theorem zl{R O:Nat->PV}{N i j:Nat}(h:j<N):(jm R O N i)[j]?=some (if N-i<=j then R j else O j):=by unfold jm;rw[cQ,lU h];rfl
theorem Ek(R O:Nat->PV)(N i:Nat):(jm R O N i).length=N:=by simp[jm]
theorem ext_get{l r:au}(hl:l.length=r.length)(h:∀i,i<l.length->l[i]?=r[i]?):l=r:=by
 refine List.ext_getElem? λi=>?_;rcases dm i l.length with h'|h'
 ·exact h i h'
 ·rw[gO h',gO<|R8 hl h']
set_option tactic.hygienic true in
theorem FX{R O:Nat->PV}{N i:Nat}(h:i<N):(jm R O N i).set (N-1-i) (R<|N-1-i)=jm R O N (i+1):=by
 refine ext_get (by simp[jm]) λj hj=>?_;rw[i5,Ek]at hj;rw[List.getElem?_set,Ek,zl hj,zl hj];split
 ·rename_i e;subst e;exact rR (bw<|R9 hj)<|rR (bw R_) rfl
 ·rename_i e;congr 1;by_cases h1:N-i<=j
  ·exact rR (bw h1)<|rR (bw<|Sa h1) rfl
  ·exact rR (bO h1)<|rR (bO<|Sb e h1) rfl
structure mV (cs:bk)(lv:bj)(a b:Nat):Prop where
 T:mT cs
 lv:zj (aW cs) lv
 ab:a<b
 bn:b<=cs.length
section
variable {cs:bk}{lv:bj}{a b:Nat}(L:mV cs lv a b)
include L
theorem mV.n:lv.length=cs.length:=by(refine rR L.lv.len ?_;rw[jk])
theorem mV.skip{i:Nat}(h:i<b):mU lv (aW cs) i=(decide (dM (aW cs) i∈qL)||decide (dM (aW cs) i∈kW)):=by
 have h1:=L.lv.none i _ (zk<|by refine rR L.n ?_;have:=L.bn;exact F9 h this);have h2:dM (aW cs) i∈aW cs:=by
  have:i<(aW cs).length:=by rw[jk];have:=L.bn;exact F9 h this
  rw[dM,fV,eE this];exact tK this
 unfold mU;congr 1;rw[Bool.eq_iff_iff,tU,ff,h1,FV<|Ei<|NN L.T.ok h2]
theorem mV.end(base:Int){i:Nat}(h:i<b):kX lv (aW cs) b (b-i)=(if mU lv (aW cs) i then kX lv (aW cs) b (b-(i+1))else decide (dM (aW cs) i∈jl)):=by
 obtain⟨k,hk⟩:∃k,b-i=k+1:=⟨b-i-1,Se h⟩
 refine rR hk ?_;rewrite[kX];exact rR (show b-(k+1)=i from Sf hk)<|rR (show b-(i+1)=k from Sg hk) rfl
end
theorem set_same{ae:bf}{i:Nat}{v:bR}(h:ae[i]?=some v):ae.set i v=ae:=by
 refine List.ext_getElem? λj=>?_;by_cases e:i=j
 ·subst e;rw[jL<|cH h,h]
 ·rw[jr e]
section
variable {n:Nat}{lv:bj}{base:Int}{a b j:Nat}{k:String}{e:Bool}{X:au}{ae:bf}{H:ak}{T:bf->ak->Prop}{t:List CS}{Q:Res->Prop}
theorem F'(v5:ae[5]?=some (some<|.b e))(v7:ae[7]?=some (some<|.s k))(h:Ok (aF (gam n) t (ae.set 5<|some<|.b (if decide (k∈kW)||decide (k∈qL)then e else decide (k∈jl))) H) Q)(hk:k∈jl->k∉kW/\k∉qL):
  Ok (aF (gam n) (.i (.m .i (.v 7)<|.g "LINE_SEPARATORS" uu)
   [.a 5<|.c<|.b true]
   [.i (.a true [.m .o (.v 7)<|.g "LINE_BLANKS" uv,.m .o (.v 7)<|.g "REMOVED" oK])
    [.a 5<|.c<|.b false]
    []]::t) ae H) Q:=by
 refine bU (c:=decide<|k∈jl) (H':=H) (bu (q:=uu) (bq v7) rfl<|by exact rR FR<|rR gT rfl) (λhc=>?_) λhc=>?_
 ·have hs:=hk<|cG hc
  rw[dG hs.1,dG hs.2,hc]at h;exact aZ cL h
 ·refine bU (c:=!decide (k∈kW)&&!decide (k∈qL)) (H':=H) (f_ (bu (q:=uv) (bq v7) rfl<|by exact rR FS<|rR yR rfl) λU=>bu (q:=oK) (bq v7) rfl<|by refine rR MY<|rR yR ?_;rfl) (λhc2=>?_) λhc2=>?_
  ·rw[cy,k9,k9]at hc2;rw[hc2.1,hc2.2,hc]at h;exact aZ cL h
  ·rw[<-Bool.not_or,tD]at hc2;rw[bw hc2,set_same v5]at h;exact h
theorem Gc(qM:a<=j)(hX:X[j-a]?=some (aD<|lo lv j))(v2:ae[2]?=some (some<|.t [.i a,.i b]))(v3:ae[3]?=some (some<|.i base))(v4:ae[4]?=some (some<|.e 0))(v5:ae[5]?=some (some<|.b e))(v6:ae[6]?=some (some<|.i j))
  (K:T ae [some<|.l<|X.set (j-a)<|aD ((lo lv j).map λl=>if e then base else l)]):
  Ok (aF (gam n) [.i (.a true [.v 5,.m .t (.d (.v 4)<|.b .s (.v 6)<|.d (.v 2)<|.c<|.i 0)<|.c .n])
   [.t (.v 4) (.b .s (.v 6)<|.d (.v 2)<|.c<|.i 0)<|.v 3]
   []] ae [some<|.l X]) (Nx T):=by
 have hix:az (gam n) (.b .s (.v 6)<|.d (.v 2)<|.c<|.i 0) ae [some<|.l X]=some (.i ((j-a:Nat):Int),[some<|.l X]):=
  (dD (p:=.i j) (q:=.i a) (bq v6) (e_idx (p:=.t [.i a,.i b]) (q:=.i 0) (bq v2) cL sL) rfl).trans (by exact rR (Int.ofNat_sub qM) rfl)
 refine bU (c:=e&&(lo lv j).isSome) (H':=[some<|.l X]) (f_ (bq v5) λU=>bu (p:=aD<|lo lv j) (q:=.n) (e_idx (p:=.e 0) (q:=.i ((j-a:Nat):Int)) (bq v4) hix<|yN rfl hX) cL<|qG _) (λhc=>?_) λhc=>?_
 ·rw[cy]at hc;refine X1 (nh.mp hc.2) λl hl=>?_;rw[hl,hc.1]at K;exact pB (k:=j-a) (v:=.i base) (m:=0) (l1:=X) (H1:=[some<|.l X]) (H2:=[some<|.l X]) (H3:=[some<|.l X]) (bq v3) (bq v4) hix rfl (cH hX)<|cu K
 ·have e':((lo lv j).map λl=>if e then base else l)=lo lv j:=by
   cases h:lo lv j with
   |none=>rfl
   |some l=>
    rw[h,show(some l).isSome=true from rfl,Bool.and_true]at hc;refine rR hc ?_;rfl
  have e2:X.set (j-a) (aD<|lo lv j)=X:=by
   refine List.ext_getElem? λi=>?_;by_cases q:j-a=i
   ·subst q;rw[jL<|cH hX,hX]
   ·rw[jr q]
  rw[e',e2]at K;exact cu K
end
theorem NR{k:String}(h:k∈jl):k∉kW/\k∉qL:=by simp only[jl,List.mem_cons,List.not_mem_nil,or_false]at h;rcases h with rfl|rfl<;>decide
theorem Go{a b i:Nat}(h:i<b-a):((b:Int)-1-i)=((b-1-i:Nat):Int)/\b-(b-1-i)=i+1/\b-(b-1-i+1)=i/\a<=b-1-i/\b-1-i<b/\b-a-1-i=b-1-i-a/\b-1-i-a<b-a/\¬b-a-i<=b-1-i-a:=by refine X1 (Nat.exists_eq_add_of_lt<|Nat.add_lt_of_lt_sub' h) λc aP=>?_;subst aP;refine rR (show a+i+c+1-1-i=a+c from Sh) ?_;refine⟨Sj,Sk,Sl,jt _ _,Sm,?_,?_,?_⟩<;>rw[tP]<;>(first|lia|omega)
def GE(lv:bj)(ks:aY)(a b:Nat)(base:Int)(e:Bool)(x y:bR):bf:=[some<|.l<|lv.map aD,some<|.l<|ks.map bQ,some<|.t [.i a,.i b],some<|.i base,some<|.e 0,some<|.b e,x,y]
theorem NS(n:Nat){cs:bk}{lv:bj}{a b:Nat}{base:Int}(L:mV cs lv a b)(H:ak):
  gam (n+1) "" "line_levels" [.l<|lv.map aD,.l<|(aW cs).map bQ,.t [.i a,.i b],.i base] H=some (.l<|(gi lv (aW cs) base a b).map aD,H):=by
 have hlen:=L.T.le;have hn:=L.n;have hab:=L.ab;have hbn:=L.bn;have GM:fz 8 (.l<|lv.map aD)=true:=nS λx hx=>by(refine aC (bV.mp hx) λo U aN=>?_;clear hx;subst aN);exact yZ _
 refine qy (ir:=Im) (vs:=[.l<|lv.map aD,.l<|(aW cs).map bQ,.t [.i a,.i b],.i base]) (by kernel_rfl) rfl rfl rfl (by simp only[List.all_cons,List.all_nil,Bool.and_true,GM,(jH<|aW cs).fz,Bool.true_and];rfl) λT K=>?_;show Ok (aF (gam n) Bq [some<|.l<|lv.map aD,some<|.l<|(aW cs).map bQ,some<|.t [.i a,.i b],some<|.i base,none,none,none,none] []) T;unfold Bq;have El:((lv.map aD).take b).drop a=jm (λj=>aD<|qK lv (aW cs) base b<|a+j) (λj=>aD<|lo lv<|a+j) (b-a) 0:=by
  have NT:min b (lv.map aD).length=b:=by(rewrite[bI];refine rR hn ?_);exact oz hbn
  refine ext_get (by(refine rR pO<|rR gU<|rR NT ?_;rw[Ek])) λj hj=>?_;rw[pO,gU,NT]at hj;have hj':a+j<b:=Nat.add_lt_of_lt_sub' hj;rw[List.getElem?_drop,tJ hj',lQ<|by refine rR hn ?_;exact oq hj' hbn,zl hj,bO (show¬b-a-0<=j from Nat.not_le.mpr hj)]
 have Em:jm (λj=>aD<|qK lv (aW cs) base b<|a+j) (λj=>aD<|lo lv<|a+j) (b-a) (b-a)=(gi lv (aW cs) base a b).map aD:=by unfold jm gi;refine rR i6 ?_;exact m9 λj U=>bw<|by rw[pT];exact iF _
 have hR:∀j,a<=j->(λj=>aD<|qK lv (aW cs) base b<|a+j) (j-a)=aD ((lo lv j).map λl=>if kX lv (aW cs) b (b-j)then base else l):=λj h=>by show aD (qK lv (aW cs) base b<|a+(j-a))=_;refine rR (Nat.add_sub_cancel' h) ?_;rfl
 have hO:∀j,a<=j->(λj=>aD<|lo lv<|a+j) (j-a)=aD (lo lv j):=λj h=>by show aD (lo lv<|a+(j-a))=_;exact rR (Nat.add_sub_cancel' h) rfl
 revert El Em hR hO;refine gen (λj=>aD<|qK lv (aW cs) base b<|a+j) λR=>?_;refine gen (λj=>aD<|lo lv<|a+j) λO El Em hR hO=>?_
 refine aZ (v:=.e 0) (H1:=[some<|.l<|jm R O (b-a) 0]) (by
  refine rR lM (rR (aJ (pF (p:=.l<|lv.map aD) (q:=.i a) (r:=.i b) (H1:=[]) (H2:=[]) rfl rfl rfl<|vC (F_ hlen hab hbn) (wU hlen hbn) (by rw[bI];exact So hn hbn)<|gX hab) bA)<|rR El ?_)
  rfl) ?_
 refine aZ (v:=.b true) (H1:=[some<|.l<|jm R O (b-a) 0]) rfl ?_;refine lK (vs:=[.i<|b-1,.i<|a-1,.i<|-1]) (items:=kK (b-1)<|a-1) (λe (z:bR×bR)=>GE lv (aW cs) a b base e z.1 z.2) (λi U U=>[some<|.l<|jm R O (b-a) i]) (λi e U=>e=kX lv (aW cs) b i) true (none,none)
  rfl rfl (MR Aa (Sp hlen hbn) Aa<|Sq hlen hab hbn) rfl (λi x e z hx he T k=>?_) (λe z he=>?_)
 ·(refine U1 (MS hx) λaQ hlt=>?_;clear hx;subst aQ)
  have hi:i<b-a:=Ss hlt;refine U7 (Go hi) λhat h1 h2 qM mW h5 h6 h7=>?_;refine rR hat ?_;have hm:=FX (R:=R) (O:=O) hi;rw[h5]at hm;have hg:(jm R O (b-a) i)[b-1-i-a]?=some (O<|b-1-i-a):=by exact rR (zl h6)<|rR (bO h7) rfl
  clear hat h5 h6 h7;revert h1 h2 qM mW hm hg;refine gen (b-1-i) λj h1 h2 qM mW hm hg=>?_;have hE:=L.end base mW;rw[h1,h2]at hE;rw[hO j qM]at hg;rw[hR j qM,h1]at hm;refine aA _ rfl (aZ (v:=.s<|dM (aW cs) j) (H1:=[some<|.l<|jm R O (b-a) i]) (e_idx (p:=.l<|(aW cs).map bQ) (q:=.i j) rfl rfl<|dB<|sS<|by rw[jk];exact Ab hbn mW) ?_);rw[L.skip mW,Bool.or_comm,<-he]at hE;refine F' (e:=e) rfl rfl ?_ NR;refine rL hE ?_;refine Gc (e:=kX lv (aW cs) b<|i+1) qM hg rfl rfl rfl rfl rfl ?_;refine rR hm ?_;exact k _ (_,_) rfl
 ·(rewrite[MT];refine rR (show((b:Int)-1-(a-1)).toNat=b-a from Su)<|rR Em ?_)
  exact bX (v:=.e 0) rfl<|K _ _ _ (gu rfl λx hx=>by(refine aC (bV.mp hx) λo U aR=>?_;clear hx;subst aR);exact D4 _)
theorem kY(lv:bj)(n:Nat):fz (n+1) (.l<|lv.map aD)=true:=nS λx hx=>by(refine aC (bV.mp hx) λo U aT=>?_;clear hx;subst aT);exact yZ _
theorem GT(lv:bj)(n:Nat)(H:ak):∀x∈lv.map aD,b8 n H x=some x:=λx hx=>by(refine aC (bV.mp hx) λo U aL=>?_;clear hx;subst aL);exact D4 _
noncomputable def vD:PV:=.t<|kW.map .s
section
variable {n:Nat}{cs:bk}{lv:bj}{base:Int}{a b j q:Nat}{E:Bool}{X:au}{ae:bf}{H:ak}{T:bf->ak->Prop}
theorem NU{i:Nat}(h:q<lv.length)(v0:ae[0]?=some (some<|.l<|lv.map aD))(vi:ae[i]?=some (some<|.i q)):az (gam n) (.d (.v 0)<|.v i) ae H=some (aD<|lo lv q,H):=
 e_idx (p:=.l<|lv.map aD) (q:=.i q) (bq v0) (bq vi) (dB<|lQ h)
theorem En{ks:aY}{i:Nat}(h:q<ks.length)(v1:ae[1]?=some (some<|.l<|ks.map bQ))(vi:ae[i]?=some (some<|.i q)):az (gam n) (.d (.v 1)<|.v i) ae H=some (.s<|dM ks q,H):=
 e_idx (p:=.l<|ks.map bQ) (q:=.i q) (bq v1) (bq vi) (dB<|sS h)
theorem Ha{ks:aY}(hb:b<=lv.length)(hk:b<=ks.length)(v0:ae[0]?=some (some<|.l<|lv.map aD))(v1:ae[1]?=some (some<|.l<|ks.map bQ))(v2:ae[2]?=some (some<|.t [.i a,.i b]))(v5:ae[5]?=some (some vD))(v7:ae[7]?=some (some<|.i q)):
  az (gam n) (.a true [.m .l (.v 7)<|.d (.v 2)<|.c<|.i 1,.a false [.m .s (.d (.v 0)<|.v 7)<|.c .n,.m .i (.d (.v 1)<|.v 7)<|.v 5]]) ae H=some (.b<|decide ((q:Int)<b)&&mU lv ks q,H):=
 f_ (bu (p:=.i q) (q:=.i b) (bq v7) (e_idx (p:=.t [.i a,.i b]) (q:=.i 1) (bq v2) cL sM) rfl) λhc=>by
  have hq:q<b:=oi.mp<|cG hc
  exact pA (bu (NU (oq hq hb) v0 v7) cL<|Ny _) λU=>bu (En (oq hq hk) v1 v7) (bq v5) gT
theorem Hb{ks:aY}(hk:b<=ks.length)(hq:q<=b)(v1:ae[1]?=some (some<|.l<|ks.map bQ))(v2:ae[2]?=some (some<|.t [.i a,.i b]))(v7:ae[7]?=some (some<|.i q))(hE:q=b->E=true)(NV:q<b->E=decide (dM ks q∈jl)):
  az (gam n) (.a false [.m .e (.v 7)<|.d (.v 2)<|.c<|.i 1,.m .i (.d (.v 1)<|.v 7)<|.t [.c<|.s "S",.c<|.s "B"]]) ae H=some (.b E,H):=by
 have e1:∀H,az (gam n) (.m .e (.v 7)<|.d (.v 2)<|.c<|.i 1) ae H=some (.b<|decide<|(q:Int)=b,H):=λH=>bu (p:=.i q) (q:=.i b) (bq v7) (e_idx (p:=.t [.i a,.i b]) (q:=.i 1) (bq v2) cL sM) rfl;rcases dm q b with h|h
 ·refine rR (NV h) ?_;have:=pA (b:=.m .i (.d (.v 1)<|.v 7)<|.t [.c<|.s "S",.c<|.s "B"]) (d:=decide<|dM ks q∈jl) (e1 H) λU=>bu (En (oq h hk) v1 v7) (q:=.t<|jl.map .s) rfl gT
  rwa[dG λe=>gP h<|Int.ofNat_inj.mp e,Bool.false_or]at this
 ·clear hk v2 NV;obtain rfl:=eI hq h;refine rR (hE rfl) ?_;have:=pA (d:=true) (b:=.m .i (.d (.v 1)<|.v 7)<|.t [.c<|.s "S",.c<|.s "B"]) (e1 H) λh=>absurd (lW h) λh=>h rfl
  rwa[di rfl,Bool.true_or]at this
theorem Hc{ks:aY}(hb:j<lv.length)(hk:j<ks.length)(hX:X.length<=900)(hE:E=if mU lv ks j then E else decide (dM ks j∈jl))(v0:ae[0]?=some (some<|.l<|lv.map aD))(v1:ae[1]?=some (some<|.l<|ks.map bQ))(v3:ae[3]?=some (some<|.i base))(v4:ae[4]?=some (some<|.e 0))(v5:ae[5]?=some (some vD))(v6:ae[6]?=some (some<|.i j))(v8:ae[8]?=some (some<|.b E))
  (K:T ae [some<|.l<|X++[aD ((lo lv j).map λl=>if E then base else l)]]):
  Ok (aF (gam n) [.i (.m .s (.d (.v 0)<|.v 6)<|.c .n)
   [.x<|.q (.v 4)<|.c .n]
   [.x<|.q (.v 4)<|.i (.a false [.m .i (.d (.v 1)<|.v 6)<|.t [.c<|.s "S",.c<|.s "B"],.a true [.m .i (.d (.v 1)<|.v 6)<|.v 5,.v 8]]) (.v 3)<|.d (.v 0)<|.v 6]] ae [some<|.l X]) (Nx T):=by
 have NW:X.length<=1000:=eR hX<|by decide
 have Eo:=λH=>NU (n:=n) (H:=H) hb v0 v6;have NX:=λH=>En (n:=n) (H:=H) hk v1 v6;refine bU (c:=(lo lv j).isNone) (H':=[some<|.l X]) (bu (Eo _) cL<|Ny _) (λhc=>?_) λhc=>?_
 ·rw[tU.mp hc]at K;exact eW (m:=0) (l1:=X) (l2:=X) (v:=.n) (H1:=[some<|.l X]) (H2:=[some<|.l X]) (bq v4) rfl cL rfl NW<|cu K
 ·have hS:mU lv ks j=decide (dM ks j∈kW):=by unfold mU;refine rR hc ?_;rfl
  obtain⟨l,hl⟩:∃l,lo lv j=some l:=nh.mp<|by(rewrite[<-Option.not_isNone];refine rR hc ?_);rfl
  rw[hl]at K Eo;rw[hS]at hE;have NY:(decide (dM ks j∈jl)||(decide (dM ks j∈kW)&&E))=E:=by
   by_cases h1:dM ks j∈kW
   ·refine rR (dG λh=>(NR h).1 h1)<|rR (di h1) ?_;rfl
   ·rw[dG h1]at hE⊢;rw[Bool.false_and,Bool.or_false];exact hE.symm
  refine eW (m:=0) (l1:=X) (l2:=X) (v:=.i (if E then base else l)) (H1:=[some<|.l X]) (H2:=[some<|.l X]) (bq v4) rfl
   (iB (c:=decide (dM ks j∈jl)||(decide (dM ks j∈kW)&&E)) (pA (bu (NX _) (q:=.t<|jl.map .s) rfl gT) λU=>f_ (bu (NX _) (q:=vD) (bq v5) gT) λU=>bq v8) (λh=>?_) λh=>?_) rfl NW (cu K)
  ·rw[NY]at h;refine rR h ?_;exact bq v3
  ·rw[NY]at h;refine rR h ?_;exact Eo _
end
def NZ(lv:bj)(ks:aY)(a b:Nat)(base:Int)(x y z:bR):bf:=[some<|.l<|lv.map aD,some<|.l<|ks.map bQ,some<|.t [.i a,.i b],some<|.i base,some<|.e 0,some vD,x,y,z]
set_option tactic.hygienic true in
theorem Hd(n:Nat){cs:bk}{lv:bj}{a b:Nat}{base:Int}(L:mV cs lv a b)(H:ak):
  gam (n+1) "" "_law_reset" [.l<|lv.map aD,.l<|(aW cs).map bQ,.t [.i a,.i b],.i base] H=some (.l<|(gi lv (aW cs) base a b).map aD,H):=by
 have hlen:=L.T.le;have hab:=L.ab;have hbn:=L.bn;have hn:b<=lv.length:=L.n▸hbn;have hk:b<=(aW cs).length:=(jk cs).symm▸hbn;refine qy (ir:=II) (vs:=[.l<|lv.map aD,.l<|(aW cs).map bQ,.t [.i a,.i b],.i base]) (by kernel_rfl) rfl rfl rfl (by simp only[List.all_cons,List.all_nil,Bool.and_true,kY,(jH<|aW cs).fz,Bool.true_and];rfl) λT K=>?_;show Ok (aF (gam n) BH [some<|.l<|lv.map aD,some<|.l<|(aW cs).map bQ,some<|.t [.i a,.i b],some<|.i base,none,none,none,none,none] []) T;unfold BH;refine kP (l:=[.e 0,vD]) (H1:=[some<|.l []]) rfl rfl ?_;refine sH (vs:=[.i a,.i b]) (items:=fk a b) (NZ lv (aW cs) a b base) (λi U U U=>[some<|.l<|((gi lv (aW cs) base a b).take i).map aD]) (λU U U U=>True) none none none
  rfl rfl (pq jx (Ga hlen hab hbn) jx<|Gb hlen hbn) trivial (λi x u y z hx U T k=>?_) (λu y z U=>?_)
 ·(refine U1 (sO hx) λaM hlt=>?_;clear hx;subst aM)
  have hi:a+i<b:=Sv hlt;refine rR (show((a:Int)+i)=((a+i:Nat):Int)from rfl) ?_;have hnext:((gi lv (aW cs) base a b).take<|i+1).map aD=((gi lv (aW cs) base a b).take i).map aD++[aD ((lo lv<|a+i).map λl=>if kX lv (aW cs) b (b-(a+i))then base else l)]:=by
   refine rR pS<|rR kB ?_
   congr 1;unfold gi;rw[cQ,lU<|Nat.lt_sub_of_add_lt<|by rw[Nat.add_comm];exact hi];rfl
  have pG:(((gi lv (aW cs) base a b).take i).map aD).length<=900:=by rewrite[bI];refine rR gU ?_;exact eR (jN _ _)<|Sw hlen hbn hlt
  have k:=k<|some<|.i (a+i:Nat)
  rw[hnext]at k;revert k pG;refine gen (((gi lv (aW cs) base a b).take i).map aD) λX pG k=>?_;clear hnext hlt;revert hi k;refine gen (a+i) λj mW k=>?_;refine aA _ rfl (aZ (v:=.i j) (H1:=[some<|.l X]) rfl ?_);refine Mm (m:=b-j) (λq:Nat=>NZ lv (aW cs) a b base (some<|.i j) (some<|.i q) z) (λU=>[some<|.l X]) (λm q=>q<=b/\m=b-q/\kX lv (aW cs) b (b-q)=kX lv (aW cs) b (b-j)) j rfl rfl
   ⟨Nat.le_of_lt mW,rfl,rfl⟩ (Sy hlen hbn) (λm q hI T kw=>?_)
  refine U2 hI λhq2 aP hE=>?_;clear hI;subst aP;refine fg (decide ((q:Int)<b)&&mU lv (aW cs) q) _ (Ha hn hk rfl rfl rfl rfl rfl) (λhc=>?_) (λhc=>?_)
  ·rw[cy,ff]at hc;have zm:q<b:=oi.mp hc.1;have e2:=L.end base zm;rw[hc.2,bw rfl,hE]at e2;exact⟨Nat.sub_pos_of_lt zm,aZ (v:=.i ((q+1:Nat):Int)) (H1:=[some<|.l X]) rfl<|cu<|kw (b-(q+1)) (q+1) (Nat.sub_lt_sub_left zm<|Nat.lt_succ_self q) ⟨zm,rfl,e2.symm⟩⟩
  ·refine aZ (v:=.b<|kX lv (aW cs) b<|b-j) (H1:=[some<|.l X]) (Hb hk hq2 rfl rfl rfl (λe=>?_) λh=>?_)<|Hc (oq mW hn) (oq mW hk) pG ?_ rfl rfl rfl rfl rfl rfl rfl<|k _ _ trivial
   ·(refine rL hE<|rR e ?_;rewrite[pT]);rfl
   ·have h2:mU lv (aW cs) q=false:=by rw[di<|oi.mpr h,qW]at hc;exact hc
    refine rL hE<|rR (L.end base h)<|rR h2 ?_;rfl
   ·split
    ·rfl
    ·rename_i h;exact rR (L.end base mW)<|rR (bO h) rfl
 ·(rewrite[qA];refine rR (show((b:Int)-a).toNat=b-a from Ge)<|rR (tO<|by rw[gi,bI,tL];exact bY _) ?_)
  exact bX (v:=.e 0) rfl<|K _ _ _ (gu rfl<|GT _ _ _)
noncomputable def N1:bK->bK->bK
 |none,o=>o
 |some a,none=>some a
 |some a,some b=>some<|min a b
def jJ(lv:bj)(x:Nat):Nat->bK
 |0=>lo lv x
 |d+1=>N1 (jJ lv x d)<|lo lv<|x+(d+1)
def mn(lv:bj)(x y:Nat):Int:=(jJ lv x<|y-x).getD 0
structure vE (lv:bj)(x y:Nat)(m:Int):Prop where
 at_:∃c,x<=c/\c<=y/\lo lv c=some m
 le:∀c l,x<=c->c<=y->lo lv c=some l->m<=l
def bH(lv:bj)(x:Nat):Bool:=(lo lv x).isSome
def dw(lv:bj)(x:Nat):Int:=(lo lv x).getD 0
theorem lR{lv:bj}{x:Nat}(h:bH lv x=true):lo lv x=some (dw lv x):=by
 unfold bH at h;unfold dw;cases h':lo lv x with
 |none=>rw[h']at h;exact nB h
 |some l=>rfl
theorem ic{lv:bj}{x:Nat}(h:bH lv x=true):x<lv.length:=by
 rcases dm x lv.length with h'|h'
 ·exact h'
 ·unfold bH lo at h;rw[fV,gO h']at h;exact nB h
theorem Ep{lv:bj}{x:Nat}(hx:bH lv x=true):∀d,∃m,jJ lv x d=some m/\vE lv x (x+d) m
 |0=>⟨_,lR hx,cM x (bY _) (bY _)<|lR hx,λc l h1 h2 h3=>by
   obtain rfl:c=x:=Sz h1 h2
   rw[lR hx]at h3;obtain rfl:=aK h3;exact k_ _⟩
 |d+1=>by
  refine aC (Ep hx d) λm h1 aN=>?_;obtain⟨⟨c,h2,h3,h4⟩,h5⟩:=aN;cases h:lo lv (x+(d+1))with
  |none=>
   refine aA m (by(rewrite[jJ];refine rR h1<|rR h ?_);rfl) ⟨cM c h2 (Gf h3) h4,λc' l g1 g2 g3=>?_⟩;by_cases g:c'=x+(d+1)
   ·rw[g,h]at g3;exact nN g3
   ·exact h5 c' l g1 (Gg g2 g) g3
  |some k=>
   refine aA (min m k) (by(rewrite[jJ];refine rR h1<|rR h ?_);rfl) ⟨?_,λc' l g1 g2 g3=>?_⟩
   ·by_cases g:m<=k
    ·exact cM c h2 (Gf h3)<|by exact rR h4<|rR (Int.min_eq_left g) rfl
    ·exact cM (x+(d+1)) SA (bY _)<|by exact rR h<|rR (Int.min_eq_right<|GP g) rfl
   ·by_cases g:c'=x+(d+1)
    ·rw[g,h]at g3;obtain rfl:=aK g3;exact Int.min_le_right _ _
    ·have:=h5 c' l g1 (Gg g2 g) g3;exact Ve this
theorem pH{lv:bj}{x y:Nat}(hx:bH lv x=true)(h:x<=y):vE lv x y (mn lv x y):=by refine aC (Ep hx<|y-x) λm h1 h2=>?_;unfold mn;refine rR h1 ?_;rw[show x+(y-x)=y from uc h]at h2;exact h2
theorem vE.uniq{lv:bj}{x y:Nat}{m k:Int}(h:vE lv x y m)(h':vE lv x y k):m=k:=by
 obtain⟨⟨c,a1,a2,a3⟩,b⟩:=h;obtain⟨⟨d,e1,e2,e3⟩,f⟩:=h';have:=b d k e1 e2 e3;have:=f c m a1 a2 a3
 (first|lia|omega)
def gv(lv:bj)(x y:Nat):Bool:=(decide (x<y)&&decide (mn lv x y %2=0))||(decide (y<x)&&!decide (mn lv y x %2=0))
def n8(lv:bj)(k:Int)(x y:Nat):Bool:=decide (k<=mn lv x y)&&decide ((mn lv x y-k) %2=0)
def Rl(lv:bj)(k:Int)(x y:Nat):Prop:=(x<y/\n8 lv k x y=false)\/(y<x/\n8 lv k y x=true)
noncomputable def turn(aH:Nat->Int)(k:Int):aG->aG->aG
 |[],run=>run.reverse
 |p::r,run=>if k<=aH p then turn aH k r (run++[p])else run.reverse++p::turn aH k r []
theorem zo(aH:Nat->Int)(k:Int):∀(rest run:aG),(turn aH k rest run).Perm<|run++rest
 |[],run=>by rw[turn,pM];exact List.reverse_perm _
 |p::r,run=>by
  unfold turn;split
  ·have:=zo aH k r<|run++[p]
   rwa[List.append_assoc]at this
  ·have:=zo aH k r [];exact(List.reverse_perm run).append<|this.cons p
set_option tactic.hygienic true in
theorem He{aH:Nat->Int}{k:Int}{R R':Nat->Nat->Prop}{pl:Nat->Prop}
  (hbig:∀x y,pl x->pl y->x≠y->(∀c,pl c->min x y<=c->c<=max x y->k<=aH c)->R x y->R' y x)
  (hsm:∀x y,pl x->pl y->x≠y->(∃c,pl c/\min x y<=c/\c<=max x y/\aH c<k)->(R x y->x<y)/\(x<y->R' x y)):
  ∀(rest pre run:aG),(pre++run++rest).Pairwise R->(pre++run++rest).Nodup->(∀c,pl c↔c∈pre++run++rest)->(∀x∈run,k<=aH x)->(turn aH k rest run).Pairwise R':=by
 have rev:∀(rest pre run:aG),(pre++run++rest).Pairwise R->(pre++run++rest).Nodup->(∀c,pl c↔c∈pre++run++rest)->(∀x∈run,k<=aH x)->run.reverse.Pairwise R':=by
  intro rest pre run hR hN hpl j5;rw[List.pairwise_reverse];have sW:=kD.mp hR;have N2:=kD.mp sW.1;have Hk:run.Nodup:=((kD.mp (kD.mp hN).1).2.1)
  refine(N2.2.1.and Hk).imp_of_mem λ{a b} ha hb hab=>?_;refine U1 hab λN3 N4=>?_;have pa:pl a:=(hpl a).mpr<|by simp[ha]
  have pb:pl b:=(hpl b).mpr<|by simp[hb]
  refine hbig a b pa pb N4 (λc hc h1 h2=>?_) N3;refine Decidable.byContradiction λhlt=>?_;have hlt:aH c<k:=GQ hlt;have lab:=(hsm a b pa pb N4<|iq c hc h1 h2 hlt).1 N3;have hca:c≠a:=by rintro rfl;have:=j5 c ha;(first|lia|omega)
  have hcb:c≠b:=by rintro rfl;have:=j5 c hb;(first|lia|omega)
  have hm:=(hpl c).mp hc;rw[dR,dR]at hm;rcases hm with(hm|hm)|hm
  ·have:=(hsm c a hc pa hca<|iq c hc Gh Gi hlt).1 (N2.2.2 c hm a ha)
   (first|lia|omega)
  ·have:=j5 c hm;(first|lia|omega)
  ·have:=(hsm b c pb hc (Ne.symm hcb)<|iq c hc Gj Gk hlt).1 (sW.2.2 b (by simp[hb]) c hm)
   (first|lia|omega)
 intro rest
 induction rest with
 |nil=>intro pre run hR hN hpl j5;exact rev [] pre run hR hN hpl j5
 |cons p r ih=>
  intro pre run hR hN hpl j5;have sW:=kD.mp hR;have zp:=kD.mp hN;have pp:pl p:=(hpl p).mpr<|by simp
  unfold turn;split
  ·rename_i hk;have e:pre++(run++[p])++r=pre++run++p::r:=by simp
   refine ih pre (run++[p]) (by refine rR e ?_;exact hR) (by refine rR e ?_;exact hN) (by refine rR e ?_;exact hpl) λx hx=>?_;rcases dR.mp hx with hx|hx
   ·exact j5 x hx
   ·refine rR (dO.mp hx) ?_;exact hk
  ·rename_i hk;have hk:aH p<k:=GQ hk;have e:pre++run++[p]++[]++r=pre++run++p::r:=by simp
   have IH:=ih (pre++run++[p]) [] (by refine rR e ?_;exact hR) (by refine rR e ?_;exact hN) (by refine rR e ?_;exact hpl) λU h=>nomatch h
   have hmem:∀y,y∈turn aH k r []->y∈r:=λy hy=>by have:=(zo aH k r []).mem_iff.mp hy;simpa using this
   have N5:=pP.mp sW.2.1;have hnr:=pP.mp zp.2.1;have py:∀y∈r,pl y:=λy hy=>(hpl y).mpr<|by simp[hy]
   have px:∀x∈run,pl x:=λx hx=>(hpl x).mpr<|by simp[hx]
   have N6:∀y∈r,p<y/\R' p y:=λy hy=>by
    have:=hsm p y pp (py y hy) (hnr.1 y hy)<|iq p pp Gh Gi hk
    have h:=this.1<|N5.1 y hy
    exact⟨h,this.2 h⟩
   have N7:∀x∈run,x<p/\R' x p:=λx hx=>by
    have:=hsm x p (px x hx) pp (zp.2.2 x (by simp[hx]) p<|by simp)<|iq p pp Gj Gk hk
    have h:=this.1<|sW.2.2 x (by simp[hx]) p<|by simp
    exact⟨h,this.2 h⟩
   rw[kD];refine⟨rev (p::r) pre run hR hN hpl j5,pP.mpr ⟨λy hy=>(N6 y<|hmem y hy).2,IH⟩,λx hx y hy=>?_⟩;have hx:x∈run:=by simpa using hx
   clear hR hN hpl sW zp e N5 hnr;rcases eO.mp hy with rfl|hy
   ·exact(N7 x hx).2
   ·have hy:=hmem y hy;have h1:=(N7 x hx).1;have h2:=(N6 y hy).1;exact(hsm x y (px x hx) (py y hy) (SD h1 h2)<|iq p pp (SE h1) (SG h2) hk).2<|SH h1 h2
def dK(lv:bj):aG:=(List.range lv.length).filter<|bH lv
theorem kZ{lv:bj}{x:Nat}:x∈dK lv↔bH lv x=true:=by unfold dK;rw[List.mem_filter,jM];exact⟨λh=>h.2,λh=>⟨ic h,h⟩⟩
theorem zq(lv:bj):(dK lv).Pairwise (·<·):=we _ List.pairwise_lt_range
theorem Er(lv:bj):(dK lv).Nodup:=(zq lv).imp λh=>SI h
structure Ord (lv:bj)(R:Nat->Nat->Prop)(o:aG):Prop where
 pm:o.Perm (dK lv)
 pw:o.Pairwise R
theorem Ord.nodup{lv:bj}{R:Nat->Nat->Prop}{o:aG}(h:Ord lv R o):o.Nodup:=(h.pm.nodup_iff).mpr<|Er lv
theorem Ord.mem{lv:bj}{R:Nat->Nat->Prop}{o:aG}(h:Ord lv R o){x:Nat}:x∈o↔bH lv x=true:=by rw[h.pm.mem_iff,kZ]
theorem N8{lv:bj}{x y c:Nat}{k:Int}(hx:bH lv x=true)(h:x<=y)(hc:bH lv c=true)(h1:x<=c)(h2:c<=y)(hk:dw lv c<k):mn lv x y<k:=by have:=(pH hx h).le c _ h1 h2 (lR hc);exact Vf hk this
theorem N9{lv:bj}{x y:Nat}{k:Int}(hx:bH lv x=true)(h:x<=y)(hall:∀c,bH lv c=true->x<=c->c<=y->k<=dw lv c):k<=mn lv x y:=by
 refine c_ ((pH hx h).at_) λc h1 h2 h3=>?_;have hc:bH lv c=true:=by unfold bH;refine rR h3 ?_;rfl
 have:=hall c hc h1 h2;rw[lR hc]at h3;have:=aK h3
 (first|lia|omega)
theorem Hm{lv:bj}{k:Int}{o:aG}(h:Ord lv (Rl lv<|k+1) o):Ord lv (Rl lv k) (turn (dw lv) k o []):=by
 refine⟨(zo _ _ _ _).trans<|by rw[List.nil_append];exact h.pm,?_⟩;refine He (pl:=λc=>bH lv c=true) (R:=Rl lv<|k+1) (λx y hx hy hne hall hr=>?_) (λx y hx hy hne hex=>?_) o [] [] (by simpa using h.pw) (by simpa using h.nodup) (λc=>by rw[List.nil_append,List.nil_append,h.mem]) λU h=>nomatch h
 ·rcases dm x y with hlt|hge
  ·have hk:=N9 hx (gX hlt) (λc hc h1 h2=>hall c hc (SJ h1) (SK h2):∀c,bH lv c=true->x<=c->c<=y->k<=dw lv c);rcases hr with⟨_,hf⟩|⟨h',_⟩
   ·refine .inr ⟨hlt,?_⟩;unfold n8 at hf⊢;refine rR (di hk) ?_;rewrite[qW,ff];by_cases h1:k+1<=mn lv x y
    ·rw[di h1,qW,decide_eq_false_iff_not]at hf;exact Vg hf
    ·exact Vh hk h1
   ·(first|lia|omega)
  ·have hk:=N9 hy (Gl hge) (λc hc h1 h2=>hall c hc (SM h1) (SN h2):∀c,bH lv c=true->y<=c->c<=x->k<=dw lv c);rcases hr with⟨h',_⟩|⟨h',hf⟩
   ·(first|lia|omega)
   ·refine .inl ⟨h',?_⟩;unfold n8 at hf⊢;rw[cy,ff,ff]at hf;refine rR (di hk) ?_;rewrite[qW,decide_eq_false_iff_not];exact Vi hf
 ·refine zP hex λc hc h1 h2 h3=>?_;rcases dm x y with hlt|hge
  ·refine⟨λU=>hlt,λU=>.inl ⟨hlt,?_⟩⟩;have:=N8 hx (gX hlt) hc (by exact SO h1 hlt:x<=c) (by exact SQ h2 hlt:c<=y) h3;unfold n8;refine rR (dG<|Vj this) ?_;rw[Bool.false_and]
  ·refine⟨λhr=>?_,λh'=>by(first|lia|omega)⟩;have:=N8 hy (Gl hge) hc (by exact SR h1 hge:y<=c) (by exact SS h2 hge:c<=x) h3;rcases hr with⟨h',_⟩|⟨_,hf⟩
   ·exact h'
   ·unfold n8 at hf;rw[dG<|Vk this,Bool.false_and]at hf;exact nB hf
def sX(lv:bj)(hi:Int):Nat->aG
 |0=>dK lv
 |k+1=>turn (dw lv) (hi-k) (sX lv hi k) []
theorem Es{lv:bj}{hi:Int}(h:∀c,bH lv c=true->dw lv c<=hi):∀k:Nat,Ord lv (Rl lv<|hi-k+1)<|sX lv hi k
 |0=>⟨List.Perm.refl _,(zq lv).imp_of_mem λ{x y} hx hy hlt=>.inl ⟨hlt,by
   have hx:=kZ.mp hx;refine c_ ((pH hx (by exact gX hlt:x<=y)).at_) λc h1 h2 h3=>?_;have hc:bH lv c=true:=by unfold bH;refine rR h3 ?_;rfl
   have:=h c hc;rw[lR hc]at h3;have:=aK h3;unfold n8;refine rR (dG<|by(first|lia|omega)) ?_
   rw[Bool.false_and]⟩⟩
 |k+1=>by
  have:=Hm<|Es h k
  refine rR (show hi-((k+1:Nat):Int)+1=hi-k from VT) ?_;exact this
theorem N_{lv:bj}{x y:Nat}(h:gv lv x y=true):gv lv y x=false:=by
 unfold gv at h⊢;rcases q9 x y with h1|h1|h1
 ·rw[di h1,dG (by exact i9 h1:¬y<x)]at h;refine rR (di h1)<|rR (dG (by exact i9 h1:¬y<x)) ?_
  simp at h⊢;exact h
 ·subst h1;simp at h
 ·rw[di h1,dG (by exact i9 h1:¬x<y)]at h;refine rR (di h1)<|rR (dG (by exact i9 h1:¬x<y)) ?_
  simp at h⊢;exact h
theorem zu{lv:bj}{x:Nat}:gv lv x x=false:=by simp[gv]
abbrev eZ(lv:bj)(o:aG):Prop:=Ord lv (λx y=>gv lv x y=true) o
theorem eZ.uniq{lv:bj}{o o':aG}(h:eZ lv o)(h':eZ lv o'):o=o':=by
 refine List.Perm.eq_of_pairwise (λa b U U h1 h2=>?_) h.pw h'.pw<|h.pm.trans h'.pm.symm
 rw[N_ h1]at h2;exact nB h2
theorem Hn{lv:bj}{o:aG}{k:Int}(hk:k %2=1)(hmin:∀c,bH lv c=true->dw lv c %2=1->k<=dw lv c)(h:Ord lv (Rl lv k) o):eZ lv o:=by
 refine⟨h.pm,h.pw.imp_of_mem λ{x y} hx hy hr=>?_⟩;have hx:=h.mem.mp hx;have hy:=h.mem.mp hy;have key:∀{x y},bH lv x=true->x<y->n8 lv k x y=!decide (mn lv x y %2=0):=λ{x y} hx hlt=>by
  refine c_ ((pH hx (by exact gX hlt:x<=y)).at_) λc h1 h2 h3=>?_;have hc:bH lv c=true:=by unfold bH;refine rR h3 ?_;rfl
  have hm:=hmin c hc;rw[lR hc]at h3;have e:=aK h3;rw[e]at hm;unfold n8;rw[Bool.eq_iff_iff];simp only[Bool.and_eq_true,decide_eq_true_eq,Bool.not_eq_true',decide_eq_false_iff_not];constructor
  ·exact Vl hk
  ·intro h';exact⟨hm<|Vm h',Vn hk h'⟩
 unfold gv;rcases hr with⟨h',hf⟩|⟨h',hf⟩
 ·rw[key hx h']at hf;refine rR (di h')<|rR (dG (by exact i9 h':¬y<x)) ?_
  simpa using hf
 ·rw[key hy h']at hf;refine rR (di h')<|rR (dG (by exact i9 h':¬x<y)) ?_
  simpa using hf
theorem HI{lv:bj}(Et:∀c,bH lv c=true->dw lv c %2=0):eZ lv (dK lv):=by
 refine⟨List.Perm.refl _,(zq lv).imp_of_mem λ{x y} hx hy hlt=>?_⟩;have hx:=kZ.mp hx;refine c_ ((pH hx (by exact gX hlt:x<=y)).at_) λc h1 h2 h3=>?_;have hc:bH lv c=true:=by unfold bH;refine rR h3 ?_;rfl
 have:=Et c hc;rw[lR hc]at h3;have e:=aK h3;unfold gv;refine rR (di hlt) (rR (dG (by exact i9 hlt:¬y<x))<|rL e<|rR (di this) ?_);rfl
structure ie (lv:bj):Prop where
 le:lv.length<=20
 bd:∀l,some l∈lv->0<=l/\l<=100
theorem ie.aH{lv:bj}(h:ie lv){c:Nat}(hc:bH lv c=true):0<=dw lv c/\dw lv c<=100:=
 h.bd _ (dY (by exact rR (zk<|ic hc) (rR (lR hc) rfl):lv[c]?=some (some<|dw lv c)))
theorem zv{lv:bj}{c:Nat}(hc:bH lv c=true):(lv.map aD)[c]?=some (.i<|dw lv c):=by refine rR (lQ<|ic hc)<|rR (lR hc) ?_;rfl
theorem zw(lv:bj):(dK lv).length<=lv.length:=by
 have:=List.length_filter_le (bH lv)<|List.range lv.length
 rwa[tL]at this
theorem Ord.len{lv:bj}{R:Nat->Nat->Prop}{o:aG}(h:Ord lv R o):o.length<=lv.length:=by refine rR h.pm.length_eq ?_;exact zw lv
theorem mX{H:ak}{m:Nat}{x y:Option AO}(h:H[m]?=some y):(H.set m x)[m]?=some x:=by have:=cH h;rw[jL this]
theorem Oa{H:ak}{m k:Nat}{x:Option AO}(h:m≠k):(H.set m x)[k]?=H[k]?:=jr h
theorem Eu{Γ:b7}{a:CE}{ae:bf}{H H1:ak}{m:Nat}{l:au}(ha:az Γ a ae H=some (.e m,H1))(h:H1[m]?=some (some<|.l l)):az Γ (.r a) ae H=some (.l l.reverse,H1):=by
 refine rR DN<|rR ha ?_
 simp only[Option.bind_some,fh,h,Option.map_some]
theorem Ew{Γ:b7}{ae:bf}{H:ak}:az Γ (.e []) ae H=some (.e H.length,H++[some<|.l []]):=by refine rR yI<|rR yK ?_;rfl
theorem Ob{H t:ak}{m:Nat}{x:Option AO}(h:H[m]?=some x):(H++t)[m]?=some x:=by rw[iZ<|cH h];exact h
theorem H0(n:Nat){lv:bj}{o:aG}{k:Int}(ho:o.length<=100)(hpl:∀x∈o,bH lv x=true)(H:ak):
  gam (n+1) "" "line_turned" [.l<|o.map aE,.l<|lv.map aD,.i k] H=some (.l<|(turn (dw lv) k o []).map aE,H):=by
 refine dX (ir:=Io) (vs:=[.l<|o.map aE,.l<|lv.map aD,.i k]) (by kernel_rfl) rfl rfl rfl (by simp only[List.all_cons,List.all_nil,Bool.and_true,kY,(ints_of o).fz,Bool.true_and];rfl) ?_;show Ok (aF (gam n) Br [some<|.l<|o.map aE,some<|.l<|lv.map aD,some<|.i k,none,none,none] []) _;unfold Br;refine aZ (v:=.e 0) (H1:=[some<|.l []]) rfl ?_;refine aZ (v:=.e 1) (H1:=[some<|.l [],some<|.l []]) rfl ?_
 refine gr (H':=[some<|.l [],some<|.l []]) (vs:=[.l<|o.map aE]) (items:=o.map aE) (λi ae H=>∃(eN run:aG)(r:Nat)(o5:bR),eN++turn (dw lv) k (o.drop i) run=turn (dw lv) k o []/\eN.length+run.length<=i/\i<=o.length/\0<r/\
   ae=[some<|.l<|o.map aE,some<|.l<|lv.map aD,some<|.i k,some<|.e 0,some<|.e r,o5]/\H[0]?=some (cV eN)/\H[r]?=some (cV run))
  rfl fF (wB [] [] 1 none rfl (bY _) (iF _) (by decide) rfl rfl rfl) (λi x ae H hx hI=>?_) (λae H hI=>?_)
 ·(refine Fb hI λeN run r o5 h1 h2 h3 h4 aQ h5 h6=>?_;clear hI;subst aQ)
  rw[cQ]at hx;refine aC (gV.mp hx) λp hp aR=>?_;clear hx;subst aR;have hi:=cH hp;have H5:o.drop i=p::o.drop (i+1):=by refine rR (tG hi) ?_;rw[eE hi]at hp;exact rR (aK hp) rfl
  have hpp:=hpl p<|dY hp
  rw[H5,turn]at h1;refine aA _ rfl ?_;refine bU (c:=decide<|k<=dw lv p) (H':=H) (bu (p:=.i<|dw lv p) (q:=.i k) (e_idx (p:=.l<|lv.map aD) (q:=.i p) rfl rfl<|dB<|zv hpp) rfl rfl) (λhc=>?_) λhc=>?_
  ·rw[bw<|cG hc]at h1;refine eW (m:=r) (l1:=run.map aE) (l2:=run.map aE) (v:=aE p) (H1:=H) (H2:=H) rfl h6 rfl h6 (by simp;exact SV ho h2 hi)<|cu ?_
   refine rR (show some (AO.l<|run.map aE++[aE p])=cV (run++[p]) by simp[cV]) ?_;exact wB eN (run++[p]) r _ h1 (by simp;exact Gm h2) (ua hi) h4 rfl (by refine rR (Oa<|SW h4) ?_;exact h5) (mX h6)
  ·rw[bO<|lW hc]at h1;refine sP (m:=0) (l1:=eN.map aE) (l2:=eN.map aE) (v:=.l<|run.reverse.map aE) (r:=run.reverse.map aE) (H1:=H) (H2:=H) rfl h5 (by exact rR (Eu (m:=r) (l:=run.map aE) (H1:=H) rfl h6)<|rR tM rfl) h5 rfl (by simp;exact Gn ho h2 hi) ?_;rw[D9];have g5:(H.set 0<|cV<|eN++run.reverse)[0]?=some (cV<|eN++run.reverse):=mX h5;refine eW (m:=0) (l1:=(eN++run.reverse).map aE) (l2:=(eN++run.reverse).map aE) (v:=aE p) (H1:=H.set 0<|cV<|eN++run.reverse) (H2:=H.set 0<|cV<|eN++run.reverse) rfl g5 rfl g5 (by simp;exact Gn ho h2 hi) ?_;refine rR (show some (AO.l<|(eN++run.reverse).map aE++[aE p])=cV (eN++run.reverse++[p]) by simp[cV]) ?_;generalize Id:(H.set 0<|cV<|eN++run.reverse).set 0 (cV<|eN++run.reverse++[p])=H2;have g6:H2[0]?=some (cV<|eN++run.reverse++[p]):=by refine rL Id ?_;exact mX g5
   refine aZ (v:=.e H2.length) (H1:=H2++[some<|.l []]) Ew<|cu ?_
   refine wB (eN++run.reverse++[p]) [] H2.length _ ?_ (by simp;exact Gm h2) (ua hi) ?_ rfl (Ob g6) ?_
   ·refine rL h1 ?_;simp
   ·have:=cH g6;exact Gp this
   ·rw[ku<|bY _,pT];rfl
 ·(refine Fb hI λeN run r o5 h1 h2 h3 h4 aT h5 h6=>?_;clear hI;subst aT)
  rw[bI]at h1;rw[List.drop_length,turn]at h1;rw[bI]at h2;refine sP (m:=0) (l1:=eN.map aE) (l2:=eN.map aE) (v:=.l<|run.reverse.map aE) (r:=run.reverse.map aE) (H1:=H) (H2:=H) rfl h5 (by exact rR (Eu (m:=r) (l:=run.map aE) (H1:=H) rfl h6)<|rR tM rfl) h5 rfl (by simp;exact SX ho h2) ?_;rewrite[D9];refine rR h1 ?_;exact bX (v:=.e 0) rfl<|gu (mX h5) (ints_of _).b8
theorem pI{Γ:b7}{ae:bf}{H H1:ak}{e c:CE}{nm:String}{k:IK}{bZ:List CE}{vs l:au}{f:PV->PV}{t:PV->Bool}(hb:cX Γ bZ ae H=some (vs,H1))(hi:fb k vs=some l)
  (hc:∀x∈l,az Γ c (ae++[some x]) H1=some (.b<|t x,H1))(he:∀x∈l,t x=true->az Γ e (ae++[some x]) H1=some (f x,H1)):
  az Γ (.D e false [nm] k bZ [c]) ae H=some (.l<|(l.filter t).map f,H1):=by
 refine rR sJ<|rR hb ?_
 simp only[Option.bind_some];refine rR hi ?_;simp only[Option.bind_some];rw[DJ (f:=λx=>if t x then some (f x)else none) λx hx=>?_]
 ·simp only[Option.map_some];congr 3;clear hb hi hc he
  induction l with
  |nil=>rfl
  |cons a l ih=>
   refine rR lg<|rR q3 ?_
   cases t a
   ·simpa using ih
   ·simpa using ih
 ·simp only[iK,Bool.false_eq_true,if_false,Option.bind_some];refine rR hU<|rR (hc x hx) ?_
  simp only[Option.bind_some,fZ];cases h:t x with
  |false=>simp only[Bool.false_eq_true,if_false,Option.bind_some,fZ]
  |true=>
   simp only[if_true,nR,Option.bind_some,fZ];refine rR (he x hx h) ?_;rfl
theorem Ex(n:Nat):fk 0 (n:Int)=(List.range n).map aE:=by unfold fk;rw[Int.sub_zero,Int.toNat_natCast];refine m9 λi U=>?_;rw[Int.zero_add];rfl
theorem zx{l:aG}{t:PV->Bool}{p:Nat->Bool}(h:∀x∈l,t (aE x)=p x):(l.map aE).filter t=(l.filter p).map aE:=by refine rR List.filter_map ?_;congr 1;exact List.filter_congr λx hx=>h x hx
theorem Oc{Γ:b7}{ae:bf}{H:ak}{lv:bj}{a:CE}{j:Nat}{nm:String}(gJ:lv.length<=20)(ha0:az Γ a ae H=some (.l<|lv.map aD,H))(ha:∀x,az Γ a (ae++[some x]) H=some (.l<|lv.map aD,H))(hj:∀x,az Γ (.v j) (ae++[some x]) H=some (x,H)):
  az Γ (.D (.v j) false [nm] .r [.k .l [a]] [.m .t (.d a<|.v j)<|.c .n]) ae H=some (.l<|(dK lv).map aE,H):=by
 have hl:cX Γ [.k .l [a]] ae H=some ([.i lv.length],H):=aJ (by
  refine rR lM<|rR (aJ ha0 bA) ?_
  show some (PV.i (lv.map aD).length,H)=_
  rw[bI]) bA
 rw[pI (f:=id) (t:=λx=>match x with|.i i=>bH lv i.toNat|_=>false) hl (yS jx<|Ad gJ) (λx hx=>?_) λx hx U=>hj x]
 ·(rewrite[Ex,List.map_id];refine rR (zx (p:=bH lv) λx U=>by simp[aE]) ?_)
  rfl
 ·rw[Ex]at hx;refine aC (bV.mp hx) λi hi aL=>?_;clear hx;subst aL;rw[jM]at hi;exact bu (e_idx (ha _) (hj _)<|dB<|lQ hi) cL<|qG _
theorem Ey:∀(l:bk),intsOf (l.map .i)=some l
 |[]=>rfl
 |a::l=>by(refine rR fK ?_;rewrite[intsOf];refine rR (Ey l) ?_);rfl
theorem vF{H:ak}{l:bk}(h:l.length<64):jS H .o [.l<|l.map .i]=some (.l<|(sortedZ l).map .i,H):=by show(some<|l.map PV.i).bind (λl=>(intsOf l).bind λns=>if ns.length<64 then some (PV.l<|(sortedZ ns).map .i,H)else none)=_;simp only[Option.bind_some,Ey,h,if_true]
theorem qN(l:bk):(sortedZ l).Perm l:=List.mergeSort_perm _ _
theorem Ez(l:bk):(sortedZ l).Pairwise (·<=·):=by
 have:=List.pairwise_mergeSort (le:=λ(a b:Int)=>decide<|a<=b) (λa b c h1 h2=>by
  rw[ff]at h1 h2⊢;exact Vo h1 h2) (λa b=>by
  rw[Bool.or_eq_true,ff,ff];exact GC) l
 exact this.imp λh=>cG h
theorem Od{l s:bk}(hp:s.Perm l)(hs:s.Pairwise (·<=·)):sortedZ l=s:=
 List.Perm.eq_of_pairwise (λa b U U (h1:a<=b) (h2:b<=a)=>GD h1 h2) (Ez l) hs ((qN l).trans hp.symm)
theorem EA{n:Nat}(i:Int):simple n (.i i)=true:=by induction n using gD<;>rfl
theorem Oe{H:ak}{l:au}(h:dJ l):cE H .n (.l l) (.l [])=some (!l.isEmpty):=by
 have e:simple 4 (.l l)=true:=by show l.all (simple 3)=true;rw[gj];intro x hx;refine X1 (h x hx) λi aM=>?_;clear hx;subst aM;rfl
 show(if(_||(simple 4 (.l l)&&_))=true then some (!fj (.l l) (.l []))else none)=_;refine rR e ?_;clear h e
 induction l using b9<;>rfl
theorem Of:∀{l:bk}{m:Int},l.Pairwise (·<=·)->l.getLast?=some m->∀x∈l,x<=m
 |l,m,h,hl,x,hx=>by
  refine X1 (wh.mp hl) λt aP=>?_;clear hl;subst aP;rcases dR.mp hx with hx|hx
  ·exact(kD.mp h).2.2 x hx m<|by simp
  ·refine rR (dO.mp hx) ?_;exact k_ _
theorem Og(n:Nat){lv:bj}(hS:ie lv):∃o,eZ lv o/\∀H,gam (n+2) "" "reordered" [.l<|lv.map aD] H=some (.l<|o.map aE,H):=by
 have main:Ok (aF (gam<|n+1) Bs [some<|.l<|lv.map aD,none,none,none,none] []) (λr=>∃o,b8 6 r.2.2 (fX r.1)=some (.l<|o.map aE)/\eZ lv o):=by
  have hle:=hS.le;have hpl:=zw lv;unfold Bs;refine aZ (v:=.l<|(dK lv).map aE) (H1:=[]) (Oc hle rfl (λx=>by simp only[List.cons_append,List.nil_append];(try simp only[wl,bx,reduceIte];try rfl)) λx=>by simp only[List.cons_append,List.nil_append];(try simp only[wl,bx,reduceIte];try rfl)) ?_;generalize EB:sortedZ ((dK lv).map<|dw lv)=th;have vG:∀x,x∈th↔∃c,bH lv c=true/\dw lv c=x:=λx=>by refine rL EB ?_;rewrite[(qN _).mem_iff,bV];exact⟨λ⟨c,h1,h2⟩=>aA c (kZ.mp h1) h2,λ⟨c,h1,h2⟩=>aA c (kZ.mpr h1) h2⟩
  have EC:th.Pairwise (·<=·):=by refine rL EB ?_;exact Ez _
  refine aZ (v:=.l<|th.map .i) (H1:=[]) (by
   rw[lM,aJ (nZ (l:=(dK lv).map aE) (f:=λx=>match x with|.i i=>.i (dw lv i.toNat)|x=>x) (H1:=[]) rfl λx hx=>?_) bA]
   ·simp only[Option.bind_some]
    rw[show((dK lv).map aE).map (λx=>match x with|.i i=>.i (dw lv i.toNat)|x=>x)=((dK lv).map<|dw lv).map PV.i by
     refine rR i6<|rR i6 ?_;refine m9 λi U=>?_;simp[aE],vF<|by rw[bI];exact SY hle hpl,EB]
   ·(refine aC (bV.mp hx) λi hi aN=>?_;clear hx;subst aN)
    have:=kZ.mp hi;refine e_idx (p:=.l<|lv.map aD) (q:=.i i) (by simp only[List.set_cons_succ,List.set_cons_zero,List.cons_append,List.nil_append];(try simp only[wl,bx,reduceIte];try rfl)) (by simp only[List.set_cons_succ,List.set_cons_zero,List.cons_append,List.nil_append];(try simp only[wl,bx,reduceIte];try rfl)) ?_;simp only[aE,Int.toNat_natCast]
    exact dB<|zv this) ?_
  refine aZ (v:=.l<|(th.filter λx=>decide<|x %2=1).map .i) (H1:=[]) (by
   rw[pI (f:=id) (t:=λx=>match x with|.i i=>decide (i %2=1)|_=>false) (vs:=[.l<|th.map .i]) (H1:=[]) (aJ rfl bA) fF (λx hx=>?_) λx hx U=>?_]
   ·(rewrite[List.map_id];refine rR List.filter_map ?_);rfl
   ·(refine aC (bV.mp hx) λi hi aQ=>?_;clear hx;subst aQ)
    simp only[List.set_cons_succ,List.set_cons_zero,List.cons_append,List.nil_append]
    (try simp only[wl,bx,reduceIte];try rfl)
   ·simp only[List.set_cons_succ,List.set_cons_zero,List.cons_append,List.nil_append]
    (try simp only[wl,bx,reduceIte];try rfl)) ?_
  have hint:dJ ((th.filter λx=>decide<|x %2=1).map .i):=λx hx=>by(refine aC (bV.mp hx) λi U aR=>?_;clear hx;subst aR);exact⟨i,rfl⟩
  refine bU (c:=!((th.filter λx=>decide<|x %2=1).map PV.i).isEmpty) (H':=[]) (bu (p:=.l<|(th.filter λx=>decide<|x %2=1).map .i) (q:=.l []) rfl rfl<|Oe hint) (λhc=>?_) λhc=>?_
  ·cases hod:th.filter λx=>decide (x %2=1)with
   |nil=>rw[hod]at hc;exact nB hc
   |cons k od=>
    have It:(k::od).Pairwise (·<=·):=by refine rL hod ?_;exact we _ EC
    have Oh:∀x,x∈k::od↔x∈th/\x %2=1:=λx=>by(refine rL hod ?_;rw[List.mem_filter,ff])
    have hk:=(Oh k).mp cR;have hmin:∀c,bH lv c=true->dw lv c %2=1->k<=dw lv c:=λc h1 h2=>by
     have:=(Oh<|dw lv c).mpr ⟨(vG _).mpr<|aA c h1 rfl,h2⟩;rcases eO.mp this with h|h
     ·exact Vp h
     ·exact(pP.mp It).1 _ h
    obtain⟨hi,hhi⟩:∃hi,th.getLast?=some hi:=by
     induction th using b9 with
     |nil=>cases hk.1
     |cons a t=>exact⟨_,wg<|by simp⟩
    have Oi:∀c,bH lv c=true->dw lv c<=hi:=λc h=>Of EC hhi _ ((vG _).mpr<|aA c h rfl);have Oj:k<=hi:=Of EC hhi _ hk.1;refine aC ((vG k).mp hk.1) λck Ix Iy=>?_;refine aC ((vG hi).mp<|q6<|by refine rR hhi ?_;rfl) λch IN ED=>?_;have b1:=hS.aH Ix;have b2:=hS.aH IN;refine gr (H':=[]) (vs:=[.i hi,.i<|k-1,.i<|-1]) (items:=kK hi<|k-1) (λi ae H=>∃o4,ae=[some<|.l<|lv.map aD,some<|.l<|(sX lv hi i).map aE,some<|.l<|th.map .i,some<|.l<|(k::od).map .i,o4]/\H=[])
     (aJ (e_idx (p:=.l<|th.map .i) (q:=.i<|-1) rfl rfl<|DP<|by rw[List.getLast?_map,hhi];rfl)<|aJ (dD (p:=.i k) (q:=.i 1) (e_idx (p:=.l<|(k::od).map .i) (q:=.i 0) rfl rfl u9) rfl rfl)<|aJ rfl bA)
     (MR (Vq ED b2) (Vr ED b2) (Vs Iy b1)<|Vt Oj ED b2) (aA none rfl rfl) (λi x ae H hx hI=>?_) (λae H hI=>?_)
    ·(refine aC hI λo4 aT aL=>?_;clear hI;subst aT;subst aL)
     refine U1 (MS hx) λaM hlt=>?_;clear hx;subst aM;have O:=Es Oi i;have jn:=O.len;refine aA _ rfl ?_;exact aZ (v:=.l<|(sX lv hi<|i+1).map aE) (H1:=[]) (bP (vs:=[.l<|(sX lv hi i).map aE,.l<|lv.map aD,.i<|hi-i]) rfl<|H0 n (Gq hle jn) (λx hx=>O.mem.mp hx) _)<|cu<|aA _ rfl rfl
    ·(refine aC hI λo4 aP aN=>?_;subst aP;clear hI;subst aN)
     have O:=Es Oi (hi-(k-1)).toNat;rw[MT,show hi-((hi-(k-1)).toNat:Int)+1=k from Vu Oj]at*;exact bX (v:=.l<|(sX lv hi (hi-(k-1)).toNat).map aE) rfl<|aA _ (jg λx hx=>dj<|.inr<|.inr<|.inl<|ints_of _ x hx) (Hn hk.2 hmin O)
  ·refine bX (v:=.l<|(dK lv).map aE) (H':=[]) rfl<|aA _ (jg λx hx=>dj<|.inr<|.inr<|.inl<|ints_of _ x hx) (HI λc h=>?_)
   have h1:th.filter (λx=>decide<|x %2=1)=[]:=by simpa using hc
   have h2:=List.filter_eq_nil_iff.mp h1 (dw lv c)<|(vG _).mpr<|aA c h rfl
   rw[ff]at h2;exact Vv h2
 refine ni main λr e o hv ho=>?_;exact aA o ho λH=>dX (n:=n+1) (ir:=Ip) (vs:=[.l<|lv.map aD]) (by kernel_rfl) rfl rfl rfl (by simp only[List.all_cons,List.all_nil,Bool.and_true,kY])<|aA r e hv
theorem zy(n:Nat){lv:bj}{o:aG}(hS:ie lv)(ho:eZ lv o)(H:ak):gam (n+2) "" "reordered" [.l<|lv.map aD] H=some (.l<|o.map aE,H):=by refine aC (Og n hS) λo' h1 h2=>?_;refine rR (ho.uniq h1) ?_;exact h2 H
theorem Ol{lv:bj}(hS:ie lv):∃o,eZ lv o:=let ⟨o,h,_⟩:=Og 0 hS;⟨o,h⟩
theorem Om:∀(l:bk)(a:Int),(l.foldl min a∈a::l)/\∀x∈a::l,l.foldl min a<=x
 |[],a=>⟨cR,λx h=>by refine rR (dO.mp h) ?_;exact k_ _⟩
 |b::l,a=>by
  refine U1 (Om l<|min a b) λh1 h2=>?_;refine rR pN ?_;refine⟨?_,λx hx=>?_⟩
  ·rcases eO.mp h1 with h|h
   ·refine rR h ?_;by_cases g:a<=b
    ·refine rR (Int.min_eq_left g) ?_;exact cR
    ·refine rR (Int.min_eq_right<|GP g) ?_;exact dh _ cR
   ·exact dh _ (dh _ h)
  ·have h3:=h2 (min a b) cR;clear h1;rcases eO.mp hx with rfl|hx
   ·exact GH h3
   ·rcases eO.mp hx with rfl|hx
    ·exact GI h3
    ·exact h2 x<|dh _ hx
theorem IO{H:ak}{l:bk}{m:Int}(h1:m∈l)(h2:∀x∈l,m<=x):jS H .m [.l<|l.map .i]=some (.i m,H):=by
 induction l using b9 with
 |nil=>cases h1
 |cons a l=>
  refine U1 (Om l a) λh3 h4=>?_;have e:l.foldl min a=m:=by
   have:=h4 m h1;have:=h2 _ h3
   (first|lia|omega)
  show(intsOf<|(a::l).map PV.i).bind _=_;rw[Ey];show some (PV.i<|l.foldl min a,H)=_;exact rR e rfl
noncomputable def mY:PV->Bool
 |.n=>false
 |_=>true
noncomputable def sY(lv:bj)(x y:Nat):bj:=(lv.take<|y+1).drop x
theorem Oo{lv:bj}{x y:Nat}{l:Int}:l∈(sY lv x y).filterMap id↔∃c,x<=c/\c<=y/\lo lv c=some l:=by
 rw[List.mem_filterMap];constructor
 ·rintro⟨o,ho,h⟩;obtain rfl:o=some l:=h;refine X1 (kA ho) λi hi=>?_;unfold sY at hi;rw[List.getElem?_drop]at hi;have hlt:=cH hi;rw[gU]at hlt;rw[tJ<|S1 hlt]at hi;refine cM (x+i) wR (S3 hlt) ?_;rw[lo,fV,hi];rfl
 ·rintro⟨c,h1,h2,h3⟩;have hc:c<lv.length:=ic<|by unfold bH;refine rR h3 ?_;rfl
  refine aA (some l) (dY (i:=c-x) ?_) rfl;unfold sY;rw[List.getElem?_drop,show x+(c-x)=c from uc h1,tJ<|S4 h2,zk hc,h3]
theorem EE:∀(l:bj),(l.map aD).filter mY=(l.filterMap id).map .i
 |[]=>rfl
 |none::l=>by refine rR fK (rR q3<|rR (show mY (aD none)=false from rfl)<|rR (bO<|by decide)<|rR (EE l) ?_);rfl
 |some a::l=>by refine rR fK<|rR q3<|rR (show mY (aD<|some a)=true from rfl)<|rR (bw rfl)<|rR (EE l) ?_;rfl
theorem Oq(n:Nat){lv:bj}{x y:Nat}(hle:lv.length<=20)(hx:bH lv x=true)(hxy:x<=y)(hy:y<lv.length)(H:ak):gam (n+1) "" "_law_is_kept" [.l<|lv.map aD,.i x,.i y] H=some (.b<|decide<|mn lv x y %2=0,H):=by
 refine dX (ir:=IJ) (vs:=[.l<|lv.map aD,.i x,.i y]) (by kernel_rfl) rfl rfl rfl (by simp only[List.all_cons,List.all_nil,Bool.and_true,kY,Bool.true_and];rfl) ?_;show Ok (aF (gam n) BI [some<|.l<|lv.map aD,some<|.i x,some<|.i y] []) _;unfold BI;have hM:=pH hx hxy;have sZ:ja [] (.l<|lv.map aD) (.i x) (.i ((y+1:Nat):Int))=some (.l<|(sY lv x y).map aD):=by refine rR (vC (S5 hle hxy hy) (S6 hle hy) (by simp;exact ua hy)<|l8 hxy) ?_;rewrite[sY];exact rR List.map_drop<|rR List.map_take rfl
 refine bX (v:=.b<|decide<|mn lv x y %2=0) (H':=[]) (bu (p:=.i<|mn lv x y %2) (q:=.i 0) (dD (p:=.i<|mn lv x y) (q:=.i 2) (?_) rfl rfl) rfl rfl) rfl;rw[lM,aJ (pI (f:=id) (t:=mY) (vs:=[.l<|(sY lv x y).map aD]) (H1:=[]) (aJ (pF (p:=.l<|lv.map aD) (q:=.i x) (r:=.i ((y+1:Nat):Int)) (H1:=[]) (H2:=[]) rfl rfl rfl sZ) bA) fF (λz hz=>?_) λz hz U=>?_) bA]
 ·simp only[Option.bind_some];rw[List.map_id,EE,IO (m:=mn lv x y)]
  ·rw[Oo];exact hM.at_
  ·intro z hz;rw[Oo]at hz;refine c_ hz λc h1 h2 h3=>?_;exact hM.le c z h1 h2 h3
 ·(refine aC (bV.mp hz) λo U aQ=>?_;clear hz;subst aQ)
  simp only[List.cons_append,List.nil_append];exact bu (p:=aD o) (q:=.n) rfl rfl<|by induction o using e9<;>rfl
 ·simp only[List.cons_append,List.nil_append]
  (try simp only[wl,bx,reduceIte];try rfl)
theorem e_len{Γ:b7}{a:CE}{ae:bf}{H H1:ak}{l:au}(ha:az Γ a ae H=some (.l l,H1)):az Γ (.k .l [a]) ae H=some (.i l.length,H1):=by refine rR lM<|rR (aJ ha bA) ?_;rfl
theorem Ot{Γ:b7}{ae:bf}{H H1:ak}{e c:CE}{tp:Bool}{tn:aY}{k:IK}{bZ:List CE}{vs l:au}{f:PV->PV}{t:PV->Bool}{own:PV->bf}(hb:cX Γ bZ ae H=some (vs,H1))(hi:fb k vs=some l)
  (ho:∀x∈l,iK tp tn.length x=some (own x))(hc:∀x∈l,az Γ c (ae++own x) H1=some (.b<|t x,H1))(he:∀x∈l,t x=true->az Γ e (ae++own x) H1=some (f x,H1)):
  az Γ (.D e tp tn k bZ [c]) ae H=some (.l<|(l.filter t).map f,H1):=by
 refine rR sJ<|rR hb ?_
 simp only[Option.bind_some];refine rR hi ?_;simp only[Option.bind_some];rw[DJ (f:=λx=>if t x then some (f x)else none) λx hx=>?_]
 ·simp only[Option.map_some];congr 3;clear hb hi hc he ho
  induction l with
  |nil=>rfl
  |cons a l ih=>
   refine rR lg<|rR q3 ?_
   cases t a
   ·simpa using ih
   ·simpa using ih
 ·refine rR (ho x hx) ?_;simp only[Option.bind_some];refine rR hU<|rR (hc x hx) ?_
  simp only[Option.bind_some,fZ];cases h:t x with
  |false=>simp only[Bool.false_eq_true,if_false,Option.bind_some,fZ]
  |true=>
   simp only[if_true,nR,Option.bind_some,fZ];refine rR (he x hx h) ?_;rfl
theorem I'{Γ:b7}{ae:bf}{H H1:ak}{e:CE}{tp:Bool}{tn:aY}{k:IK}{bZ:List CE}{vs l:au}{f:PV->PV}{own:PV->bf}(hb:cX Γ bZ ae H=some (vs,H1))(hi:fb k vs=some l)
  (ho:∀x∈l,iK tp tn.length x=some (own x))(he:∀x∈l,az Γ e (ae++own x) H1=some (f x,H1)):
  az Γ (.D e tp tn k bZ []) ae H=some (.l<|l.map f,H1):=by
 refine rR sJ<|rR hb ?_
 simp only[Option.bind_some];refine rR hi ?_;simp only[Option.bind_some];rw[comp_map (f:=f) λx hx=>?_]
 ·rfl
 ·refine rR (ho x hx) ?_;simp only[Option.bind_some];refine rR nR ?_;simp only[Option.bind_some,fZ,if_true];refine rR (he x hx) ?_;rfl
theorem EF{l:au}{f:Nat->PV}(h:∀i,i<l.length->l[i]?=some (f i)):dU l=(List.range l.length).map λ(i:Nat)=>.t [.i i,f i]:=by refine ext_get (by simp[dU]) λi hi=>?_;rw[mP]at hi;unfold dU;rw[cQ,List.getElem?_zipIdx,h i hi,cQ,lU hi];simp
theorem EG(lv:bj):dU (lv.map aD)=(List.range lv.length).map λ(i:Nat)=>.t [.i i,aD<|lo lv i]:=by refine rR (EF (f:=λi=>aD<|lo lv i) λi hi=>lQ<|by rwa[bI]at hi) ?_;rw[bI]
noncomputable def vH:PV->PV
 |.t [a,_]=>a
 |x=>x
noncomputable def EH:PV->PV
 |.t [_,b]=>b
 |x=>x
def vI(x:PV):bf:=[some<|vH x,some<|EH x]
theorem Jn{lv:bj}{o:aG}(h:eZ lv o){k x:Nat}(hk:o[k]?=some x):o.countP (λy=>gv lv y x)=k:=by
 have hlt:=cH hk;have e:o=o.take k++x::o.drop (k+1):=by
  rw[eE hlt]at hk;refine rL (aK hk)<|rL (tG hlt) ?_
  rw[q7]
 have hp:=h.pw;generalize ha:o.take k=a at e;generalize hb:o.drop (k+1)=b at e;have hal:a.length=k:=by refine rL ha<|rR gU ?_;exact S7 hlt
 rw[e]at hp⊢;have h1:=kD.mp hp;have h2:=pP.mp h1.2.1;refine rR List.countP_append<|rR tF<|rR zu<|rR (bO<|by decide)<|rR (List.countP_eq_length.mpr λy hy=>h1.2.2 y hy x cR)<|rR (List.countP_eq_zero.mpr λy hy=>by rw[N_<|h2.1 y hy];decide) ?_
 exact S8 hal
theorem Ou{p q:Nat->Bool}:∀{l:aG},(∀x∈l,¬(p x=true/\q x=true))->(l.filter p).length+(l.filter q).length=l.countP λx=>p x||q x
 |[],_=>rfl
 |a::l,h=>by
  have ih:=Ou (l:=l) λx hx=>h x<|dh _ hx
  have ha:=h a cR;refine rR q3<|rR q3<|rR tF<|rL ih ?_
  cases hp:p a<;>cases hq:q a
  ·simp
  ·simp;exact S9
  ·simp;exact S_
  ·exact absurd ⟨hp,hq⟩ ha
theorem Ov{Γ:b7}{a:CE}{ae:bf}{H H1:ak}{k:Nat}(ha:az Γ a ae H=some (.i k,H1))(hk:k<=1000):az Γ (.z a) ae H=some (.e H1.length,H1++[some<|.l<|List.replicate k .n]):=by show((az Γ a ae H).bind λx=>gS x.1 λk=>if 0<=k/\k<=2^20 then some (jR x.2<|.l<|List.replicate k.toNat .n)else none)=_;refine rR ha ?_;exact(bw ⟨iY k,Tc hk⟩).trans rfl
def ki(o done:aG):au:=o.map λx=>if x∈done then aE x else .n
set_option tactic.hygienic true in
theorem Kb{o done:aG}{k x:Nat}(hn:o.Nodup)(hk:o[k]?=some x):(ki o done).set k (aE x)=ki o (done++[x]):=by
 have hlt:=cH hk;refine ext_get (by simp[ki]) λj hj=>?_;simp only[ki,List.length_set,List.length_map]at hj;refine X1 (h_ hj) λy hy=>?_;rw[List.getElem?_set];unfold ki;rw[bI,cQ,cQ,hy];simp only[Option.map_some];split
 ·rename_i e;clear hj;subst e;rw[hk]at hy;obtain rfl:=aK hy;exact rR (bw<|by simp) rfl
 ·rename_i e;have:y≠x:=by rintro rfl;exact e<|(tH hlt hn).mp<|by exact rR hk<|rR hy rfl
  congr 1;by_cases hm:y∈done
  ·exact rR (bw hm)<|rR (bw<|by simp[hm]) rfl
  ·exact rR (bO hm)<|rR (bO<|by simp[hm,this]) rfl
theorem Ki(n:Nat){lv:bj}{o:aG}(hS:ie lv)(ho:eZ lv o)(H:ak):gam (n+2) "" "_law_order" [.l<|lv.map aD] H=some (.l<|o.map aE,H):=by
 refine dX (n:=n+1) (ir:=IL) (vs:=[.l<|lv.map aD]) (by kernel_rfl) rfl rfl rfl (by simp only[List.all_cons,List.all_nil,Bool.and_true,kY]) ?_;show Ok (aF (gam<|n+1) BJ [some<|.l<|lv.map aD,none,none,none,none] []) _;have hle:=hS.le;have hpl:=zw lv;have jn:=ho.pm.length_eq;unfold BJ
 refine aZ (v:=.l<|(dK lv).map aE) (H1:=[]) (by
  rw[Ot (f:=vH) (t:=λx=>mY<|EH x) (own:=vI) (vs:=[.l<|lv.map aD]) (H1:=[]) (aJ rfl bA) ji (λx hx=>?_) (λx hx=>?_) λx hx U=>?_]
  ·(rewrite[EG];refine rR List.filter_map<|rR i6 ?_)
   unfold dK;refine congrArg (λz=>some (PV.l z,([]:ak))) ?_;rw[List.filter_congr (q:=bH lv)]
   ·refine m9 λi U=>rfl
   ·intro i U;show mY (aD<|lo lv i)=(lo lv i).isSome;cases lo lv i<;>rfl
  ·rw[EG]at hx;refine aC (bV.mp hx) λi U aR=>?_;clear hx;subst aR;rfl
  ·rw[EG]at hx;refine aC (bV.mp hx) λi U aT=>?_;clear hx;subst aT;simp only[vI,vH,EH,List.cons_append,List.nil_append];exact bu (p:=aD<|lo lv i) (q:=.n) rfl rfl<|by cases lo lv i<;>rfl
  ·simp only[vI,List.cons_append,List.nil_append]
   (try simp only[wl,bx,reduceIte];try rfl)) ?_
 refine aZ (v:=.e 0) (H1:=[some<|.l<|ki o []]) (by
  refine rR (Ov (k:=(dK lv).length) (H1:=[]) (by(try simp only[wl,bx,reduceIte];try rfl);simp)<|wU hle hpl) ?_;congr 4;show[some<|AO.l<|List.replicate _ PV.n]=_;congr 2;refine rL jn ?_;unfold ki
  simp[List.map_const']) ?_
 refine gr (H':=[some<|.l<|ki o []]) (vs:=[.l<|(dK lv).map aE]) (items:=(dK lv).map aE) (λi ae H=>∃o3 o4,ae=[some<|.l<|lv.map aD,some<|.l<|(dK lv).map aE,some<|.e 0,o3,o4]/\H=[some<|.l<|ki o<|(dK lv).take i])
  rfl fF (gR none none rfl rfl) (λi x ae H hx hI=>?_) (λae H hI=>?_)
 ·(refine gG hI λo3 o4 aL aM=>?_;subst aL;clear hI;subst aM)
  rw[cQ]at hx;refine aC (gV.mp hx) λp hp aP=>?_;clear hx;subst aP;have hpp:=kZ.mp<|dY hp
  have htk:(dK lv).take (i+1)=(dK lv).take i++[p]:=by refine rR pS<|rR hp ?_;rfl
  refine X1 (kA<|ho.mem.mpr hpp) λk hk=>?_;have Kj:=cH hk;have hr:=Jn ho hk
  rw[ho.pm.countP_eq,show(λy=>gv lv y p)=λy=>(decide (y<p)&&decide (mn lv y p %2=0))||(decide (p<y)&&!decide (mn lv p y %2=0))from rfl,<-Ou (λx U h=>by
   simp only[Bool.and_eq_true,decide_eq_true_eq]at h;(first|lia|omega))]at hr
  generalize hF:ki o ((dK lv).take i)=F;have Kk:F.length=o.length:=by refine rL hF ?_;simp[ki]
  refine aA _ rfl ?_;have cl:∀{e4:bR},az (gam<|n+1) (.D (.v 5) false ["mate"] .v [.v 1] [.a true [.m .l (.v 5)<|.v 3,.h "_law_is_kept" [.v 0,.v 5,.v 3]]]) [some<|.l<|lv.map aD,some<|.l<|(dK lv).map aE,some<|.e 0,some<|aE p,e4] [some<|.l F]=
    some (.l<|((dK lv).filter λy=>decide (y<p)&&decide (mn lv y p %2=0)).map aE,[some<|.l F]):=λ{e4}=>by
   rw[pI (f:=id) (t:=λx=>match x with|.i i=>decide (i.toNat<p)&&decide (mn lv i.toNat p %2=0)|_=>false) (vs:=[.l<|(dK lv).map aE]) (H1:=[some<|.l F]) (aJ rfl bA) fF (λx hx=>?_) λx hx U=>?_]
   ·(rewrite[List.map_id];exact rR (zx (p:=λy=>decide (y<p)&&decide (mn lv y p %2=0)) λx U=>by simp[aE]) rfl)
   ·(refine aC (bV.mp hx) λq hq aN=>?_;clear hx;subst aN)
    have hq:=kZ.mp hq;simp only[List.cons_append,List.nil_append,aE,Int.toNat_natCast]
    refine f_ (bu (p:=.i q) (q:=.i p) rfl rfl (by
     show some (decide<|(q:Int)<p)=_
     congr 1;exact rf.mpr Gr)) λhc=>?_
    have hc:=cG hc;exact bP (vs:=[.l<|lv.map aD,.i q,.i p]) rfl<|Oq n hle hq (gX hc) (ic hpp) _
   ·simp only[List.cons_append,List.nil_append]
    (try simp only[wl,bx,reduceIte];try rfl)
  have cr:∀{e4:bR},az (gam<|n+1) (.D (.v 5) false ["mate"] .v [.v 1] [.a true [.m .g (.v 5)<|.v 3,.o<|.h "_law_is_kept" [.v 0,.v 3,.v 5]]]) [some<|.l<|lv.map aD,some<|.l<|(dK lv).map aE,some<|.e 0,some<|aE p,e4] [some<|.l F]=
    some (.l<|((dK lv).filter λy=>decide (p<y)&&!decide (mn lv p y %2=0)).map aE,[some<|.l F]):=λ{e4}=>by
   rw[pI (f:=id) (t:=λx=>match x with|.i i=>decide (p<i.toNat)&&!decide (mn lv p i.toNat %2=0)|_=>false) (vs:=[.l<|(dK lv).map aE]) (H1:=[some<|.l F]) (aJ rfl bA) fF (λx hx=>?_) λx hx U=>?_]
   ·(rewrite[List.map_id];exact rR (zx (p:=λy=>decide (p<y)&&!decide (mn lv p y %2=0)) λx U=>by simp[aE]) rfl)
   ·(refine aC (bV.mp hx) λq hq aQ=>?_;clear hx;subst aQ)
    have hq:=kZ.mp hq;simp only[List.cons_append,List.nil_append,aE,Int.toNat_natCast]
    refine f_ (bu (p:=.i q) (q:=.i p) rfl rfl (by
     show some (decide<|(p:Int)<q)=_
     congr 1;exact rf.mpr Gr)) λhc=>?_
    have hc:=cG hc;exact MU<|bP (vs:=[.l<|lv.map aD,.i p,.i q]) rfl<|Oq n hle hpp (gX hc) (ic hq) _
   ·simp only[List.cons_append,List.nil_append]
    (try simp only[wl,bx,reduceIte];try rfl)
  refine aZ cl ?_;generalize hl1:(dK lv).filter (λy=>decide (y<p)&&decide (mn lv y p %2=0))=l1 at*;generalize hl2:(dK lv).filter (λy=>decide (p<y)&&!decide (mn lv p y %2=0))=l2 at*
  refine pB (k:=k) (v:=aE p) (m:=0) (l1:=F) (H1:=[some<|.l F]) (H2:=[some<|.l F]) (H3:=[some<|.l F]) rfl rfl (dD (p:=.i (l1.map aE).length) (q:=.i (l2.map aE).length) (H1:=[some<|.l F]) (e_len rfl) (e_len cr) (by
   show some (PV.i _)=some (PV.i _);rw[bI,bI]
   congr 2;exact Td hr)) rfl (Te Kj Kk)<|cu<|gR _ _ rfl ?_
  refine rR htk (rL (Kb ho.nodup hk)<|rR hF ?_);rfl
 ·(refine gG hI λo3 o4 aR aT=>?_;clear hI;subst aR;subst aT)
  rewrite[bI];refine rR m_ ?_;have e:ki o (dK lv)=o.map aE:=by unfold ki;refine m9 λx hx=>?_;exact rR (bw<|kZ.mpr<|ho.mem.mp hx) rfl
  refine rR e ?_;exact bX (v:=.e 0) rfl<|gu rfl (ints_of o).b8
theorem ne_self{H:ak}{l:au}(h:∀x∈l,simple 3 x=true):cE H .n (.l l) (.l l)=some false:=by
 have e:simple 4 (.l l)=true:=(gj.mpr h:l.all (simple 3)=true)
 show(if(_||(simple 4 (.l l)&&simple 4 (.l l)))=true then some (!fj (.l l) (.l l))else none)=_;refine rR e<|rR (w_ 4 _ e) ?_
 simp
theorem eq_self{H:ak}{l:au}(h:∀x∈l,simple 3 x=true):cE H .e (.l l) (.l l)=some true:=by
 have e:simple 4 (.l l)=true:=(gj.mpr h:l.all (simple 3)=true)
 show(if(_||(simple 4 (.l l)&&simple 4 (.l l)))=true then some (fj (.l l)<|.l l)else none)=_;refine rR e<|rR (w_ 4 _ e) ?_
 simp
theorem KB{n:Nat}(o:bK):simple n (aD o)=true:=by induction o using e9<;>induction n using gD<;>rfl
theorem EI(lv:bj)(n:Nat):∀x∈lv.map aD,simple n x=true:=λx hx=>by(refine aC (bV.mp hx) λo U aL=>?_;clear hx;subst aL);exact KB o
theorem vJ(l:aG)(n:Nat):∀x∈l.map aE,simple n x=true:=λx hx=>by(refine aC (bV.mp hx) λo U aM=>?_;clear hx;subst aM);exact EA _
theorem s8{Γ:b7}{es:List CE}{b:oG}{ae:bf}{H H1:ak}{vs:au}{r:PV×ak}(h:cX Γ es ae H=some (vs,H1))(hb:jS H1 b vs=some r):az Γ (.k b es) ae H=some r:=by refine rR lM<|rR h ?_;exact hb
noncomputable def posOf:aG->Nat->Option Nat
 |[],_=>none
 |a::l,p=>if a=p then some 0 else(posOf l p).map (·+1)
def ig(o:aG)(p:Nat):PV:=match posOf o p with
 |some k=>.i k
 |none=>.n
theorem KE(l:aG)(a p:Nat):posOf (l++[a]) p=(posOf l p).or (if a=p then some l.length else none):=by
 induction l with
 |nil=>simp only[List.nil_append,posOf,Option.or];split<;>rfl
 |cons b l ih=>
  simp only[List.cons_append,posOf,ih];split
  ·rfl
  ·cases posOf l p with
   |none=>simp only[Option.none_or,Option.map_none];split<;>simp
   |some k=>rfl
theorem zz:∀{o:aG}{k p:Nat},o.Nodup->o[k]?=some p->posOf o p=some k
 |[],k,p,_,h=>by simp at h
 |a::l,0,p,_,h=>by have:=aK h;simp[posOf,this]
 |a::l,k+1,p,hn,h=>by
  have hn:=kC.mp hn;have h:l[k]?=some p:=h;have hne:¬a=p:=λe=>hn.1<|e▸dY h
  rewrite[posOf];refine rR (bO hne)<|rR (zz hn.2 h) ?_;rfl
theorem EJ:∀{o:aG}{p:Nat},p∉o->posOf o p=none
 |[],p,_=>rfl
 |a::l,p,h=>by rw[eO,not_or]at h;rewrite[posOf];refine rR (bO λe=>h.1 e.symm)<|rR (EJ h.2) ?_;rfl
theorem EK{o:aG}{k p:Nat}(hn:o.Nodup)(h:posOf o p=some k):o[k]?=some p:=by
 by_cases hm:p∈o
 ·refine X1 (kA hm) λj hj=>?_;rw[zz hn hj]at h;refine rL (aK h) ?_;exact hj
 ·rw[EJ hm]at h;exact nN h
theorem KF{o:aG}{k p:Nat}(hn:o.Nodup)(h:o[k]?=some p):ig o p=.i k:=by unfold ig;exact rR (zz hn h) rfl
def fU(o:aG)(N:Nat):au:=(List.range N).map<|ig o
theorem zA{o:aG}{N p:Nat}(h:p<N):(fU o N)[p]?=some (ig o p):=by unfold fU;rw[cQ,lU h];rfl
theorem EL(o:aG)(N:Nat):(fU o N).length=N:=by simp[fU]
set_option tactic.hygienic true in
theorem KK{l:aG}{N p:Nat}(hp:p<N)(hn:p∉l):(fU l N).set p (.i l.length)=fU (l++[p]) N:=by
 refine ext_get (by simp[fU]) λj hj=>?_;rw[i5,EL]at hj;rw[List.getElem?_set,EL,zA hj,zA hj];unfold ig;rw[KE];split
 ·rename_i e;clear hj;subst e;refine rR (EJ hn) ?_;rfl
 ·cases posOf l j<;>rfl
theorem Ow(n:Nat){o:aG}{N:Nat}(hN:N<=100)(ho:o.length<=100)(hn:o.Nodup)(hp:∀x∈o,x<N)(H:ak):gam (n+1) "" "visual_places" [.l<|o.map aE,.i N] H=some (.l<|fU o N,H):=by
 refine dX (ir:=Ir) (vs:=[.l<|o.map aE,.i N]) (by kernel_rfl) rfl rfl rfl (by simp only[List.all_cons,List.all_nil,Bool.and_true,(ints_of o).fz,Bool.true_and];rfl) ?_;show Ok (aF (gam n) Bu [some<|.l<|o.map aE,some<|.i N,none,none,none] []) _;unfold Bu
 refine aZ (v:=.e 0) (H1:=[some<|.l<|fU [] N]) (by
  refine rR (Ov (k:=N) (H1:=[]) rfl<|Ae hN) ?_;congr 4;show[some<|AO.l<|List.replicate _ PV.n]=_;congr 2;show AO.l (List.replicate N PV.n)=AO.l ((List.range N).map λU=>PV.n)
  simp[List.map_const']) ?_
 refine gr (H':=[some<|.l<|fU [] N]) (vs:=[.l<|o.map aE]) (items:=dU<|o.map aE) (λi ae H=>∃o3 o4,ae=[some<|.l<|o.map aE,some<|.i N,some<|.e 0,o3,o4]/\H=[some<|.l<|fU (o.take i) N])
  rfl ji (gR none none rfl rfl) (λi x ae H hx hI=>?_) (λae H hI=>?_)
 ·(refine gG hI λo3 o4 aN aQ=>?_;subst aN;subst aQ)
  refine aC (j6 hx) λv hv aR=>?_;clear hx;subst aR;rw[cQ]at hv;refine aC (gV.mp hv) λp pJ aT=>?_;clear hv;subst aT;have hi:=cH pJ;have htk:o.take (i+1)=o.take i++[p]:=by refine rR pS<|rR pJ ?_;rfl
  have Ox:=hp p<|dY pJ
  have hnm:p∉o.take i:=λh=>by
   refine X1 (kA h) λj hj=>?_;have kg:=cH hj;rw[gU]at kg;rw[tJ<|Tf kg]at hj;have:=(tH (by exact Tg kg:j<o.length) hn).mp (hj.trans pJ.symm)
   (first|lia|omega)
  refine aA _ rfl ?_;refine pB (k:=p) (v:=.i i) (m:=0) (l1:=fU (o.take i) N) (H1:=[some<|.l<|fU (o.take i) N]) (H2:=[some<|.l<|fU (o.take i) N]) (H3:=[some<|.l<|fU (o.take i) N]) rfl rfl rfl rfl (by rw[EL];exact Ox)<|cu<|gR _ _ rfl ?_
  refine rR htk (rL (KK Ox hnm)<|rR gU<|rR (oz<|gX hi) ?_);rfl
 ·(refine gG hI λo3 o4 aL aM=>?_;clear hI;subst aL;subst aM)
  refine rR mP ?_;rewrite[bI];refine rR m_ ?_;refine bX (v:=.e 0) rfl (gu rfl λx hx=>?_);refine aC (bV.mp hx) λp U aP=>?_;clear hx;subst aP;unfold ig;cases posOf o p with
  |none=>exact iT<|.inl rfl
  |some k=>exact iT<|.inr<|.inr<|.inl ⟨_,rfl⟩
def Good(lv:bj)(o:aG)(x y:Nat):Prop:=∀(kx ky:Nat),o[kx]?=some x->o[ky]?=some y->decide (kx<ky)=decide (mn lv x y %2=0)
theorem EM(o:aG):o.map aE=(o.map Int.ofNat).map PV.i:=by refine rR i6 ?_;rfl
theorem KM{lv:bj}{o:aG}(h:o.Perm<|dK lv):sortedZ (o.map Int.ofNat)=(dK lv).map Int.ofNat:=
 Od (h.symm.map _) (pQ.mpr ((zq lv).imp λh=>by simp only[Int.ofNat_eq_natCast];exact Th h))
theorem ne_bool{H:ak}{a b:Bool}:cE H .n (.b a) (.b b)=some (!decide (a=b)):=by
 show some (!(a==b))=_
 induction a using cP<;>induction b using cP<;>rfl
section
variable {n:Nat}{lv:bj}{o:aG}{i q k1:Nat}{m:Int}{ae:bf}
theorem EN{x:Nat}{l:Int}(h:lo lv x=some l):bH lv x=true:=by unfold bH;refine rR h ?_;rfl
theorem Oz{x:Nat}(h:bH lv x=true)(h0:lo lv x=none):False:=by unfold bH at h;rw[h0]at h;exact nB h
theorem KT{P:Res->Prop}(hq:q<lv.length)(hi:i<lv.length)(s9:o[k1]?=some i)(hnd:o.Nodup)(hmem:∀{x},x∈o↔bH lv x=true)(v1:ae[1]?=some (some<|.l<|lv.map aD))(v2:ae[2]?=some (some<|.l<|fU o lv.length))(v3:ae[3]?=some (some<|.i i))(v4:ae[4]?=some (some<|.i m))(v5:ae[5]?=some (some<|.i q))
  (h0:lo lv q=none->P (.n,ae,[]))
  (h1:∀l2 k2,lo lv q=some l2->o[k2]?=some q->decide (k1<k2)=decide (min m l2 %2=0)->P (.n,ae.set 4<|some<|.i<|min m l2,[]))
  (h2:∀l2 k2,lo lv q=some l2->o[k2]?=some q->¬decide (k1<k2)=decide (min m l2 %2=0)->P (.r<|.b false,ae.set 4<|some<|.i<|min m l2,[])):
  Ok (aF (gam<|n+1) [.i (.m .t (.d (.v 1)<|.v 5)<|.c .n)
    [.a 4<|.k .n [.v 4,.d (.v 1)<|.v 5],
    .i (.m .n (.m .l (.d (.v 2)<|.v 3)<|.d (.v 2)<|.v 5)<|.m .e (.b .o (.v 4)<|.c<|.i 2)<|.c<|.i 0)
     [.r<|.c<|.b false]
     []]
    []] ae []) P:=by
 have hidx:az (gam<|n+1) (.d (.v 1)<|.v 5) ae []=some (aD<|lo lv q,[]):=e_idx (p:=.l<|lv.map aD) (q:=.i q) (bq v1) (bq v5)<|dB<|lQ hq
 refine bU (c:=(lo lv q).isSome) (H':=[]) (bu hidx cL<|qG _) (λhc=>?_) λhc=>cu<|h0<|by simpa using hc
 refine X1 (nh.mp hc) λl2 hl2=>?_;rw[hl2]at hidx;refine X1 (kA<|hmem.mpr<|EN hl2) λk2 hk2=>?_;refine aZ (v:=.i<|min m l2) (H1:=[]) (s8 (aJ (p:=.i m) (H1:=[]) (bq v4)<|aJ hidx bA) MH) ?_;have l4:=cH v4;have sv:∀{a:Nat}{v:PV},a≠4->ae[a]?=some (some v)->(ae.set 4<|some<|.i<|min m l2)[a]?=some (some v):=λh e=>by rw[jr h.symm];exact e
 have OA:∀{p k a:Nat},o[k]?=some p->p<lv.length->a≠4->ae[a]?=some (some<|.i p)->az (gam<|n+1) (.d (.v 2)<|.v a) (ae.set 4<|some<|.i<|min m l2) []=some (.i k,[]):=λh1 h2 ha h3=>
  e_idx (p:=.l<|fU o lv.length) (q:=.i _) (bq<|sv (by decide) v2) (bq<|sv ha h3) (dB<|by exact rR (zA h2)<|rR (KF hnd h1) rfl)
 have ek:decide ((k1:Int)<k2)=decide (k1<k2):=rf.mpr oi;refine bU (c:=!decide (decide ((k1:Int)<k2)=decide (min m l2 %2=0))) (H':=[]) (bu (p:=.b<|decide<|(k1:Int)<k2) (q:=.b<|decide<|min m l2 %2=0) (bu (OA s9 hi (by decide) v3) (OA hk2 hq (by decide) v5) rfl) (bu (p:=.i<|min m l2 %2) (q:=.i 0) (dD (p:=.i<|min m l2) (q:=.i 2) (bq<|by rw[jL l4]) cL rfl) cL rfl) ne_bool) (λhc=>?_) λhc=>?_
 ·rw[k9,decide_eq_false_iff_not,ek]at hc;exact bX (v:=.b false) (H':=[]) cL<|h2 l2 k2 hl2 hk2 hc
 ·rw[tD,ff,ek]at hc;exact cu<|h1 l2 k2 hl2 hk2 hc
theorem OB(hg:∀x y,x<i->bH lv x=true->bH lv y=true->x<y->Good lv o x y)(qO:bH lv i=true->∀y,i<y->bH lv y=true->Good lv o i y):∀x y,x<i+1->bH lv x=true->bH lv y=true->x<y->Good lv o x y:=λx y hxi hx hy hxy=>by
 rcases dm x i with h|h
 ·exact hg x y h hx hy hxy
 ·obtain rfl:x=i:=eI (Nat.le_of_lt_succ hxi) h;exact qO hx y hxy hy
end
def vK(o:aG)(lv:bj)(a b c:bR):bf:=[some<|.l<|o.map aE,some<|.l<|lv.map aD,some<|.l<|fU o lv.length,a,b,c]
theorem OC(n:Nat){lv:bj}{o:aG}(hS:ie lv)(g8:o.Perm<|dK lv)(H:ak):
  ∃c:Bool,gam (n+2) "" "is_order_of" [.l<|o.map aE,.l<|lv.map aD] H=some (.b c,H)/\(c=true↔∀x y,bH lv x=true->bH lv y=true->x<y->Good lv o x y):=by
 obtain⟨v,e,c,rfl,h⟩:=sI (c:="") (f:="is_order_of") (H:=H) (args:=[.l<|o.map aE,.l<|lv.map aD]) (Q:=λv=>∃c:Bool,v=.b c/\(c=true↔∀x y,bH lv x=true->bH lv y=true->x<y->Good lv o x y)) (n:=n+1) (ir:=Iq) (vs:=[.l<|o.map aE,.l<|lv.map aD]) (by kernel_rfl) rfl rfl rfl (by simp only[List.all_cons,List.all_nil,Bool.and_true,kY,(ints_of o).fz]) λT K=>by
  show Ok (aF (gam<|n+1) Bt [some<|.l<|o.map aE,some<|.l<|lv.map aD,none,none,none,none] []) T;have hle:=hS.le;have jn:o.length<=20:=by refine rR g8.length_eq ?_;exact eR (zw lv) hle
  have hnd:o.Nodup:=g8.nodup_iff.mpr<|Er lv
  have hmem:∀{x},x∈o↔bH lv x=true:=λ{x}=>by rw[g8.mem_iff,kZ]
  have jd:(lv.map aD).length=lv.length:=bI _;unfold Bt
  refine bU (c:=false) (H':=[]) (bu (p:=.l<|(dK lv).map aE) (q:=.l<|(dK lv).map aE) (H1:=[]) (by
   refine rR lM<|rR (aJ (p:=.l<|o.map aE) (H1:=[]) rfl bA) ?_
   simp only[Option.bind_some];rewrite[EM];refine rR (vF<|by rw[bI];exact Ti jn)<|rR (KM g8) ?_
   rw[<-EM]) (Oc hle rfl (λx=>by simp only[List.cons_append,List.nil_append];(try simp only[wl,bx,reduceIte];try rfl)) λx=>by simp only[List.cons_append,List.nil_append];(try simp only[wl,bx,reduceIte];try rfl))<|ne_self<|vJ _ _) nB λU=>?_
  refine aZ (v:=.l<|fU o lv.length) (H1:=[]) (bP (vs:=[.l<|o.map aE,.i lv.length]) (H1:=[]) (by(try simp only[wl,bx,reduceIte];try rfl);exact rR jd rfl)<|Ow n (uf hle) (uf jn) hnd (λx hx=>ic<|hmem.mp hx) _) ?_;clear g8;refine n4 (vs:=[.i lv.length]) (vK o lv) (λU U U U=>[]) (λi U U U=>∀x y,x<i->bH lv x=true->bH lv y=true->x<y->Good lv o x y) none none none
   (by(try simp only[wl,bx,reduceIte];try rfl);exact rR jd rfl) rfl (yS jx<|Ad hle) (λU U h=>absurd h<|q_ _) (λi x a b c hx hg T R k kr=>?_) (λa b c hg=>?_)
  ·rw[Ex]at hx;have hi:=cH hx;rw[bI,tL]at hi;rw[cQ,lU hi]at hx;obtain rfl:=aK hx;refine aA _ rfl (aZ (v:=aD<|lo lv i) (H1:=[]) (e_idx (p:=.l<|lv.map aD) (q:=.i i) rfl rfl<|dB<|lQ hi) ?_);show Ok (aF _ _ (vK o lv (some<|.i i) (some<|aD<|lo lv i) c) []) _;cases hl:lo lv i with
   |none=>
    refine DK (λU:Unit=>vK o lv (some<|.i i) (some .n) c) (λU U=>[]) (λU U=>True) ()
     (aJ rfl<|aJ (iB (c:=false) (bu (p:=.n) (q:=.n) rfl rfl rfl) nB λU=>rfl) bA) rfl (pq Gs (Gu hle hi) jx<|Tj hle hi) trivial (λj y U hy U T K=>?_) (λU U=>?_)
    ·have:=cH hy;rw[qA]at this
     (first|lia|omega)
    ·exact cu<|k _ _ _ (OB hg λh=>(Oz h hl).elim)
   |some l=>
    have pJ:=EN hl;refine X1 (kA<|hmem.mpr pJ) λk1 s9=>?_;refine Ml (vs:=[.i<|(i:Int)+1,.i lv.length]) (λb c=>vK o lv (some<|.i i) b c) (λU U U=>[]) (λj b U=>b=some (aD<|jJ lv i j)/\∀y,i<y->y<i+1+j->bH lv y=true->Good lv o i y) _ c
     (aJ rfl<|aJ (iB (c:=true) (bu (p:=.i l) (q:=.n) rfl rfl rfl) (λU=>(e_len (l:=lv.map aD)<|bq rfl).trans<|by exact rR jd rfl) nofun) bA) rfl (pq Gs (Gu hle hi) jx<|Ad hle) ⟨by(rewrite[jJ];exact rR hl rfl),λy h1 h2=>absurd h2<|Nat.not_lt.mpr h1⟩ (λj y b c hy hJ T2 R2 k2 K'=>?_) (λb c hJ=>?_)
    ·(refine U1 hJ λaN qO=>?_;clear hJ;subst aN)
     refine U1 (sO hy) λaQ hlt=>?_;clear hy;subst aQ;refine aC (Ep pJ j) λm hm U=>?_;have hmn:jJ lv i (j+1)=N1 (some m) (lo lv<|i+(j+1)):=by(rewrite[jJ];exact rR hm rfl)
     have OD:mn lv i (i+(j+1))=(jJ lv i<|j+1).getD 0:=by unfold mn;rw[tP]
     refine rR hm<|rR (show((i:Int)+1+j)=((i+(j+1):Nat):Int)from To) ?_
     rw[Nat.add_assoc,Nat.add_comm 1 j]at qO
     have k2:∀b c,b=some (aD<|jJ lv i<|j+1)->(bH lv (i+(j+1))=true->Good lv o i (i+(j+1)))->T2 (vK o lv (some<|.i i) b c) []:=λb c e h=>k2 b c ⟨e,λy h1 h2 h3=>by
      rcases dm y (i+(j+1))with h'|h'
      ·exact qO y h1 h' h3
      ·obtain rfl:y=i+(j+1):=Tp h2 h'
       exact h h3⟩
     have hq:i+(j+1)<lv.length:=Tq hlt;refine aA _ rfl (KT (q:=i+(j+1)) hq hi s9 hnd hmem rfl rfl rfl rfl rfl (λh0=>k2 _ _ (by refine rR hmn<|rR h0 ?_;rfl) λh=>(Oz h h0).elim) (λl2 k0 hl2 hk2 hc=>?_) λl2 k0 hl2 hk2 hc=>?_)
     ·have e:jJ lv i (j+1)=some (min m l2):=by refine rR hmn<|rR hl2 ?_;rfl
      refine k2 _ _ (by refine rR e ?_;rfl) λU kx ky e1 e2=>?_;have f1:=(tH (cH e1) hnd).mp<|e1.trans s9.symm
      have f2:=(tH (cH e2) hnd).mp<|e2.trans hk2.symm
      clear s9;subst f1;clear hk2;subst f2;refine rR OD<|rR e ?_;exact hc
     ·have e:jJ lv i (j+1)=some (min m l2):=by refine rR hmn<|rR hl2 ?_;rfl
      refine K' _ _ _ (kr _ _ _ (K _ _ _ _ rfl (aA false rfl ⟨nofun,λh=>?_⟩)));have:=h i _ pJ (EN hl2) (Nat.lt_add_of_pos_right<|Nat.succ_pos j) k1 k0 s9 hk2;rw[OD,e]at this;exact absurd this hc
    ·(refine U1 hJ λaR qO=>?_;clear hJ;subst aR)
     rw[qA]at qO;exact cu<|k _ _ _ (OB hg λU y hxy hy=>qO y hxy (by have:=ic hy;exact Tr this) hy)
  ·rw[qA]at hg;exact bX (v:=.b true) (H':=[]) cL<|K _ _ _ _ rfl (aA true rfl ⟨λU x y hx hy hxy=>hg x y (by have:=ic hx;exact Tt this) hx hy hxy,λU=>rfl⟩)
 exact aA c e h
theorem L9{lv:bj}{o:aG}(h:eZ lv o):∀x y,bH lv x=true->bH lv y=true->x<y->Good lv o x y:=λx y hx hy hxy kx ky e1 e2=>by
 have hlx:=cH e1;have EO:=cH e2;rw[eE hlx]at e1;rw[eE EO]at e2;have e1:=aK e1;have e2:=aK e2;have hp:=List.pairwise_iff_getElem.mp h.pw;rcases q9 kx ky with g|g|g
 ·have:=hp kx ky hlx EO g;rw[e1,e2,gv,di hxy,dG (by exact i9 hxy:¬y<x)]at this;refine rR (di g) ?_;simpa using this
 ·clear e2;subst g;(first|lia|omega)
 ·have:=hp ky kx EO hlx g;rw[e1,e2,gv,di hxy,dG (by exact i9 hxy:¬y<x)]at this;refine rR (dG (by exact i9 g:¬kx<ky)) ?_;simpa using this
theorem Mo{lv:bj}{a b:Nat}{r:aG}(h:eZ lv<|a::b::r):¬∀x y,bH lv x=true->bH lv y=true->x<y->Good lv (b::r++[a]) x y:=λhg=>by
 have ha:bH lv a=true:=h.mem.mp<|by simp
 have hb:bH lv b=true:=h.mem.mp<|by simp
 have hab:gv lv a b=true:=(pP.mp h.pw).1 b<|by simp
 have e1:(b::r++[a])[r.length+1]?=some a:=by simp
 have e2:(b::r++[a])[0]?=some b:=rfl;rcases q9 a b with g|g|g
 ·have:=hg a b ha hb g _ _ e1 e2;rw[gv,di g,dG (by exact i9 g:¬b<a)]at hab;rw[dG Tu]at this;simp at hab this
  (first|lia|omega)
 ·clear h hg hb e1 e2;subst g;rw[zu]at hab;exact nB hab
 ·have:=hg b a hb ha g _ _ e2 e1;rw[gv,di g,dG (by exact i9 g:¬a<b)]at hab;rw[di Tv]at this;simp at hab this
  (first|lia|omega)
abbrev Run:=Nat×Nat×Int
noncomputable def c6(r:Run):PV:=.t [.i r.1,.i r.2.1,.i r.2.2]
noncomputable def mZ(o:bK)(t:Nat)(rs:List Run):List Run:=match o with
 |none=>rs
 |some l=>match rs.getLast? with
  |some r=>if r.2.2=l then rs.dropLast++[(r.1,t+1,l)]else rs++[(t,t+1,l)]
  |none=>rs++[(t,t+1,l)]
def gB(lv:bj):Nat->List Run
 |0=>[]
 |t+1=>mZ (lo lv t) t<|gB lv t
structure LN (lv:bj)(t:Nat)(rs:List Run):Prop where
 ok:∀r∈rs,r.1<r.2.1/\r.2.1<=t/\bH lv r.1=true/\∀c,r.1<=c->c<r.2.1->bH lv c=true->dw lv c=r.2.2
 pw:rs.Pairwise λr s=>r.2.1<=s.1
 s_:∀c,c<t->bH lv c=true->∃r∈rs,r.1<=c/\c<r.2.1
 sz:rs.length<=t
set_option tactic.hygienic true in
theorem tg(lv:bj):∀t,LN lv t<|gB lv t
 |0=>⟨(λU h=>nomatch h),List.Pairwise.nil,λU h=>absurd h<|q_ _,bY _⟩
 |t+1=>by
  have I:=tg lv t;show LN lv (t+1)<|mZ (lo lv t) t<|gB lv t
  generalize gB lv t=rs at I;cases hl:lo lv t with
  |none=>
   have hn:bH lv t=false:=by unfold bH;refine rR hl ?_;rfl
   refine⟨λr hr=>let q:=I.ok r hr;⟨q.1,by(first|lia|omega),q.2.2⟩,I.pw,λc hc hp=>?_,by have:=I.sz;show rs.length<=_;exact l8 this⟩;rcases dm c t with h|h
   ·exact I.s_ c h hp
   ·obtain rfl:c=t:=jP hc h;rw[hn]at hp;exact nB hp
  |some l=>
   have hp:bH lv t=true:=by unfold bH;refine rR hl ?_;rfl
   have qE:dw lv t=l:=by unfold dw;refine rR hl ?_;rfl
   have new:LN lv (t+1) (rs++[(t,t+1,l)]):=by
    refine⟨λr hr=>?_,kD.mpr ⟨I.pw,List.pairwise_singleton _ _,λr hr s hs=>by refine rR (dO.mp hs) ?_;exact(I.ok r hr).2.1⟩,λc hc tq=>?_,by refine rR gF ?_;have:=I.sz;simp;exact ud this⟩
    ·rcases dR.mp hr with hr|hr
     ·have q:=I.ok r hr;exact⟨q.1,by(first|lia|omega),q.2.2⟩
     ·refine rR (dO.mp hr) ?_;refine⟨by dsimp only;exact l9,bY _,hp,λc h1 h2 U=>?_⟩;dsimp only at h1 h2⊢;obtain rfl:c=t:=Tw h1 h2;exact qE
    ·rcases dm c t with h|h
     ·refine aC (I.s_ c h tq) λr h1 h2=>?_;exact aA r (dR.mpr<|.inl h1) h2
     ·exact cM _ (dR.mpr<|.inr cR) h hc
   unfold mZ;dsimp only;split
   ·rename_i r hr;split
    ·rename_i mR;refine X1 (wh.mp hr) λd aT=>?_;clear hr;subst aT;refine rR List.dropLast_concat ?_;have EP:=kD.mp I.pw;have lS:=I.ok r<|by simp
     refine⟨λs hs=>?_,kD.mpr ⟨EP.1,List.pairwise_singleton _ _,λs hs s' hs'=>by refine rR (dO.mp hs') ?_;exact EP.2.2 s hs r<|by simp⟩,λc hc tq=>?_,by have:=I.sz;simp only[List.length_append,List.length_singleton]at this⊢;exact Tz this⟩
     ·rcases dR.mp hs with hs|hs
      ·have q:=I.ok s (by simp[hs]);exact⟨q.1,by(first|lia|omega),q.2.2⟩
      ·refine rR (dO.mp hs) ?_;refine⟨by dsimp only;(first|lia|omega),bY _,lS.2.2.1,λc h1 h2 tq=>?_⟩;dsimp only at h1 h2⊢;rcases dm c t with h|h
       ·rcases dm c r.2.1 with h'|h'
        ·exact rR (lS.2.2.2 c h1 h' tq)<|rR mR rfl
        ·exfalso;refine c_ (I.s_ c h tq) λs s1 s2 s3=>?_;rcases dR.mp s1 with s1|s1
         ·have:=EP.2.2 s s1 r (by simp);(first|lia|omega)
         ·rw[dO.mp s1]at s3;(first|lia|omega)
       ·obtain rfl:c=t:=jP h2 h;exact qE
     ·rcases dm c t with h|h
      ·refine c_ (I.s_ c h tq) λs s1 s2 s3=>?_;rcases dR.mp s1 with s1|s1
       ·exact cM s (dR.mpr<|.inl s1) s2 s3
       ·rw[dO.mp s1]at s2 s3;exact cM _ (dR.mpr<|.inr cR) s2 (by dsimp only;exact TA hc)
      ·obtain rfl:c=t:=jP hc h;exact cM _ (dR.mpr<|.inr cR) (by dsimp only;(first|lia|omega)) (by dsimp only;exact l9)
    ·exact new
   ·exact new
def gM(lv:bj)(f e:Nat):aG:=((List.range<|e-f).map (f+·)).filter<|bH lv
theorem tu{lv:bj}{f e c:Nat}:c∈gM lv f e↔f<=c/\c<e/\bH lv c=true:=by
 unfold gM;rw[List.mem_filter,bV];constructor
 ·rintro⟨⟨i,hi,rfl⟩,h⟩;rw[jM]at hi;exact⟨wR,Gv hi,h⟩
 ·rintro⟨h1,h2,h3⟩;exact⟨aA (c-f) (by rw[jM];exact TF h1 h2)<|uc h1,h3⟩
theorem OE(lv:bj)(f e:Nat):(gM lv f e).Pairwise (·<·):=
 we _ (pQ.mpr (List.pairwise_lt_range.imp λh=>TG h))
def orient(lv:bj)(r:Run):aG:=if r.2.2 %2=0 then gM lv r.1 r.2.1 else(gM lv r.1 r.2.1).reverse
theorem zB{lv:bj}{r:Run}{c:Nat}:c∈orient lv r↔r.1<=c/\c<r.2.1/\bH lv c=true:=by
 unfold orient;split
 ·exact tu
 ·rw[List.mem_reverse];exact tu
noncomputable def rlv(rs:List Run):bj:=rs.map λr=>some r.2.2
theorem ER{rs:List Run}{i:Nat}{r:Run}(h:rs[i]?=some r):lo (rlv rs) i=some r.2.2:=by rw[lo,fV,rlv,cQ,h];rfl
theorem tw{rs:List Run}{i:Nat}:bH (rlv rs) i=true↔i<rs.length:=by
 constructor
 ·intro h;have:=ic h;rwa[rlv,bI]at this
 ·intro h;refine X1 (h_ h) λr hr=>?_;unfold bH;refine rR (ER hr) ?_;rfl
theorem ES{lv:bj}{n:Nat}{rs:List Run}(I:LN lv n rs)(hn:lv.length<=n){i j x y:Nat}{r s:Run}(hr:rs[i]?=some r)(hs:rs[j]?=some s)(hij:i<=j)(hxy:x<=y)(hx:r.1<=x/\x<r.2.1/\bH lv x=true)(hy:s.1<=y/\y<s.2.1/\bH lv y=true):
  mn lv x y=mn (rlv rs) i j:=by
 have ET:=cH hr;have kg:=cH hs;have hM:=pH (lv:=rlv rs) (tw.mpr ET) hij;have qP:∀{a b:Nat}{u v:Run},a<b->rs[a]?=some u->rs[b]?=some v->u.2.1<=v.1:=λ{a b u v} hab hu hv=>by have ha:=cH hu;have hb:=cH hv;have:=List.pairwise_iff_getElem.mp I.pw a b ha hb hab;rw[eE ha]at hu;rw[eE hb]at hv;rw[aK hu,aK hv]at this;exact this
 have zC:∀{k c:Nat}{u:Run},rs[k]?=some u->u.1<=c->c<u.2.1->bH lv c=true->lo lv c=lo (rlv rs) k:=λ{k c u} hu h1 h2 h3=>by exact rR (ER hu)<|rR (lR h3)<|rR ((I.ok u<|dY hu).2.2.2 c h1 h2 h3) rfl
 refine(pH hx.2.2 hxy).uniq ⟨?_,λc l h1 h2 h3=>?_⟩
 ·refine c_ hM.at_ λk k1 k2 k3=>?_;by_cases e1:k=i
  ·clear hij ET hM k1;subst e1;exact cM x (bY _) hxy<|by exact rR (zC hr hx.1 hx.2.1 hx.2.2)<|rR k3 rfl
  ·by_cases e2:k=j
   ·clear hij kg hM k2;subst e2;exact cM y hxy (bY _)<|by exact rR (zC hs hy.1 hy.2.1 hy.2.2)<|rR k3 rfl
   ·refine X1 (h_ (l:=rs) (i:=k)<|TH kg k2) λu hu=>?_;have ho:=I.ok u<|dY hu
    have a1:=qP (by exact TJ k1 e1:i<k) hr hu;have a2:=qP (by exact TL k2 e2:k<j) hu hs;exact cM u.1 (by(first|lia|omega)) (by(first|lia|omega))<|by exact rR (zC hu (bY _) ho.1 ho.2.2.1)<|rR k3 rfl
 ·have hp:bH lv c=true:=by unfold bH;refine rR h3 ?_;rfl
  refine c_ (I.s_ c (by have:=ic hp;exact Ab hn this) hp) λu hu u1 u2=>?_;refine X1 (kA hu) λk hk=>?_;have b1:i<=k:=by
   rcases dm k i with h|h
   ·have:=qP h hk hr;(first|lia|omega)
   ·exact h
  have b2:k<=j:=by
   rcases dm j k with h|h
   ·have:=qP h hs hk;(first|lia|omega)
   ·exact h
  exact hM.le k l b1 b2<|by exact rL (zC hk u1 u2 hp)<|rR h3 rfl
theorem OF{a b:aG}(ha:a.Nodup)(hb:b.Nodup)(h:∀x,x∈a↔x∈b):a.Perm b:=by
 rw[List.perm_iff_count];intro x;by_cases hx:x∈a
 ·exact rR (List.Nodup.count ha)<|rR (List.Nodup.count hb)<|rR (bw hx)<|rR (bw<|(h x).mp hx) rfl
 ·exact rR (List.count_eq_zero_of_not_mem hx)<|rR (List.count_eq_zero_of_not_mem λh'=>hx<|(h x).mpr h') rfl
set_option tactic.hygienic true in
theorem M2{lv:bj}{rs:List Run}{ro:aG}(I:LN lv lv.length rs)(ho:eZ (rlv rs) ro):eZ lv ((ro.map λi=>rs.getD i (0,0,0)).flatMap<|orient lv):=by
 have hget:∀{i},i∈ro->∃r,rs[i]?=some r/\rs.getD i (0,0,0)=r:=λ{i} hi=>by refine X1 (h_<|tw.mp<|ho.mem.mp hi) λr hr=>?_;exact aA r hr<|by rw[fV,hr];rfl
 have x8:((ro.map λi=>rs.getD i (0,0,0)).flatMap<|orient lv).Pairwise λx y=>gv lv x y=true:=by
  rw[List.pairwise_flatMap];refine⟨λr hr=>?_,?_⟩
  ·(refine aC (bV.mp hr) λi hi aL=>?_;clear hr;subst aL)
   refine aC (hget hi) λr hr e=>?_;refine rR e ?_;have ET:=cH hr;have hm:mn (rlv rs) i i=r.2.2:=by unfold mn;(rewrite[pT,jJ];refine rR (ER hr) ?_);rfl
   have key:∀{x y},x∈gM lv r.1 r.2.1->y∈gM lv r.1 r.2.1->x<y->mn lv x y=r.2.2:=λhx hy hxy=>by exact rR (ES I (bY _) hr hr (bY _) (gX hxy) (tu.mp hx)<|tu.mp hy)<|rR hm rfl
   unfold orient;split
   ·rename_i Et;refine(OE lv _ _).imp_of_mem λ{x y} hx hy hxy=>?_;rewrite[gv];refine rR (di hxy)<|rR (key hx hy hxy)<|rR (di Et) ?_;rfl
   ·rename_i hod;rw[List.pairwise_reverse];refine(OE lv _ _).imp_of_mem λ{x y} hx hy hxy=>?_;rewrite[gv];refine rR (di hxy) (rR (key hx hy hxy)<|rR (dG hod)<|rR (dG (by exact i9 hxy:¬y<x)) ?_);rfl
  ·rw[pQ];refine ho.pw.imp_of_mem λ{i j} hi hj hb x hx y hy=>?_;refine aC (hget hi) λr hr e=>?_;refine aC (hget hj) λs hs e'=>?_;rw[e]at hx;rw[e']at hy;have hx:=zB.mp hx;have hy:=zB.mp hy;have qP:∀{a b:Nat}{u v:Run},a<b->rs[a]?=some u->rs[b]?=some v->u.2.1<=v.1:=λ{a b u v} hab hu hv=>by have ha:=cH hu;have hb:=cH hv;have:=List.pairwise_iff_getElem.mp I.pw a b ha hb hab;rw[eE ha]at hu;rw[eE hb]at hv;rw[aK hu,aK hv]at this;exact this
   rcases q9 i j with h|h|h
   ·have:=qP h hr hs;rw[gv,di h,dG (by exact i9 h:¬j<i)]at hb;rewrite[gv];refine rR (di (by(first|lia|omega):x<y))<|rR (dG (by(first|lia|omega):¬y<x))<|rR (ES I (bY _) hr hs (gX h) (by(first|lia|omega)) hx hy) ?_
    exact hb
   ·clear hj hs e';subst h;rw[zu]at hb;exact nB hb
   ·have:=qP h hs hr;rw[gv,di h,dG (by exact i9 h:¬i<j)]at hb;rewrite[gv];refine rR (di (by(first|lia|omega):y<x))<|rR (dG (by(first|lia|omega):¬x<y))<|rR (ES I (bY _) hs hr (gX h) (by(first|lia|omega)) hy hx) ?_
    exact hb
 refine⟨OF (x8.imp λ{x y} h e=>by subst e;rw[zu]at h;exact nB h) (Er lv) λx=>?_,x8⟩;rw[kZ,List.mem_flatMap];constructor
 ·rintro⟨r,_,h⟩;exact(zB.mp h).2.2
 ·intro hp;refine c_ (I.s_ x (ic hp) hp) λr hr h1 h2=>?_;refine X1 (kA hr) λi hi=>?_;refine aA r (bV.mpr<|aA i (ho.mem.mpr<|tw.mpr<|cH hi)<|by rw[fV,hi];rfl)<|zB.mpr ⟨h1,h2,hp⟩
theorem M'(rs:List Run):∀x∈rs.map c6,simple 3 x=true:=λx hx=>by(refine aC (bV.mp hx) λr U aM=>?_;clear hx;subst aM);rfl
theorem OG(r:Run)(n:Nat):fz (n+1) (c6 r)=true:=MM λx hx=>by simp only[List.mem_cons,List.not_mem_nil,or_false]at hx;rcases hx with rfl|rfl|rfl<;>exact dj<|.inr<|.inr<|.inl ⟨_,rfl⟩
theorem No(rs:List Run)(n:Nat):fz (n+2) (.l<|rs.map c6)=true:=nS λx hx=>by(refine aC (bV.mp hx) λr U aP=>?_;clear hx;subst aP);exact OG r n
theorem Nw(r:Run)(n:Nat)(H:ak):b8 (n+1) H (c6 r)=some (c6 r):=yQ λx hx=>by simp only[List.mem_cons,List.not_mem_nil,or_false]at hx;rcases hx with rfl|rfl|rfl<;>exact iT<|.inr<|.inr<|.inl ⟨_,rfl⟩
theorem vL{H:ak}{m:Nat}{w:au}(h:H[m]?=some (some<|.l w))(hw:∀x∈w,simple 3 x=true):cE H .n (.e m) (.l [])=some (!w.isEmpty):=by
 have e1:view H (.e m)=.l w:=by simp only[view,h]
 have e2:simple 4 (.l w)=true:=(gj.mpr hw:w.all (simple 3)=true)
 show(if mj H (.e m) (.l [])=true then some (!fj (view H<|.e m) (view H<|.l []))else none)=_;have e3:mj H (.e m) (.l [])=true:=by unfold mj;refine rR e1 (rR e2 ?_);rfl
 refine rR (bw e3)<|rR e1 ?_
 clear h hw e1 e2
 induction w using b9<;>rfl
section
variable {n i:Nat}{lv:bj}{rs:List Run}{l:Int}{ae:bf}{T:bf->ak->Prop}
theorem NA{l:Int}{i:Nat}{rs:List Run}(h:∀r,rs.getLast?=some r->r.2.2≠l):mZ (some l) i rs=rs++[(i,i+1,l)]:=by
 unfold mZ;cases iE:rs.getLast? with
 |none=>rfl
 |some r=>exact bO<|h r iE
theorem NE(hz:rs.length<=900)(v1:ae[1]?=some (some<|.e 0))(v2:ae[2]?=some (some<|.i i))(v3:ae[3]?=some (some<|.i l))(K:T ae [some<|.l<|(mZ (some l) i rs).map c6]):
  Ok (aF (gam n) [.i (.a true [.m .n (.v 1)<|.l [],.m .e (.d (.d (.v 1)<|.n<|.c<|.i 1)<|.c<|.i 2)<|.v 3])
    [.t (.v 1) (.n<|.c<|.i 1)<|.t [.d (.d (.v 1)<|.n<|.c<|.i 1)<|.c<|.i 0,.b .a (.v 2)<|.c<|.i 1,.v 3]]
    [.x<|.q (.v 1)<|.t [.v 2,.b .a (.v 2)<|.c<|.i 1,.v 3]]] ae [some<|.l<|rs.map c6]) (Nx T):=by
 have e2:∀H,az (gam n) (.b .a (.v 2)<|.c<|.i 1) ae H=some (.i<|i+1,H):=λH=>dD (p:=.i i) (q:=.i 1) (bq v2) cL rfl;have app:(∀r,rs.getLast?=some r->r.2.2≠l)->Ok (aF (gam n) [.x<|.q (.v 1)<|.t [.v 2,.b .a (.v 2)<|.c<|.i 1,.v 3]] ae [some<|.l<|rs.map c6]) (Nx T):=λh=>by rw[NA h,kB]at K;exact eW (m:=0) (l1:=rs.map c6) (l2:=rs.map c6) (v:=c6 (i,i+1,l)) (H1:=[some<|.l<|rs.map c6]) (H2:=[some<|.l<|rs.map c6]) (bq v1) rfl (j7<|aJ (bq v2)<|aJ (e2 _)<|aJ (bq v3) bA) rfl (by rw[bI];exact eR hz<|by decide)<|cu K
 cases iE:rs.getLast? with
 |none=>
  clear hz K;obtain rfl:=List.getLast?_eq_none_iff.mp iE;exact bU (c:=false) (H':=[some<|.l<|([]:List Run).map c6]) (f_ (c:=false) (d:=false) (bu (p:=.e 0) (q:=.l []) (H1:=[some<|.l []]) (bq v1) rfl<|vL (w:=[]) rfl λU h=>nomatch h) nofun) nB λU=>app nofun
 |some r=>
  have nY:∀{ae:bf},ae[1]?=some (some<|.e 0)->az (gam n) (.d (.v 1)<|.n<|.c<|.i 1) ae [some<|.l<|rs.map c6]=some (c6 r,[some<|.l<|rs.map c6]):=λv1=>
   e_idx (p:=.e 0) (q:=.i<|-1) (bq v1) rfl (u0 rfl<|by rw[List.getLast?_map,iE];rfl)
  have hne:(rs.map c6).isEmpty=false:=by
   induction rs using b9 with
   |nil=>exact nN iE
   |cons a t=>rfl
  refine bU (c:=true&&decide (r.2.2=l)) (H':=[some<|.l<|rs.map c6]) (f_ (bu (p:=.e 0) (q:=.l []) (bq v1) rfl<|by refine rR (vL rfl<|M' rs)<|rR hne ?_;rfl) λU=>bu (p:=.i r.2.2) (q:=.i l) (e_idx (p:=c6 r) (q:=.i 2) (nY v1) cL DR) (bq v3) rfl) (λhc=>?_) λhc=>?_
  ·have hc:=cG hc;have e:mZ (some l) i rs=rs.dropLast++[(r.1,i+1,l)]:=by unfold mZ;refine rR iE ?_;exact bw hc
   rw[e]at K;refine X1 (wh.mp iE) λd aN=>?_;clear hz app iE hne e;subst aN;refine MW (v:=c6 (r.1,i+1,l)) (m:=0) (l1:=(d++[r]).map c6) (H1:=[some<|.l<|(d++[r]).map c6]) (H2:=[some<|.l<|(d++[r]).map c6]) (H3:=[some<|.l<|(d++[r]).map c6])
    (j7<|aJ (e_idx (p:=c6 r) (q:=.i 0) (nY v1) cL sL)<|aJ (e2 _)<|aJ (bq v3) bA) (bq v1) rfl rfl (by simp) (cu ?_)
   rw[List.dropLast_concat]at K;show T _ _;simpa using K
  ·exact app λr' h=>by obtain rfl:=aK<|iE.symm.trans h;exact lW hc
end
theorem NM(n:Nat){lv:bj}(hle:lv.length<=20)(H:ak):gam (n+1) "" "line_runs" [.l<|lv.map aD] H=some (.l<|(gB lv lv.length).map c6,H):=by
 refine qy (ir:=Iw) (vs:=[.l<|lv.map aD]) (by kernel_rfl) rfl rfl rfl (by simp only[List.all_cons,List.all_nil,Bool.and_true,kY]) λT K=>?_;show Ok (aF (gam n) Bx [some<|.l<|lv.map aD,none,none,none] []) T;unfold Bx;refine aZ (v:=.e 0) (H1:=[some<|.l []]) rfl ?_;refine lK (vs:=[.l<|lv.map aD]) (items:=dU<|lv.map aD) (λx y=>[some<|.l<|lv.map aD,some<|.e 0,x,y]) (λi U U=>[some<|.l<|(gB lv i).map c6]) (λU U U=>True) none none
  rfl rfl ji trivial (λi x y z hx U T k=>?_) (λy z U=>?_)
 ·(refine aC (j6 hx) λv hv aQ=>?_;clear hx;subst aQ)
  have hi:=cH hv;rw[bI]at hi;rw[lQ hi]at hv;obtain rfl:=aK hv;have hsz:=(tg lv i).sz;have k:=λx y=>k x y trivial;rw[show gB lv (i+1)=mZ (lo lv i) i (gB lv i)from rfl]at k;refine aA _ rfl (bU (c:=(lo lv i).isSome) (H':=[some<|.l<|(gB lv i).map c6]) (bu (p:=aD<|lo lv i) (q:=.n) rfl rfl<|qG _) (λhc=>?_) λhc=>?_)
  ·refine X1 (nh.mp hc) λl hl=>?_;rw[hl]at k⊢;exact NE (TM hle hi hsz) rfl rfl rfl<|k _ _
  ·rw[Option.isSome_eq_false_iff,tU]at hc;have k:=k (some<|.i i)<|some<|aD<|lo lv i
   rw[show mZ (lo lv i) i (gB lv i)=gB lv i by refine rR hc ?_;rfl]at k;exact cu k
 ·(refine rR mP ?_;rewrite[bI])
  exact bX (v:=.e 0) rfl<|K _ _ _ (gu rfl λx hx=>by(refine aC (bV.mp hx) λr U aR=>?_;clear hx;subst aR);exact Nw r 4 _)
noncomputable def vM(rs:List Run)(ro:aG):List Run:=ro.map λi=>rs.getD i (0,0,0)
theorem N0(n:Nat){lv:bj}{ro:aG}(hS:ie lv)(ho:eZ (rlv<|gB lv lv.length) ro)(H:ak):gam (n+3) "" "visual_runs" [.l<|lv.map aD] H=some (.l<|(vM (gB lv lv.length) ro).map c6,H):=by
 refine dX (n:=n+2) (ir:=Iz) (vs:=[.l<|lv.map aD]) (by kernel_rfl) rfl rfl rfl (by simp only[List.all_cons,List.all_nil,Bool.and_true,kY]) ?_;show Ok (aF (gam<|n+2) By [some<|.l<|lv.map aD,none] []) _;have hle:=hS.le;have I:=tg lv lv.length;have el:=NM (n+1) hle ([]:ak);generalize gB lv lv.length=rs at*;have hsz:=I.sz
 have N':ie (rlv rs):=⟨by rw[rlv,bI];exact Gw hle hsz,λl hl=>by
  refine aC (bV.mp hl) λr hr e=>?_;clear hl;obtain rfl:=aK e;have q:=I.ok r hr;have:=hS.aH q.2.2.1;rw[q.2.2.2 r.1 (bY _) q.1 q.2.2.1]at this
  exact this⟩
 unfold By;refine aZ (v:=.l<|rs.map c6) (H1:=[]) (bP (vs:=[.l<|lv.map aD]) (H1:=[]) rfl el) ?_;have e:(ro.map aE).map (gh<|rs.map c6)=(vM rs ro).map c6:=by
  unfold vM;refine rR i6<|rR i6 ?_
  refine m9 λi hi=>?_;refine X1 (h_<|tw.mp<|ho.mem.mp hi) λr hr=>?_;show(rs.map c6).getD i .n=c6 (rs.getD i (0,0,0));rw[fV,fV,cQ,hr];rfl
 refine bX (v:=.l<|(ro.map aE).map<|gh<|rs.map c6) (H':=[]) (nZ (l:=ro.map aE) (H1:=[]) (bP (vs:=[.l<|(rlv rs).map aD]) (H1:=[]) (aJ ?_ bA)<|zy n N' ho _) λx hx=>?_)<|by refine rR e ?_;exact jg λx hx=>by(refine aC (bV.mp hx) λr U aT=>?_;clear hx;subst aT);exact OG r 2
 ·have e2:(rlv rs).map aD=(rs.map c6).map (λx=>match x with|.t [_,_,l]=>l|x=>x):=by unfold rlv;refine rR i6<|rR i6 ?_;rfl
  refine rR e2 ?_;refine nZ (l:=rs.map c6) rfl λx hx=>?_;refine aC (bV.mp hx) λr U aL=>?_;clear hx;subst aL;exact e_idx (p:=c6 r) (q:=.i 2) (by simp only[List.set_cons_succ,List.set_cons_zero,List.cons_append,List.nil_append];(try simp only[wl,bx,reduceIte];try rfl)) (by simp only[List.set_cons_succ,List.set_cons_zero,List.cons_append,List.nil_append];(try simp only[wl,bx,reduceIte];try rfl)) DR
 ·(refine aC (bV.mp hx) λi hi aM=>?_;clear hx;subst aM)
  have:=tw.mp<|ho.mem.mp hi
  exact e_idx (p:=.l<|rs.map c6) (q:=.i i) (by simp only[List.set_cons_succ,List.set_cons_zero,List.cons_append,List.nil_append];(try simp only[wl,bx,reduceIte];try rfl)) (by simp only[List.set_cons_succ,List.set_cons_zero,List.cons_append,List.nil_append];(try simp only[wl,bx,reduceIte];try rfl))<|zd<|by rw[bI];exact this
theorem vN{a b:Nat}(h:a<=b):fk (a:Int) b=((List.range<|b-a).map (a+·)).map aE:=by
 unfold fk;refine rR (show((b:Int)-a).toNat=b-a from Ge)<|rR i6 ?_
 refine m9 λi U=>?_;show PV.i _=PV.i ((a+i:Nat):Int);exact rR (show((a:Int)+i)=((a+i:Nat):Int)from F1) rfl
section
variable {n:Nat}{lv:bj}{f e:Nat}{l:Int}{ae:bf}{H:ak}
theorem On(hle:lv.length<=20)(h1:f<e)(h2:e<=lv.length)(v0:ae[0]?=some (some<|.l<|lv.map aD))(v3:ae[3]?=some (some<|.i f))(v4:ae[4]?=some (some<|.i e))(hl:ae.length=7):
  az (gam n) (.D (.v 7) false ["at"] .r [.v 3,.v 4] [.m .t (.d (.v 0)<|.v 7)<|.c .n]) ae H=some (.l<|(gM lv f e).map aE,H):=by
 have e:=pI (Γ:=gam n) (ae:=ae) (H:=H) (H1:=H) (e:=.v 7) (c:=.m .t (.d (.v 0)<|.v 7)<|.c .n) (nm:="at") (bZ:=[.v 3,.v 4]) (f:=id) (t:=λx=>match x with|.i i=>bH lv i.toNat|_=>false) (vs:=[.i f,.i e]) (aJ (bq v3)<|aJ (bq v4) bA) (pq jx (Ga hle h1 h2) jx<|Gb hle h2) (λx hx=>?_) λx hx U=>kO (i:=0) hl rfl
 ·rw[vN<|Nat.le_of_lt h1,List.map_id,zx (p:=bH lv) λx U=>by simp[aE]]at e;exact e
 ·rw[vN<|Nat.le_of_lt h1]at hx;refine aC (bV.mp hx) λc hc aP=>?_;clear hx;subst aP;refine aC (bV.mp hc) λj hj aN=>?_;clear hc;subst aN;rw[jM]at hj;exact bu (e_idx (p:=.l<|lv.map aD) (q:=.i ((f+j:Nat):Int)) (lO v0) (kO (i:=0) hl rfl)<|dB<|lQ<|Af h2 hj) cL<|qG _
theorem Op(gJ:∀{c},c∈gM lv f e->bH lv c=true/\dw lv c=l)(v0:ae[0]?=some (some<|.l<|lv.map aD))(v5:ae[5]?=some (some<|.i l))(v6:ae[6]?=some (some<|.l<|(gM lv f e).map aE))(hl:ae.length=7):
  az (gam n) (.D (.v 7) false ["at"] .v [.v 6] [.m .n (.d (.v 0)<|.v 7)<|.v 5]) ae H=some (.l [],H):=by
 have Os:((gM lv f e).map aE).filter (λx=>match x with|.i i=>!decide (dw lv i.toNat=l)|_=>false)=[]:=by rw[List.filter_eq_nil_iff];intro x hx;refine aC (bV.mp hx) λc hc aQ=>?_;clear hx;subst aQ;have:=(gJ hc).2;simp[aE,this]
 have:=pI (Γ:=gam n) (ae:=ae) (H:=H) (H1:=H) (e:=.v 7) (c:=.m .n (.d (.v 0)<|.v 7)<|.v 5) (nm:="at") (k:=.v) (bZ:=[.v 6]) (f:=id) (t:=λx=>match x with|.i i=>!decide (dw lv i.toNat=l)|_=>false) (vs:=[.l<|(gM lv f e).map aE]) (aJ (bq v6) bA) fF (λx hx=>?_) λx hx U=>kO (i:=0) hl rfl
 ·rw[Os]at this;exact this
 ·(refine aC (bV.mp hx) λc hc aR=>?_;clear hx;subst aR)
  exact bu (p:=.i<|dw lv c) (q:=.i l) (e_idx (p:=.l<|lv.map aD) (q:=.i c) (lO v0) (kO (i:=0) hl rfl)<|dB<|zv (gJ hc).1) (lO v5)<|by simp[aE,MF]
theorem Oy{a:Nat}{t:aG}:cE H .e (.l<|(a::t).map aE) (.l [])=some false:=by
 have e4:simple 4 (.l<|(a::t).map aE)=true:=gj.mpr<|vJ _ _
 show(if(_||(simple 4 (.l<|(a::t).map aE)&&_))=true then some (fj (.l<|(a::t).map aE)<|.l [])else none)=_;refine rR e4 ?_;rfl
theorem OK{eN:aG}{T:bf->ak->Prop}(hle:lv.length<=20)(r1:f<e)(r2:e<=lv.length)(r3:bH lv f=true)(gJ:∀{c},c∈gM lv f e->bH lv c=true/\dw lv c=l)(hlen:eN.length+(orient lv (f,e,l)).length<=100)
  (v0:ae[0]?=some (some<|.l<|lv.map aD))(v2:ae[2]?=some (some<|.l<|eN.map aE))(v3:ae[3]?=some (some<|.i f))(v4:ae[4]?=some (some<|.i e))(v5:ae[5]?=some (some<|.i l))(hl:ae.length=7)
  (K:∀x,T ((ae.set 6 x).set 2<|some<|.l<|(eN++orient lv (f,e,l)).map aE) H):
  Ok (aF (gam n) [.a 6<|.D (.v 7) false ["at"] .r [.v 3,.v 4] [.m .t (.d (.v 0)<|.v 7)<|.c .n],
  .i (.a false [.m .n (.D (.v 7) false ["at"] .v [.v 6] [.m .n (.d (.v 0)<|.v 7)<|.v 5])<|.l [],.m .e (.v 6)<|.l []])
   [.r<|.c .n]
   [],
  .a 2 (.b .a (.v 2)<|.i (.m .e (.b .o (.v 5)<|.c<|.i 2)<|.c<|.i 0) (.v 6)<|.r<|.v 6)] ae H) (Nx T):=by
 refine aZ (v:=.l<|(gM lv f e).map aE) (H1:=H) (On hle r1 r2 v0 v3 v4 hl) ?_;have sv:∀{j:Nat}{v:PV},6≠j->ae[j]?=some (some v)->(ae.set 6<|some<|.l<|(gM lv f e).map aE)[j]?=some (some v):=λh e=>by rw[jr h];exact e
 have v6:(ae.set 6<|some<|.l<|(gM lv f e).map aE)[6]?=some (some<|.l<|(gM lv f e).map aE):=jL<|by refine rR hl ?_;decide
 have hmem:f∈gM lv f e:=tu.mpr ⟨bY _,r1,r3⟩
 refine bU (c:=false) (H':=H) (pA (c:=false) (d:=false) (bu (p:=.l []) (q:=.l []) (H1:=H) (Op gJ (sv (by decide) v0) (sv (by decide) v5) v6<|by refine rR i5 ?_;exact hl) rfl rfl) λU=>bu (p:=.l<|(gM lv f e).map aE) (q:=.l []) (bq v6) rfl (by
  cases hs:gM lv f e with
  |nil=>rw[hs]at hmem;cases hmem
  |cons a t=>exact Oy)) nB λU=>?_
 refine aZ (v:=.l<|(eN++orient lv (f,e,l)).map aE) (H1:=H) (dD (p:=.l<|eN.map aE) (q:=.l<|(orient lv (f,e,l)).map aE) (H1:=H) (bq<|sv (by decide) v2) (iB (c:=decide<|l %2=0) (bu (p:=.i<|l %2) (q:=.i 0) (dD (p:=.i l) (q:=.i 2) (bq<|sv (by decide) v5) cL rfl) cL rfl) (λhc=>?_) λhc=>?_) ?_)<|cu<|K _
 ·unfold orient;refine rR (bw<|cG hc) ?_;exact bq v6
 ·unfold orient;refine rR (bO<|lW hc)<|rR tM<|rR DN<|rR (bq v6) ?_;rfl
 ·exact rR (yM<|by rw[bI,bI];exact eR hlen<|by decide)<|rR kB rfl
end
theorem O'{α β:Type}{rs:List α}{g:α->List β}{i m:Nat}{r:α}(pK:rs[i]?=some r)(hz:(rs.flatMap g).length<=m):((rs.take i).flatMap g).length+(g r).length<=m:=by
 have hi:=cH pK;have:rs.flatMap g=(rs.take i).flatMap g++(g r++(rs.drop<|i+1).flatMap g):=by
  refine rL List.flatMap_cons<|rL List.flatMap_append ?_
  congr 1;rw[eE hi]at pK;refine rL (aK pK)<|rL (tG hi) ?_
  rw[q7]
 rw[this,gF,gF,<-Nat.add_assoc]at hz;exact eR (jt _ _) hz
theorem Pi(n:Nat){lv:bj}{rs:List Run}(hS:ie lv)(hr:∀r∈rs,r.1<r.2.1/\r.2.1<=lv.length/\bH lv r.1=true/\∀c,r.1<=c->c<r.2.1->bH lv c=true->dw lv c=r.2.2)(hz:(rs.flatMap<|orient lv).length<=100)(H:ak):
  gam (n+1) "" "_law_tiled" [.l<|lv.map aD,.l<|rs.map c6] H=some (.l<|(rs.flatMap<|orient lv).map aE,H):=by
 refine qy (ir:=IP) (vs:=[.l<|lv.map aD,.l<|rs.map c6]) (by kernel_rfl) rfl rfl rfl (by simp only[List.all_cons,List.all_nil,Bool.and_true,kY,Bool.true_and];exact No rs 6) λT K=>?_;show Ok (aF (gam n) BL [some<|.l<|lv.map aD,some<|.l<|rs.map c6,none,none,none,none,none] []) T;unfold BL;refine aZ (v:=.l []) (H1:=[]) rfl ?_;refine lK (vs:=[.l<|rs.map c6]) (items:=rs.map c6) (λ(x:aG) (z:bR×bR×bR×bR)=>[some<|.l<|lv.map aD,some<|.l<|rs.map c6,some<|.l<|x.map aE,z.1,z.2.1,z.2.2.1,z.2.2.2]) (λU U U=>[]) (λi x U=>x=(rs.take i).flatMap (orient lv)) [] (none,none,none,none)
  rfl rfl fF rfl (λi x eN z hx hj T k=>?_) (λx z hj=>?_)
 ·rw[cQ]at hx;refine aC (gV.mp hx) λr pK aT=>?_;clear hx;subst aT;refine U3 (hr r<|dY pK) λr1 r2 r3 r4=>?_;have hlen:=O' pK hz;have htk:(rs.take<|i+1).flatMap (orient lv)=eN++orient lv r:=by refine rR pS<|rR pK<|rR hj<|rR List.flatMap_append ?_;exact congrArg _ (List.flatMap_singleton ..)
  rw[<-hj]at hlen;rw[htk]at k;clear pK htk;obtain⟨f,e,l⟩:=r
  exact⟨_,rfl,OK hS.le r1 r2 r3 (λ{c} hc=>by
   have:=tu.mp hc
   exact⟨this.2.2,r4 c this.1 this.2.1 this.2.2⟩) hlen rfl rfl rfl rfl rfl rfl λx=>k _ (_,_,_,x) rfl⟩
 ·rw[bI,m_]at hj;subst hj;exact bX (v:=.l<|(rs.flatMap<|orient lv).map aE) rfl<|K _ _ _ (jg λx hx=>dj<|.inr<|.inr<|.inl<|ints_of _ x hx)
noncomputable def Le{α:Type}(a b:Option α):Prop:=∀r,a=some r->b=some r
theorem Le.refl{α:Type}(a:Option α):Le a a:=λU h=>h
theorem Le.bind{α β:Type}{a b:Option α}{f g:α->Option β}(h:Le a b)(k:∀x,Le (f x)<|g x):Le (a.bind f) (b.bind g):=λr hr=>by refine aC (Option.bind_eq_some_iff.mp hr) λx h1 h2=>?_;refine rR (h x h1) ?_;exact k x r h2
theorem Le.map{α β:Type}{a b:Option α}{f:α->β}(h:Le a b):Le (a.map f) (b.map f):=λr hr=>by refine aC (gV.mp hr) λx h1 h2=>?_;refine rR (h x h1)<|rL h2 ?_;rfl
theorem Le.ite{α:Type}{c:Prop}[Decidable c]{a b a' b':Option α}(h1:Le a a')(h2:Le b b'):Le (if c then a else b) (if c then a' else b'):=by
 split
 ·exact h1
 ·exact h2
theorem Le.sd{α:Type}{v:PV}{f g:aY->au->Option α}(h:∀ks l,Le (f ks l)<|g ks l):Le (uq v f) (uq v g):=by
 induction v using d7<;>first|exact h _ _|exact Le.refl _
theorem Le.Pl{α:Type}{v:PV}{f g:(Int->bK)->Option α}(h:∀i,Le (f i)<|g i):Le (uo v f) (uo v g):=by
 induction v using d7<;>first|exact h _|exact Le.refl _
abbrev qQ(Γ Γ':b7):Prop:=∀c f args H,Le (Γ c f args H)<|Γ' c f args H
theorem OH{s s':PV->ak->Option (bR×ak)}(h:∀x H,Le (s x H)<|s' x H):∀(l:au)(H:ak),Le (jT s l H)<|jT s' l H
 |[],H=>Le.refl _
 |x::r,H=>by exact(h x H).bind λp=>(OH h r p.2).map
mutual
theorem c9{Γ Γ':b7}(h:qQ Γ Γ'):∀(e:CE)(ae:bf)(H:ak),Le (az Γ e ae H)<|az Γ' e ae H
 |.c p,ae,H=>Le.refl _
 |.v i,ae,H=>Le.refl _
 |.g x p,ae,H=>Le.refl _
 |.t es,ae,H=>(n9 h es ae H).map
 |.l es,ae,H=>(n9 h es ae H).map
 |.e es,ae,H=>(n9 h es ae H).map
 |.b op a b,ae,H=>(c9 h a ae H).bind λx=>(c9 h b ae _).bind λy=>Le.refl _
 |.n a,ae,H=>(c9 h a ae H).bind λx=>Le.refl _
 |.o a,ae,H=>(c9 h a ae H).bind λx=>Le.refl _
 |.m op a b,ae,H=>(c9 h a ae H).bind λx=>(c9 h b ae _).bind λy=>Le.refl _
 |.p o1 o2 a b c,ae,H=>(c9 h a ae H).bind λx=>(c9 h b ae _).bind λy=>(Le.refl _).bind λt=>Le.ite ((c9 h c ae _).bind λz=>Le.refl _)<|Le.refl _
 |.a cA es,ae,H=>leB h cA es ae H
 |.i t a b,ae,H=>(c9 h t ae H).bind λx=>(Le.refl _).bind λc=>Le.ite (c9 h a ae _)<|c9 h b ae _
 |.d a b,ae,H=>(c9 h a ae H).bind λx=>(c9 h b ae _).bind λy=>Le.refl _
 |.s a b c,ae,H=>(c9 h a ae H).bind λx=>(c9 h b ae _).bind λy=>(c9 h c ae _).bind λz=>Le.refl _
 |.r a,ae,H=>(c9 h a ae H).bind λx=>Le.refl _
 |.f a f,ae,H=>(c9 h a ae H).bind λx=>Le.refl _
 |.h f es,ae,H=>(n9 h es ae H).bind λr=>h _ _ _ _
 |.j o m es,ae,H=>(c9 h o ae H).bind λx=>(Le.refl _).bind λc=>(Le.ite (Le.refl _)<|n9 h es ae _).bind λr=>h _ _ _ _
 |.k b es,ae,H=>(n9 h es ae H).bind λr=>Le.refl _
 |.q a b,ae,H=>(c9 h a ae H).bind λx=>(Le.refl _).bind λU=>(c9 h b ae _).bind λy=>Le.refl _
 |.x a b,ae,H=>(c9 h a ae H).bind λx=>(Le.refl _).bind λU=>(c9 h b ae _).bind λy=>Le.refl _
 |.u a,ae,H=>(c9 h a ae H).bind λx=>Le.refl _
 |.w d k,ae,H=>(c9 h d ae H).bind λx=>Le.sd λks l=>(c9 h k ae _).bind λy=>Le.refl _
 |.y d k v,ae,H=>(c9 h d ae H).bind λx=>Le.Pl λf=>(c9 h k ae _).bind λy=>(c9 h v ae _).bind λz=>Le.refl _
 |.z n,ae,H=>(c9 h n ae H).bind λx=>Le.refl _
 |.A,ae,H=>Le.refl _
 |.B,ae,H=>Le.refl _
 |.C ks ps,ae,H=>Le.refl _
 |.D elt tp tn k bZ cond,ae,H=>by
  refine(n9 h bZ ae H).bind λr=>(Le.refl _).bind λitems=>Le.map<|OH (λx H=>(Le.refl _).bind λown=>?_) _ _
  exact(leB h true cond (ae++own) H).bind λc=>(Le.refl _).bind λb=>Le.ite (c9 h elt (ae++own) _).map<|Le.refl _
theorem n9{Γ Γ':b7}(h:qQ Γ Γ'):∀(es:List CE)(ae:bf)(H:ak),Le (cX Γ es ae H)<|cX Γ' es ae H
 |[],ae,H=>Le.refl _
 |e::es,ae,H=>(c9 h e ae H).bind λx=>(n9 h es ae _).map
theorem leB{Γ Γ':b7}(h:qQ Γ Γ'):∀(cA:Bool)(es:List CE)(ae:bf)(H:ak),Le (jz Γ cA es ae H)<|jz Γ' cA es ae H
 |_,[],ae,H=>Le.refl _
 |cA,e::es,ae,H=>(c9 h e ae H).bind λx=>(Le.refl _).bind λb=>Le.ite (leB h cA es ae _)<|Le.refl _
end
theorem EU{s s':PV->bf->ak->Rs}(h:∀x ae H,Le (s x ae H)<|s' x ae H):∀(l:au)(ae:bf)(H:ak),Le (oH s l ae H)<|oH s' l ae H
 |[],ae,H=>Le.refl _
 |x::r,ae,H=>by
  refine(h x ae H).bind λt=>?_;split
  ·exact EU h r _ _
  ·exact EU h r _ _
  ·exact Le.refl _
  ·exact Le.refl _
theorem EV{t t':bf->ak->Option (Bool×ak)}{b b':bf->ak->Rs}(ht:∀ae H,Le (t ae H)<|t' ae H)(hb:∀ae H,Le (b ae H)<|b' ae H):∀(n:Nat)(ae:bf)(H:ak),Le (oJ t b n ae H)<|oJ t' b' n ae H
 |0,ae,H=>Le.refl _
 |n+1,ae,H=>by
  refine(ht ae H).bind λx=>Le.ite ((hb ae _).bind λu=>?_)<|Le.refl _
  split
  ·exact EV ht hb n _ _
  ·exact EV ht hb n _ _
  ·exact Le.refl _
  ·exact Le.refl _
mutual
theorem Pm{Γ Γ':b7}(h:qQ Γ Γ'):∀(s:CS)(ae:bf)(H:ak),Le (iy Γ s ae H)<|iy Γ' s ae H
 |.a i e,ae,H=>(c9 h e ae H).map
 |.s is e,ae,H=>(c9 h e ae H).bind λx=>Le.refl _
 |.e o f e,ae,H=>(c9 h e ae H).bind λx=>(c9 h o ae _).bind λy=>Le.refl _
 |.t o i e,ae,H=>(c9 h e ae H).bind λx=>(c9 h o ae _).bind λy=>(c9 h i ae _).bind λz=>Le.refl _
 |.f tp tgt k bZ body,ae,H=>by exact(n9 h bZ ae H).bind λr=>(Le.refl _).bind λitems=>EU (λx cT H1=>(Le.refl _).bind λjU=>n_ h body jU H1) _ _ _
 |.w t body,ae,H=>by exact EV (λae H=>(c9 h t ae H).bind λx=>Le.refl _) (λae H=>n_ h body ae H) _ _ _
 |.i t a b,ae,H=>(c9 h t ae H).bind λx=>(Le.refl _).bind λc=>Le.ite (n_ h a ae _)<|n_ h b ae _
 |.r e,ae,H=>(c9 h e ae H).map
 |.x e,ae,H=>(c9 h e ae H).map
 |.b,ae,H=>Le.refl _
 |.c,ae,H=>Le.refl _
 |.z i,ae,H=>Le.refl _
theorem n_{Γ Γ':b7}(h:qQ Γ Γ'):∀(ss:List CS)(ae:bf)(H:ak),Le (aF Γ ss ae H)<|aF Γ' ss ae H
 |[],ae,H=>Le.refl _
 |s::r,ae,H=>by
  refine(Pm h s ae H).bind λt=>?_;split
  ·exact n_ h r _ _
  ·exact Le.refl _
end
theorem Ps{Γ Γ':b7}(h:qQ Γ Γ')(ir:bl)(args:au)(H:ak):Le (jA Γ ir args H) (jA Γ' ir args H):=by
 unfold jA;refine(Le.refl _).bind λvs=>?_;split
 ·exact Le.ite ((n_ h _ _ _).bind λr=>Le.refl _)<|Le.refl _
 ·exact(n_ h _ _ _).map
 ·exact Le.ite ((n_ h _ _ _).bind λr=>Le.refl _)<|Le.refl _
 ·exact(n_ h _ _ _).bind λr=>Le.refl _
theorem OI:∀n,qQ (gam n)<|gam<|n+1
 |0=>λc f args H r hr=>nN hr
 |n+1=>λc f args H=>by rw[uZ,uZ];exact(Le.refl _).bind λir=>Ps (OI n) ir args H
theorem OJ{n m:Nat}(h:n<=m){c f:String}{args:au}{H:ak}{r:PV×ak}(e:gam n c f args H=some r):gam m c f args H=some r:=by
 induction h with
 |refl=>exact e
 |step _ ih=>exact OI _ _ _ _ _ _ ih
structure vO (cs:bk)(w:String)(lv:bj)(base:Int):Prop where
 T:mT cs
 lk:zj (aW cs) lv
 OL:∀n H,gam (n+9) "" "bidi_levels" [bM cs,bB,.s w] H=some (.l<|lv.map aD,H)
 b:0<=base/\base<=1
 bE:∀n H,gam (n+5) "" "base_level" [bM cs,bB,.s w] H=some (.i base,H)
theorem Pv{cs:bk}{w:String}(hT:mT cs)(hw:isWord w):∃lv base,vO cs w lv base:=by refine aC (FC 0 hT hw) λlv h1 h2=>?_;refine aC (FM 0 hT hw) λb h3 h4=>?_;exact I2 lv b ⟨hT,h1,λn H=>OJ (n:=0+9) TN<|h2 H,h3,λn H=>OJ (n:=0+5) TP<|h4 H⟩
noncomputable def lT:bK->Bool
 |none=>false
 |some l=>decide<|l %2=1
noncomputable def gC(cs:bk)(i:Nat):Int:=cs.getD i 0
theorem vP{cs:bk}{i:Nat}(h:i<cs.length):(cs.map br)[i]?=some (.i<|gC cs i):=by rw[cQ,eE h,gC,fV,eE h];rfl
theorem PH{cs:bk}{i:Nat}(h:i<cs.length):gC cs i∈cs:=by rw[gC,fV,eE h];exact tK h
def oh(c:Int)(o:bK):Int:=if(decide (c=40)||decide (c=41))&&lT o then 81-c else c
noncomputable def zD(p:PV)(c:Int):Int:=match p with
 |.i k=>k
 |_=>c
def d9(cs:bk)(lv:bj):bk:=(List.range cs.length).map λi=>oh (gC cs i)<|lo lv i
theorem vQ(cs:bk)(lv:bj):(d9 cs lv).length=cs.length:=by simp[d9]
theorem PP{cs:bk}{lv:bj}{i:Nat}(h:i<cs.length):((d9 cs lv).take<|i+1).map br=((d9 cs lv).take i).map br++[.i<|oh (gC cs i)<|lo lv i]:=by
 refine rR pS<|rR kB ?_
 congr 1;unfold d9;rw[cQ,lU h];rfl
theorem OM(n:Nat){cs:bk}{lv:bj}(hc:kT cs)(hl:lv.length=cs.length)(hle:cs.length<=20)(H:ak):gam (n+4) "" "mirrored" [bM cs,.l<|lv.map aD,bB] H=some (.l<|(d9 cs lv).map br,H):=by
 refine dX (n:=n+3) (ir:=IC) (vs:=[bM cs,.l<|lv.map aD,bB]) (by kernel_rfl) rfl rfl rfl (by simp only[List.all_cons,List.all_nil,Bool.and_true,kY,n7,jj]) ?_;show Ok (aF (gam<|n+3) BC [some<|bM cs,some<|.l<|lv.map aD,some bB,none,none,none,none,none] []) _;unfold BC;refine aZ (v:=.e 0) (H1:=[some<|.l []]) rfl ?_;refine gr (H':=[some<|.l []]) (vs:=[bM cs]) (items:=dU<|cs.map br) (λi ae H=>∃o4 o5 o6 o7,ae=[some<|bM cs,some<|.l<|lv.map aD,some bB,some<|.e 0,o4,o5,o6,o7]/\H=[some<|.l<|((d9 cs lv).take i).map br])
  rfl ji (Fo none none none none rfl rfl) (λi x ae H hx hI=>?_) (λae H hI=>?_)
 ·(refine E9 hI λo4 o5 o6 o7 aL aM=>?_;subst aL;clear hI;subst aM)
  refine aC (j6 hx) λv hv aP=>?_;subst aP;have hi:=cH hv;rw[bI]at hi;rw[vP hi]at hv;clear hx;obtain rfl:=aK hv;have hcode:=hc _ (PH hi);have hnext:=PP (lv:=lv) hi;have pG:((d9 cs lv).take i).length<=20:=by refine rR gU ?_;exact TQ hle hi
  generalize ((d9 cs lv).take i)=X at*;generalize gC cs i=c at*;refine aA _ rfl ?_;refine aZ (v:=aD<|lo lv i) (H1:=[some<|.l<|X.map br]) (e_idx (p:=.l<|lv.map aD) (q:=.i i) rfl rfl<|dB<|lQ<|TS hl hi) ?_;have hand:az (gam<|n+3) (.a true [.m .t (.v 6)<|.c .n,.m .e (.b .o (.v 6)<|.c<|.i 2)<|.c<|.i 1]) [some<|bM cs,some<|.l<|lv.map aD,some bB,some<|.e 0,some<|.i i,some<|.i c,some<|aD<|lo lv i,o7] [some<|.l<|X.map br]=some (.b<|lT<|lo lv i,[some<|.l<|X.map br]):=by
   cases lo lv i with
   |none=>exact f_ (c:=false) (d:=false) (bu (p:=.n) (q:=.n) rfl rfl rfl) nofun
   |some l=>exact f_ (c:=true) (d:=decide<|l %2=1) (bu (p:=.i l) (q:=.n) rfl rfl rfl) λU=>bu (p:=.i<|l %2) (q:=.i 1) (dD (p:=.i l) (q:=.i 2) rfl rfl rfl) rfl rfl
  refine aZ (v:=if lT (lo lv i)then nU c else .n) (H1:=[some<|.l<|X.map br]) (iB hand (λh=>?_) λh=>?_) ?_
  ·refine rR h<|rR (bw rfl) ?_
   exact vf (p:=.i c) rfl rfl<|ui n hcode _
  ·refine rR h (rR (bO<|by decide) ?_);(try simp only[wl,bx,reduceIte];try rfl)
  have hval:oh c (lo lv i)=zD (if lT (lo lv i)then nU c else PV.n) c:=by
   unfold oh nU;cases lT (lo lv i)with
   |false=>simp[zD]
   |true=>
    by_cases h1:c=40
    ·clear hv hcode hnext hand;subst h1;rfl
    ·by_cases h2:c=41
     ·clear hv hcode hnext hand h1;subst h2;rfl
     ·simp[h1,h2,zD]
  have hm:(if lT (lo lv i)then nU c else PV.n)=.n\/∃k,(if lT (lo lv i)then nU c else PV.n)=.i k:=by
   unfold nU;split
   ·split
    ·exact .inr ⟨_,rfl⟩
    ·split
     ·exact .inr ⟨_,rfl⟩
     ·exact .inl rfl
   ·exact .inl rfl
  rw[hval]at hnext;generalize (if lT (lo lv i)then nU c else PV.n)=PQ at*;refine eW (m:=0) (l1:=X.map br) (l2:=X.map br) (v:=.i<|zD PQ c) (H1:=[some<|.l<|X.map br]) (H2:=[some<|.l<|X.map br]) rfl rfl ?_ rfl (by simp;exact TU pG)<|cu<|Fo _ _ _ _ rfl ?_
  ·clear hnext hval;rcases hm with rfl|⟨k,rfl⟩
   ·exact iB (c:=true) (bu (p:=.n) (q:=.n) rfl rfl rfl) (λU=>rfl) nofun
   ·exact iB (c:=false) (bu (p:=.i k) (q:=.n) rfl rfl rfl) nofun λU=>rfl
  ·refine rR hnext ?_;rfl
 ·(refine E9 hI λo4 o5 o6 o7 aN aQ=>?_;clear hI;subst aN;subst aQ)
  refine rR mP ?_;rewrite[bI];refine rR (tO<|by rw[vQ];exact bY _) ?_;exact bX (v:=.e 0) rfl<|gu rfl (kU _).b8
theorem P2(n:Nat)(c l:Int)(H:ak):gam (n+4) "" "is_line_mark" [.i c,.i l,bB] H=some (.b false,H):=by refine dX (n:=n+3) (ir:=IA) (vs:=[.i c,.i l,bB]) (by kernel_rfl) rfl rfl rfl (by simp only[List.all_cons,List.all_nil,Bool.and_true,jj];rfl) ?_;show Ok (aF (gam<|n+3) BA [some<|.i c,some<|.i l,some bB] []) _;unfold BA;refine bX (v:=.b<|decide (l %2=1)&&false) (H':=[]) (f_ (bu (p:=.i<|l %2) (q:=.i 1) rfl rfl rfl) λU=>bu (p:=.s "Cn") (q:=Aw) (vf (p:=.i c) rfl rfl<|uj n _) rfl rfl)<|by rw[Bool.and_false];rfl
theorem P3(n:Nat){cs:bk}{lv:bj}{o:aG}(hl:lv.length=cs.length)(ho:∀x∈o,bH lv x=true)(jn:o.length<=100)(H:ak):gam (n+5) "" "marks_behind" [.l<|o.map aE,.l<|lv.map aD,bM cs,bB] H=some (.l<|o.map aE,H):=by
 refine dX (n:=n+4) (ir:=IB) (vs:=[.l<|o.map aE,.l<|lv.map aD,bM cs,bB]) (by kernel_rfl) rfl rfl rfl (by simp only[List.all_cons,List.all_nil,Bool.and_true,kY,n7,jj,(ints_of o).fz]) ?_;show Ok (aF (gam<|n+4) BB [some<|.l<|o.map aE,some<|.l<|lv.map aD,some<|bM cs,some bB,none,none,none] []) _;unfold BB;refine aZ (v:=.e 0) (H1:=[some<|.l []]) rfl ?_;refine aZ (v:=.e 1) (H1:=[some<|.l [],some<|.l []]) rfl ?_;refine gr (H':=[some<|.l [],some<|.l []]) (vs:=[.l<|o.map aE]) (items:=o.map aE) (λi ae H=>∃(r:Nat)(o6:bR),0<r/\ae=[some<|.l<|o.map aE,some<|.l<|lv.map aD,some<|bM cs,some bB,some<|.e 0,some<|.e r,o6]/\H[0]?=some (cV<|o.take i)/\H[r]?=some (some<|.l []))
  rfl fF (fy 1 none (by decide) rfl rfl rfl) (λi x ae H hx hI=>?_) (λae H hI=>?_)
 ·(refine eJ hI λr o6 h1 aR h2 h3=>?_;clear hI;subst aR)
  rw[cQ]at hx;refine aC (gV.mp hx) λp hp aT=>?_;clear hx;subst aT;have hi:=cH hp;have hpp:=ho p<|dY hp
  have hlt:=ic hpp;have htk:o.take (i+1)=o.take i++[p]:=by refine rR pS<|rR hp ?_;rfl
  have pG:(o.take i).length<=100:=by refine rR gU ?_;exact TV jn
  refine rR htk ?_;generalize o.take i=X at*;refine aA _ rfl ?_;refine bU (c:=false) (H':=H) (f_ (c:=false) (d:=false) (bu (p:=.e r) (q:=.l []) (H1:=H) rfl rfl<|vL (w:=[]) h3 λU h=>nomatch h) nofun) nB λU=>?_;refine bU (c:=false) (H':=H) (bP (vs:=[.i<|gC cs p,.i<|dw lv p,bB]) (H1:=H) (aJ (e_idx (p:=bM cs) (q:=.i p) rfl rfl<|dB<|vP<|TX hl hlt)<|aJ (e_idx (p:=.l<|lv.map aD) (q:=.i p) rfl rfl<|dB<|zv hpp) rfl)<|P2 n _ _ _) nB λU=>?_;refine eW (m:=0) (l1:=X.map aE) (l2:=X.map aE) (v:=aE p) (H1:=H) (H2:=H) rfl h2 rfl h2 (by simp;exact Ae pG) ?_;refine rR (show some (AO.l<|X.map aE++[aE p])=cV (X++[p]) by simp[cV]) ?_;have g2:(H.set 0<|cV<|X++[p])[0]?=some (cV<|X++[p]):=mX h2;have g3:(H.set 0<|cV<|X++[p])[r]?=some (some<|.l []):=by refine rR (Oa<|TY h1) ?_;exact h3
  generalize H.set 0 (cV<|X++[p])=H2 at*;refine sP (m:=0) (l1:=(X++[p]).map aE) (l2:=(X++[p]).map aE) (v:=.l []) (r:=[]) (H1:=H2) (H2:=H2) rfl g2 (Eu (m:=r) (l:=[]) rfl g3) g2 rfl (by simp;exact TZ pG) ?_;rw[pM];have k2:(H2.set 0<|some<|AO.l<|(X++[p]).map aE)[0]?=some (cV<|X++[p]):=mX g2;generalize H2.set 0 (some<|AO.l<|(X++[p]).map aE)=H3 at*;refine aZ (v:=.e H3.length) (H1:=H3++[some<|.l []]) Ew<|cu<|fy H3.length _ (by have:=cH k2;exact Gp this) rfl (Ob k2) ?_
  rw[ku<|bY _,pT];rfl
 ·(refine eJ hI λr o6 h1 aL h2 h3=>?_;clear hI;subst aL)
  rw[bI,m_]at h2;refine sP (m:=0) (l1:=o.map aE) (l2:=o.map aE) (v:=.e r) (r:=[]) (H1:=H) (H2:=H) rfl h2 rfl h2 (by simp only[fh,h3]) (by simp;exact Ae jn) ?_;rw[pM];exact bX (v:=.e 0) rfl<|gu (mX h2) (ints_of o).b8
noncomputable def k6(cs:bk)(a b:Nat):bk:=(cs.take b).drop a
theorem ON{cs:bk}(h:kT cs)(a b:Nat):kT (k6 cs a b):=λc hc=>h c<|List.mem_of_mem_take<|List.mem_of_mem_drop hc
theorem EW{cs:bk}{a b:Nat}(h:b<=cs.length):(k6 cs a b).length=b-a:=by unfold k6;refine rR pO<|rR gU ?_;exact T3 h
theorem zE(lv:bj)(ks:aY)(base:Int)(a b:Nat):(gi lv ks base a b).length=b-a:=by simp[gi]
theorem OO{cs:bk}{lv:bj}{a b:Nat}{base:Int}(L:mV cs lv a b)(hb:0<=base/\base<=1):ie (gi lv (aW cs) base a b):=by
 refine⟨by rw[zE];have:=L.T.le;have:=L.bn;(first|lia|omega),λl hl=>?_⟩;unfold gi at hl;refine aC (bV.mp hl) λj hj e=>?_;rw[jM]at hj;unfold qK at e;refine aC (gV.mp e) λl0 h1 h2=>?_;have:=L.lv.bd l0<|dY (i:=a+j)<|by exact rR (zk<|by rw[L.n];have:=L.bn;exact T4 hj this)<|rR h1 rfl
 split at h2<;>(first|lia|omega)
theorem Qb(n:Nat){cs:bk}{w:String}{lv:bj}{base:Int}{a b:Nat}{o:aG}(hw:isWord w)(X:vO cs w lv base)(L:mV cs lv a b)(ho:eZ (gi lv (aW cs) base a b) o)(H:ak):
  gam (n+10) "" "shown_lines" [bM cs,bB,.s w,.l [.t [.i a,.i b]]] H=some (.l [.l<|(o.map aE).map<|gh<|(d9 (k6 cs a b)<|gi lv (aW cs) base a b).map br],H):=by
 refine dX (n:=n+9) (ir:=IE) (vs:=[bM cs,bB,.s w,.l [.t [.i a,.i b]]]) (by kernel_rfl) rfl rfl rfl (by simp only[List.all_cons,List.all_nil,Bool.and_true,n7,jj,Bool.true_and];rfl) ?_;show Ok (aF (gam<|n+9) BE [some<|bM cs,some bB,some<|.s w,some<|.l [.t [.i a,.i b]],none,none,none,none,none,none,none,none,none] []) _;have hlen:=X.T.le;have hbn:=L.bn;have hab:=L.ab;have hS:=OO L X.b;have mR:=zE lv (aW cs) base a b;have hcl:=EW (a:=a) hbn;have e1:=λH=>NS (n+8) (base:=base) L H;generalize gi lv (aW cs) base a b=now at*;have sZ:(k6 cs a b).map br=((cs.map br).take b).drop a:=by(rewrite[k6];exact rR List.map_drop<|rR List.map_take rfl)
 have zF:=ON X.T.ok a b;generalize k6 cs a b=pc at*
 have hint:dJ ((o.map aE).map<|gh<|(d9 pc now).map br):=λx hx=>kU (d9 pc now) x (vt (λy hy=>by
  have:=ic<|ho.mem.mp hy
  rw[bI,vQ];exact Gx mR hcl this) hx)
 unfold BE;refine kP (l:=[.l<|lv.map aD,.l<|(aW cs).map bQ]) (H1:=[]) (j7<|aJ (bP (vs:=[bM cs,bB,.s w]) (H1:=[]) rfl<|X.OL n _)<|aJ (bP (vs:=[bM cs,bB]) (H1:=[]) rfl<|Ej (n+5) X.T.ok _) bA) rfl ?_;refine aZ (v:=.i base) (H1:=[]) (bP (vs:=[bM cs,bB,.s w]) (H1:=[]) rfl<|X.bE (n+4) _) ?_;refine aZ (v:=.e 0) (H1:=[some<|.l []]) rfl ?_
 refine gr (H':=[some<|.l []]) (vs:=[.l [.t [.i a,.i b]]]) (items:=[.t [.i a,.i b]]) (λi ae H=>∃o8 o9 qI qJ EX,ae=[some<|bM cs,some bB,some<|.s w,some<|.l [.t [.i a,.i b]],some<|.l<|lv.map aD,some<|.l<|(aW cs).map bQ,some<|.i base,some<|.e 0,o8,o9,qI,qJ,EX]/\
   H=[some<|.l<|[PV.l<|(o.map aE).map<|gh<|(d9 pc now).map br].take i])
  rfl fF (wF none none none none none rfl rfl) (λi x ae H hx hI=>?_) (λae H hI=>?_)
 ·(refine wu hI λo8 o9 qI qJ EX aM aP=>?_;subst aM;subst aP)
  have hi:=cH hx;obtain rfl:i=0:=by simp at hi;exact F8 hi
  obtain rfl:=aK hx;refine aA _ rfl ?_;refine aZ (v:=.l<|now.map aD) (H1:=[some<|.l []]) (bP (vs:=[.l<|lv.map aD,.l<|(aW cs).map bQ,.t [.i a,.i b],.i base]) (H1:=[some<|.l []]) rfl<|e1 _) ?_
  refine aZ (v:=bM pc) (H1:=[some<|.l []]) (pF (p:=bM cs) (q:=.i a) (r:=.i b) (H1:=[some<|.l []]) (H2:=[some<|.l []]) rfl rfl rfl (by
   unfold bM
   exact rR (vC (F7 hlen hbn hab) (wU hlen hbn) (by simp;exact ud hbn)<|gX hab)<|rR sZ rfl)) ?_
  refine aZ (v:=.l<|o.map aE) (H1:=[some<|.l []]) (bP (vs:=[.l<|o.map aE,.l<|now.map aD,bM pc,bB]) (H1:=[some<|.l []]) (aJ (bP (vs:=[.l<|now.map aD]) rfl<|zy (n+7) hS ho _) rfl)<|P3 (n+4) (Gy mR hcl) (λx hx=>ho.mem.mp hx) (by have:=ho.len;exact T5 hlen hbn mR this) _) ?_;refine aZ (v:=.l<|(d9 pc now).map br) (H1:=[some<|.l []]) (bP (vs:=[bM pc,.l<|now.map aD,bB]) (H1:=[some<|.l []]) rfl<|OM (n+5) zF (Gy mR hcl) (T6 hlen hbn hcl) _) ?_;refine eW (m:=0) (l1:=[]) (l2:=[]) (v:=.l<|(o.map aE).map<|gh<|(d9 pc now).map br) (H1:=[some<|.l []]) (H2:=[some<|.l []]) rfl rfl (nZ (l:=o.map aE) rfl λx hx=>?_) rfl (by simp)<|cu<|wF _ _ _ _ _ rfl rfl
  refine aC (bV.mp hx) λj hj aN=>?_;clear hx;subst aN;have:=ic<|ho.mem.mp hj
  exact e_idx (p:=.l<|(d9 pc now).map br) (q:=.i j) (by simp only[bx,List.set_cons_succ,List.set_cons_zero,List.cons_append,List.nil_append];(try simp only[wl,bx,reduceIte];try rfl)) (by simp only[bx,List.set_cons_succ,List.set_cons_zero,List.cons_append,List.nil_append];(try simp only[wl,bx,reduceIte];try rfl))<|zd<|by rw[bI,vQ];exact Gx mR hcl this
 ·(refine wu hI λo8 o9 qI qJ EX aQ aR=>?_;clear hI;subst aQ;subst aR)
  refine bX (v:=.e 0) rfl (gu (l:=[PV.l<|(o.map aE).map<|gh<|(d9 pc now).map br]) rfl λx hx=>?_);refine rR (dO.mp hx) ?_;exact jg λy hy=>dj<|.inr<|.inr<|.inl<|hint y hy
theorem Qr(n:Nat){cs:bk}{w:String}{lv:bj}{base:Int}{a b:Nat}{o:aG}(hw:isWord w)(X:vO cs w lv base)(L:mV cs lv a b)(ho:eZ (gi lv (aW cs) base a b) o)(H:ak):
  gam (n+11) "" "shown" [bM cs,bB,.s w,.t [.i a,.i b]] H=some (.l<|(o.map aE).map<|gh<|(d9 (k6 cs a b)<|gi lv (aW cs) base a b).map br,H):=by
 refine dX (n:=n+10) (ir:=IF) (vs:=[bM cs,bB,.s w,.t [.i a,.i b]]) (by kernel_rfl) rfl rfl rfl (by simp only[List.all_cons,List.all_nil,Bool.and_true,n7,jj,Bool.true_and];rfl) ?_;show Ok (aF (gam<|n+10) BF [some<|bM cs,some bB,some<|.s w,some<|.t [.i a,.i b]] []) _;have e:=Qb n hw X L ho []
 have hint:dJ ((o.map aE).map<|gh<|(d9 (k6 cs a b)<|gi lv (aW cs) base a b).map br):=λx hx=>kU (d9 _ _) x (vt (λy hy=>by
  have:=ic<|ho.mem.mp hy
  rw[zE]at this;rewrite[bI,vQ]
  refine rR (EW L.bn) ?_;exact this) hx)
 unfold BF
 refine bX (v:=.l<|(o.map aE).map<|gh<|(d9 (k6 cs a b)<|gi lv (aW cs) base a b).map br) (H':=[]) (e_idx (p:=.l [.l<|(o.map aE).map<|gh<|(d9 (k6 cs a b)<|gi lv (aW cs) base a b).map br]) (q:=.i 0) (bP (vs:=[bM cs,bB,.s w,.l [.t [.i a,.i b]]]) (H1:=[])
  (aJ rfl<|aJ rfl<|aJ rfl<|aJ (M0<|aJ (iB (c:=false) (bu (p:=.t [.i a,.i b]) (q:=.n) rfl rfl rfl) nB λU=>rfl) bA) bA) e) rfl u9) ?_
 exact jg λy hy=>dj<|.inr<|.inr<|.inl<|hint y hy
noncomputable def dQ(p:Int×Int):PV:=.t [.i p.1,.i p.2]
noncomputable def k7(acc:List<|Int×Int)(s:Int):List (Int×Int):=match acc.getLast? with
 |some p=>if p.2=s then acc.dropLast++[(p.1,s+1)]else acc++[(s,s+1)]
 |none=>acc++[(s,s+1)]
def spans(l:bk):List (Int×Int):=l.foldl k7 []
theorem QP(acc:List<|Int×Int)(s:Int):(k7 acc s).length<=acc.length+1:=by
 unfold k7;split
 ·split
  ·simp
  ·simp
 ·simp
theorem EY:∀(l:bk)(acc:List<|Int×Int),(l.foldl k7 acc).length<=acc.length+l.length
 |[],acc=>bY _
 |s::l,acc=>by
  have h1:=EY l<|k7 acc s
  have h2:=QP acc s;refine rR pN<|rR i4 ?_;exact T7 h1 h2
theorem OP(l:List<|Int×Int):∀x∈l.map dQ,simple 3 x=true:=λx hx=>by(refine aC (bV.mp hx) λr U aT=>?_;clear hx;subst aT);rfl
theorem OQ(p:Int×Int)(n:Nat)(H:ak):b8 (n+1) H (dQ p)=some (dQ p):=yQ λx hx=>by simp only[List.mem_cons,List.not_mem_nil,or_false]at hx;rcases hx with rfl|rfl<;>exact iT<|.inr<|.inr<|.inl ⟨_,rfl⟩
theorem OR{Γ:b7}{f s:Nat}{ae:bf}{acc:List<|Int×Int}{i:Int}(hf:∀H,az Γ (.v f) ae H=some (.e 0,H))(hs:∀H,az Γ (.v s) ae H=some (.i i,H))(hl:acc.length<=900):
  Ok (aF Γ [.i (.a true [.m .n (.v f)<|.l [],.m .e (.d (.d (.v f)<|.n<|.c<|.i 1)<|.c<|.i 1)<|.v s])
    [.t (.v f) (.n<|.c<|.i 1)<|.t [.d (.d (.v f)<|.n<|.c<|.i 1)<|.c<|.i 0,.b .a (.v s)<|.c<|.i 1]]
    [.x<|.q (.v f)<|.t [.v s,.b .a (.v s)<|.c<|.i 1]]] ae [some<|.l<|acc.map dQ]) (λr=>r.1=.n/\r.2.1=ae/\r.2.2=[some<|.l<|(k7 acc i).map dQ]):=by
 have OS:∀H,az Γ (.b .a (.v s)<|.c<|.i 1) ae H=some (.i<|i+1,H):=λH=>dD (p:=.i i) (q:=.i 1) (hs H) rfl rfl;have app:k7 acc i=acc++[(i,i+1)]->Ok (aF Γ [.x<|.q (.v f)<|.t [.v s,.b .a (.v s)<|.c<|.i 1]] ae [some<|.l<|acc.map dQ]) (λr=>r.1=.n/\r.2.1=ae/\r.2.2=[some<|.l<|(k7 acc i).map dQ]):=λe=>by
  refine rR e ?_;refine eW (m:=0) (l1:=acc.map dQ) (l2:=acc.map dQ) (v:=dQ (i,i+1)) (H1:=[some<|.l<|acc.map dQ]) (H2:=[some<|.l<|acc.map dQ]) (hf _) rfl (j7<|aJ (hs _)<|aJ (OS _) bA) rfl (by simp;exact rm hl)<|cu ⟨rfl,rfl,?_⟩
  refine rR kB ?_;rfl
 cases iE:acc.getLast? with
 |none=>
  clear hl;obtain rfl:=List.getLast?_eq_none_iff.mp iE;exact bU (c:=false) (H':=[some<|.l<|([]:List<|Int×Int).map dQ]) (f_ (c:=false) (d:=false) (bu (p:=.e 0) (q:=.l []) (hf _) rfl<|vL (w:=[]) rfl λU h=>nomatch h) nofun) nB λU=>app rfl
 |some p=>
  have nY:az Γ (.d (.v f)<|.n<|.c<|.i 1) ae [some<|.l<|acc.map dQ]=some (dQ p,[some<|.l<|acc.map dQ]):=
   e_idx (p:=.e 0) (q:=.i<|-1) (hf _) rfl (u0 rfl<|by rw[List.getLast?_map,iE];rfl)
  have hne:(acc.map dQ).isEmpty=false:=by
   induction acc using b9 with
   |nil=>exact nN iE
   |cons a t=>rfl
  refine bU (c:=true&&decide (p.2=i)) (H':=[some<|.l<|acc.map dQ]) (f_ (bu (p:=.e 0) (q:=.l []) (H1:=[some<|.l<|acc.map dQ]) (hf _) rfl<|by refine rR (vL rfl<|OP acc)<|rR hne ?_;rfl) λU=>bu (p:=.i p.2) (q:=.i i) (e_idx (p:=dQ p) (q:=.i 1) nY rfl sM) (hs _) rfl) (λhc=>?_) λhc=>?_
  ·have hc:p.2=i:=by simpa using hc
   have e:k7 acc i=acc.dropLast++[(p.1,i+1)]:=by unfold k7;refine rR iE ?_;dsimp only;exact rR (bw hc) rfl
   refine rR e ?_;refine X1 (wh.mp iE) λd aL=>?_;clear hl app iE hne e;subst aL;refine MW (v:=dQ (p.1,i+1)) (m:=0) (l1:=(d++[p]).map dQ) (H1:=[some<|.l<|(d++[p]).map dQ]) (H2:=[some<|.l<|(d++[p]).map dQ]) (H3:=[some<|.l<|(d++[p]).map dQ])
    (j7<|aJ (e_idx (p:=dQ p) (q:=.i 0) nY rfl sL)<|aJ (OS _) bA) (hf _) rfl rfl (by simp) (cu ⟨rfl,rfl,?_⟩)
   refine rR List.dropLast_concat ?_;simp
  ·have hc:¬p.2=i:=by simpa using hc
   exact app<|by unfold k7;refine rR iE ?_;dsimp only;exact rR (bO hc) rfl
theorem OT{l:bk}{i:Nat}{x:Int}(h:l[i]?=some x):spans (l.take<|i+1)=k7 (spans<|l.take i) x:=by unfold spans;refine rR pS<|rR h<|rR List.foldl_append ?_;rfl
theorem QQ(n:Nat){l:bk}(hl:l.length<=60)(H:ak):gam (n+1) "" "_law_spans" [.l<|l.map .i] H=some (.l<|(spans<|sortedZ l).map dQ,H):=by
 have hint:dJ (l.map PV.i):=λx hx=>by(refine aC (bV.mp hx) λi U aM=>?_;clear hx;subst aM);exact⟨i,rfl⟩
 refine dX (ir:=IM) (vs:=[.l<|l.map .i]) (by kernel_rfl) rfl rfl rfl (by simp only[List.all_cons,List.all_nil,Bool.and_true,hint.fz]) ?_;show Ok (aF (gam n) BK [some<|.l<|l.map .i,none,none] []) _;have hsl:(sortedZ l).length=l.length:=(qN l).length_eq;have EZ:∀H,az (gam n) (.k .o [.v 0]) [some<|.l<|l.map .i,some<|.e 0,none] H=some (.l<|(sortedZ l).map .i,H):=λH=>s8 (aJ (p:=.l<|l.map .i) (H1:=H) rfl bA)<|vF<|T8 hl
 generalize sortedZ l=s at*;unfold BK;refine aZ (v:=.e 0) (H1:=[some<|.l []]) rfl ?_;refine gr (H':=[some<|.l []]) (vs:=[.l<|s.map .i]) (items:=s.map .i) (λi ae H=>∃o2,ae=[some<|.l<|l.map .i,some<|.e 0,o2]/\H=[some<|.l<|(spans<|s.take i).map dQ])
  (aJ (EZ _) bA) fF (aA none rfl rfl) (λi x ae H hx hI=>?_) (λae H hI=>?_)
 ·(refine aC hI λo2 aP aN=>?_;subst aP;clear hI;subst aN)
  rw[cQ]at hx;refine aC (gV.mp hx) λp hp aQ=>?_;clear hx;subst aQ;have hi:=cH hp
  refine⟨_,rfl,(OR (i:=p) (λH=>rfl) (λH=>rfl) (by
   have:=EY (s.take i) [];rw[gU]at this;unfold spans;simp at this
   exact T9 hl hsl this)).mono λr h=>?_⟩
  obtain⟨f,ae,H⟩:=r;refine U2 h λaR aT aL=>?_;subst aR;clear h;subst aT;subst aL;exact aA _ rfl (by exact rR (OT hp) rfl)
 ·(refine aC hI λo2 aM aP=>?_;clear hI;subst aM;subst aP)
  rewrite[bI];refine rR m_ ?_;exact bX (v:=.e 0) rfl (gu rfl λx hx=>by(refine aC (bV.mp hx) λr U aN=>?_;clear hx;subst aN);exact OQ r 4 _)
def jo(o:aG)(a b:Nat):aG:=((List.range<|b-a).map (a+·)).filterMap<|posOf o
def zG(o:aG)(x:PV):Bool:=match x with
 |.i i=>mY<|ig o i.toNat
 |_=>false
def OU(o:aG)(x:PV):PV:=match x with
 |.i i=>ig o i.toNat
 |x=>x
theorem OV(o:aG):∀(l:aG),((l.map aE).filter<|zG o).map (OU o)=(l.filterMap<|posOf o).map aE
 |[]=>rfl
 |a::l=>by
  refine rR fK<|rR lg ?_
  have ih:=OV o l;cases h:posOf o a with
  |none=>
   have e:¬zG o (aE a)=true:=by show¬mY (ig o a)=true;unfold ig;refine rR h ?_;decide
   refine rR (List.filter_cons_of_neg e) ?_;exact ih
  |some k=>
   have e1:ig o a=.i k:=by unfold ig;exact rR h rfl
   have e:zG o (aE a)=true:=by show mY (ig o a)=true;refine rR e1 ?_;rfl
   refine rR (List.filter_cons_of_pos e)<|rR fK<|rR ih ?_
   exact congrArg (·::_) e1
theorem QR(o:aG)(a b:Nat):(jo o a b).length<=b-a:=by unfold jo;have:=List.length_filterMap_le (posOf o) ((List.range<|b-a).map (a+·));simpa using this
theorem Q1(n:Nat){lv:bj}{o:aG}{a b:Nat}(hS:ie lv)(ho:eZ lv o)(hab:a<=b)(hb:b<=lv.length)(H:ak):gam (n+3) "" "selected" [.l<|lv.map aD,.i a,.i b] H=some (.l<|(spans<|sortedZ<|(jo o a b).map Int.ofNat).map dQ,H):=by
 refine dX (n:=n+2) (ir:=ID) (vs:=[.l<|lv.map aD,.i a,.i b]) (by kernel_rfl) rfl rfl rfl (by simp only[List.all_cons,List.all_nil,Bool.and_true,kY,Bool.true_and];rfl) ?_;show Ok (aF (gam<|n+2) BD [some<|.l<|lv.map aD,some<|.i a,some<|.i b,none,none,none] []) _;have hle:=hS.le;have jn:=ho.len;have hsl:=QR o a b;unfold BD
 refine aZ (v:=.l<|fU o lv.length) (H1:=[]) (bP (vs:=[.l<|o.map aE,.i lv.length]) (H1:=[]) (aJ (bP (vs:=[.l<|lv.map aD]) (H1:=[]) rfl<|zy n hS ho _) (aJ (by
  have:=e_len (Γ:=gam<|n+2) (a:=.v 0) (ae:=[some<|.l<|lv.map aD,some<|.i a,some<|.i b,none,none,none]) (H:=[]) (H1:=[]) (l:=lv.map aD) rfl;rw[bI]at this
  exact this) bA))<|Ow (n+1) (uf hle) (Gq hle jn) ho.nodup (λx hx=>ic<|ho.mem.mp hx) _) ?_
 refine aZ (v:=.e 0) (H1:=[some<|.l []]) rfl ?_;have EZ:az (gam<|n+2) (.k .o [.D (.d (.v 3)<|.v 6) false ["place"] .r [.v 1,.v 2] [.m .t (.d (.v 3)<|.v 6)<|.c .n]]) [some<|.l<|lv.map aD,some<|.i a,some<|.i b,some<|.l<|fU o lv.length,some<|.e 0,none] [some<|.l []]=some (.l<|(sortedZ<|(jo o a b).map Int.ofNat).map .i,[some<|.l []]):=by
  refine s8 (vs:=[.l<|(jo o a b).map aE]) (H1:=[some<|.l []]) (aJ ?_ bA)<|by rw[EM];exact vF<|by rw[bI];exact T_ hb hle hsl
  have OW:∀{j:Nat},j<lv.length->az (gam<|n+2) (.d (.v 3)<|.v 6) [some<|.l<|lv.map aD,some<|.i a,some<|.i b,some<|.l<|fU o lv.length,some<|.e 0,none,some<|.i j] [some<|.l []]=some (ig o j,[some<|.l []]):=λ{j} hj=>
   e_idx (p:=.l<|fU o lv.length) (q:=.i j) rfl rfl (dB<|zA hj)
  rw[pI (f:=OU o) (t:=zG o) (vs:=[.i a,.i b]) (H1:=[some<|.l []]) rfl (pq jx (Ua hab hb hle) jx<|Ub hb hle) (λx hx=>?_) λx hx U=>?_]
  ·(refine rR (vN hab) ?_;rewrite[OV]);rfl
  ·rw[vN hab]at hx;refine aC (bV.mp hx) λc hc aQ=>?_;clear hx;subst aQ;refine aC (bV.mp hc) λj hj aR=>?_;clear hc;subst aR;rw[jM]at hj;refine bu (p:=ig o<|a+j) (q:=.n) (OW<|Af hb hj) cL ?_;show cE _ .t (ig o<|a+j) .n=some (mY<|ig o<|a+j);unfold ig;cases posOf o (a+j)<;>rfl
  ·rw[vN hab]at hx;refine aC (bV.mp hx) λc hc aT=>?_;clear hx;subst aT;refine aC (bV.mp hc) λj hj aL=>?_;clear hc;subst aL;rw[jM]at hj;exact OW (j:=a+j)<|Af hb hj
 have hl2:(sortedZ<|(jo o a b).map Int.ofNat).length<=20:=by(refine rR ((qN _).length_eq) ?_;rewrite[bI]);exact Uc hb hle hsl
 generalize sortedZ ((jo o a b).map Int.ofNat)=s at*;refine gr (H':=[some<|.l []]) (vs:=[.l<|s.map .i]) (items:=s.map .i) (λi ae H=>∃o5,ae=[some<|.l<|lv.map aD,some<|.i a,some<|.i b,some<|.l<|fU o lv.length,some<|.e 0,o5]/\H=[some<|.l<|(spans<|s.take i).map dQ])
  (aJ EZ bA) fF (aA none rfl rfl) (λi x ae H hx hI=>?_) (λae H hI=>?_)
 ·(refine aC hI λo5 aM aP=>?_;subst aM;clear hI;subst aP)
  rw[cQ]at hx;refine aC (gV.mp hx) λp hp aN=>?_;clear hx;subst aN;have hi:=cH hp
  refine⟨_,rfl,(OR (i:=p) (λH=>rfl) (λH=>rfl) (by
   have:=EY (s.take i) [];rw[gU]at this;unfold spans;simp at this
   exact Ud hl2 this)).mono λr h=>?_⟩
  obtain⟨f,ae,H⟩:=r;refine U2 h λaQ aR aT=>?_;subst aQ;clear h;subst aR;subst aT;exact aA _ rfl (by exact rR (OT hp) rfl)
 ·(refine aC hI λo5 aL aM=>?_;clear hI;subst aL;subst aM)
  rewrite[bI];refine rR m_ ?_;exact bX (v:=.e 0) rfl (gu rfl λx hx=>by(refine aC (bV.mp hx) λr U aP=>?_;clear hx;subst aP);exact OQ r 4 _)
noncomputable def qR(o:aG)(a b:Nat):aG:=(List.range o.length).filter λk=>decide (a<=o.getD k 0)&&decide (o.getD k 0<b)
theorem Re{o:aG}(hn:o.Nodup)(a b:Nat):sortedZ ((jo o a b).map Int.ofNat)=sortedZ ((qR o a b).map Int.ofNat):=by
 have hp:(jo o a b).Perm (qR o a b):=by
  refine OF ?_ (we _ List.nodup_range) λk=>?_
  ·unfold jo;have hr:((List.range<|b-a).map (a+·)).Nodup:=pQ.mpr (List.nodup_range.imp λh=>Ue h);refine List.Pairwise.filterMap _ (λx y hxy u hu v hv huv=>?_) hr;subst huv;have h1:=EK hn hu;have h2:=EK hn hv;rw[h1]at h2;exact hxy<|aK h2
  ·unfold jo qR;rw[List.mem_filterMap,List.mem_filter,jM,cy,ff,ff];constructor
   ·rintro⟨p,hp,h⟩;refine aC (bV.mp hp) λj hj aN=>?_;clear hp;subst aN;rw[jM]at hj;have:=EK hn h;have hd:o.getD k 0=a+j:=by rw[fV,this];rfl
    exact⟨cH this,by refine rR hd ?_;exact wR,by refine rR hd ?_;exact Gv hj⟩
   ·rintro⟨h1,h2,h3⟩;refine X1 (h_ h1) λp hp=>?_;have hd:o.getD k 0=p:=by rw[fV,hp];rfl
    rw[hd]at h2 h3;exact aA p (bV.mpr<|aA (p-a) (by rw[jM];exact Ug h3 h2)<|uc h2)<|zz hn hp
 exact Od ((qN _).trans<|hp.symm.map _)<|Ez _
theorem vR{H:ak}{i j:Int}(h:0<j):kJ H .o (.i i) (.i j)=some (.i<|i %j):=by show(if decide (0<j)=true then some (PV.i<|i %j)else none)=_;exact rR (bw<|di h) rfl
theorem zH{H:ak}{i j:Int}(h1:-(2^40)<i/\i<2^40)(h2:-(2^40)<j/\j<2^40):kJ H .m (.i i) (.i j)=some (.i<|i*j):=by
 have e:(cO i&&cO j)=true:=by simp only[cO,Bool.and_eq_true,decide_eq_true_eq];exact⟨h1,h2⟩
 show(if(cO i&&cO j)=true then some (PV.i<|i*j)else none)=_;exact rR (bw e) rfl
theorem RF{H:ak}{i j:Int}(h1:-(2^40)<i/\i<2^40)(h2:0<j/\j<2^40):kJ H .f (.i i) (.i j)=some (.i<|i/j):=by
 have e:(cO i&&cO j&&decide (0<j))=true:=by simp only[cO,Bool.and_eq_true,decide_eq_true_eq];exact Vw h1 h2
 show(if(cO i&&cO j&&decide (0<j))=true then some (PV.i<|i/j)else none)=_;exact rR (bw e) rfl
def cB(cells:bk)(t:Nat):Option AO:=some<|.l [.l<|cells.map br,.i t]
theorem Sc(l:bk):dJ (l.map br):=kU l
theorem pL(n:Nat){cells:bk}{t d:Nat}{k:Int}{H:ak}(hd:H[d]?=some (cB cells t))(ht:t<=90)(hc:cells.length<=63)(hk:0<k):
  ∃r:Int,(0<=r/\r<k)/\gam (n+1) "" "_law_draw" [.e d,.i k] H=some (.i r,H.set d<|cB cells<|t+1):=by
 obtain⟨v,H',e,r,rfl,h0,h1,rfl⟩:=nQ (n:=n) (c:="") (f:="_law_draw") (ir:=IG) (args:=[.e d,.i k]) (vs:=[.e d,.i k]) (H:=H) (Q:=λv H'=>∃r:Int,v=.i r/\0<=r/\r<k/\H'=H.set d (cB cells<|t+1)) (by kernel_rfl) rfl rfl rfl (by
  show Ok (aF (gam n) BG [some<|.e d,some<|.i k,none,none,none,none] H) _;unfold BG;have Sr:H.set d (some<|AO.l<|[PV.l<|cells.map br,.i t].set 1 (.i ((t+1:Nat):Int)))=H.set d (cB cells<|t+1):=rfl;refine pB (k:=1) (v:=.i ((t+1:Nat):Int)) (m:=d) (l1:=[.l<|cells.map br,.i t]) (H1:=H) (H2:=H) (H3:=H) (dD (p:=.i t) (q:=.i 1) (e_idx (p:=.e d) (q:=.i 1) rfl rfl<|yN (k:=1) hd rfl) rfl rfl) rfl rfl hd (by simp) ?_;refine rR Sr ?_;have hd2:(H.set d<|cB cells<|t+1)[d]?=some (cB cells<|t+1):=mX hd;generalize H.set d (cB cells<|t+1)=H2 at*;refine kP (l:=[.i ((t+1:Nat):Int),.l<|cells.map br]) (H1:=H2) (j7<|aJ (e_idx (p:=.e d) (q:=.i 1) rfl rfl<|yN (k:=1) hd2 rfl)<|aJ (e_idx (p:=.e d) (q:=.i 0) rfl rfl<|yN (k:=0) hd2 rfl) bA) rfl ?_;have fin:∀{e:CE}{x:Int}{ae:bf}{tl:List CS},az (gam n) e ae H2=some (.i x,H2)->az (gam n) (.v 1) ae H2=some (.i k,H2)->Ok (aF (gam n) (.r (.b .o e<|.v 1)::tl) ae H2) (λr=>∃r':Int,fX r.1=.i r'/\0<=r'/\r'<k/\r.2.2=H2):=λ{e x ae tl} h1 h2=>
   bX (v:=.i<|x %k) (dD (p:=.i x) (q:=.i k) h1 h2<|vR hk) (iq _ rfl (Int.emod_nonneg _ (Vx hk)) (Int.emod_lt_of_pos _ hk) rfl)
  have hlen:(cells.map br).length=cells.length:=bI _;refine bU (c:=decide<|((t+1:Nat):Int)<=(cells.map br).length) (H':=H2) (bu (p:=.i ((t+1:Nat):Int)) (q:=.i (cells.map br).length) rfl (e_len rfl) rfl) (λhcd=>?_) λhcd=>?_
  ·have hcd:=cG hcd;rw[hlen]at hcd;have hi:t<cells.length:=Uh hcd
   exact fin (x:=gC cells t) (e_idx (p:=.l<|cells.map br) (q:=.i t) rfl (dD (p:=.i ((t+1:Nat):Int)) (q:=.i 1) rfl rfl (by
    show some (PV.i<|((t+1:Nat):Int)-1)=_
    exact rR (show(((t+1:Nat):Int)-1)=(t:Int)from F0) rfl))<|dB<|vP hi) rfl
  ·obtain⟨c,hcell⟩:∃c:Int,az (gam n) (.i (.m .n (.v 3)<|.l []) (.d (.v 3)<|.b .o (.v 2)<|.k .l [.v 3])<|.c<|.i 7) [some<|.e d,some<|.i k,some<|.i ((t+1:Nat):Int),some<|.l<|cells.map br,none,none] H2=some (.i c,H2):=by
    induction cells using b9 with
    |nil=>exact⟨7,iB (c:=false) (bu (p:=.l []) (q:=.l []) rfl rfl rfl) nB λU=>rfl⟩
    |cons a l=>
     have hi:(t+1) %(a::l).length<(a::l).length:=Nat.mod_lt _ (by simp);refine⟨gC (a::l)<|(t+1) %(a::l).length,iB (c:=true) (bu (p:=.l<|(a::l).map br) (q:=.l []) rfl rfl<|Oe<|Sc _) (λU=>?_) nofun⟩;refine e_idx (p:=.l<|(a::l).map br) (q:=.i (((t+1) %(a::l).length:Nat):Int)) rfl (dD (p:=.i ((t+1:Nat):Int)) (q:=.i ((a::l).map br).length) rfl (e_len rfl) ?_)<|dB<|vP hi
     refine rR (vR<|by rw[hlen];simp)<|rR hlen ?_
     congr 2
   refine aZ hcell ?_;generalize hT:((t+1:Nat):Int)=T at*;have hTb:1<=T/\T<=100:=VU ht hT;have SB:0<=60013*T*T:=Int.mul_nonneg (GS hT)<|VV hT
   have hq1:60013*T*T<=60013*T*100:=Int.mul_le_mul_of_nonneg_left hTb.2<|GS hT
   have hc0:=Int.emod_nonneg c (show(2147483629:Int)≠0 by decide);have hc1:=Int.emod_lt_of_pos c (show(0:Int)<2147483629 by decide);generalize hM:(c %2147483629+60013*T*T+17)*48271 %2147483647=M;have OX:0<=M:=by refine rL hM ?_;exact Int.emod_nonneg _ (by decide)
   have OY:M<2147483647:=by refine rL hM ?_;exact Int.emod_lt_of_pos _ (by decide)
   generalize hN:(M*M+T) %2147483579=N;have hN0:0<=N:=by refine rL hN ?_;exact Int.emod_nonneg _ (by decide)
   have zp:N<2147483579:=by refine rL hN ?_;exact Int.emod_lt_of_pos _ (by decide)
   refine aZ (v:=.i M) (H1:=H2) (by
    refine dD (p:=.i<|(c %2147483629+60013*T*T+17)*48271) (q:=.i 2147483647) (dD (p:=.i<|c %2147483629+60013*T*T+17) (q:=.i 48271) (dD (p:=.i<|c %2147483629+60013*T*T) (q:=.i 17) (dD (p:=.i<|c %2147483629) (q:=.i<|60013*T*T) (dD (p:=.i c) (q:=.i 2147483629) rfl rfl<|vR<|by decide) (dD (p:=.i<|60013*T) (q:=.i T) (dD (p:=.i 60013) (q:=.i T) rfl rfl<|zH Ui<|GU ht hT) rfl<|zH (VW ht hT)<|GU ht hT) rfl) rfl rfl) rfl<|zH ?_ Uj) rfl ?_
    ·generalize 60013*T*T=q at*;exact VX ht hT SB hq1
    ·exact rR (vR<|by decide)<|rR hM rfl) ?_
   refine aZ (v:=.i N) (H1:=H2) (by
    refine dD (p:=.i<|M*M+T) (q:=.i 2147483579) (dD (p:=.i<|M*M) (q:=.i T) (dD (p:=.i M) (q:=.i M) rfl rfl<|zH (GR OX OY)<|GR OX OY) rfl rfl) rfl ?_
    exact rR (vR<|by decide)<|rR hN rfl) ?_
   exact fin (x:=N/64) (dD (p:=.i N) (q:=.i 64) rfl rfl<|RF (Vy hN) Uk) rfl)
 exact aA r ⟨h0,h1⟩ e
theorem SC(n:Nat)(o:bK)(H:ak):gam (n+1) "" "_law_is_odd" [aD o] H=some (.b<|lT o,H):=by
 refine dX (ir:=IS) (vs:=[aD o]) (by kernel_rfl) rfl rfl rfl (by simp only[List.all_cons,List.all_nil,Bool.and_true,yZ]) ?_;show Ok (aF (gam n) BO [some<|aD o] []) _;unfold BO;refine bX (v:=.b<|lT o) (H':=[]) ?_ rfl
 induction o using e9 with
 |none=>exact f_ (c:=false) (d:=false) (bu (p:=.n) (q:=.n) rfl rfl rfl) nofun
 |some l=>exact f_ (c:=true) (d:=decide<|l %2=1) (bu (p:=.i l) (q:=.n) rfl rfl rfl) λU=>bu (p:=.i<|l %2) (q:=.i 1) (dD (p:=.i l) (q:=.i 2) rfl rfl rfl) rfl rfl
theorem SF(n:Nat){o:aG}{i p:Nat}(hn:o.Nodup)(hi:o[i]?=some p)(H:ak):gam (n+1) "" "visual_of" [.l<|o.map aE,.i p] H=some (.i i,H):=by
 refine dX (ir:=Iu) (vs:=[.l<|o.map aE,.i p]) (by kernel_rfl) rfl rfl rfl (by simp only[List.all_cons,List.all_nil,Bool.and_true,(ints_of o).fz,Bool.true_and];rfl) ?_;show Ok (aF (gam n) Bv [some<|.l<|o.map aE,some<|.i p,none,none] []) _;have hlt:=cH hi;unfold Bv;refine gr (H':=[]) (vs:=[.l<|o.map aE]) (items:=dU<|o.map aE) (λj ae H=>j<=i/\∃o2 o3,ae=[some<|.l<|o.map aE,some<|.i p,o2,o3]/\H=[])
  rfl ji (Fw (iF _) none none rfl rfl) (λj x ae H hx hI=>?_) (λae H hI=>?_)
 ·(refine Pe hI λoV o2 o3 aQ aR=>?_;subst aQ;subst aR)
  refine aC (j6 hx) λv hv aT=>?_;clear hx;subst aT;rw[cQ]at hv;refine aC (gV.mp hv) λq hq aL=>?_;clear hv;subst aL;refine aA _ rfl ?_;refine bU (c:=decide<|(q:Int)=p) (H':=[]) (bu (p:=.i q) (q:=.i p) rfl rfl rfl) (λhc=>?_) λhc=>?_
  ·have hc:q=p:=by have:=cG hc;exact wN this
   clear hI;subst hc;have:=(tH (cH hq) hn).mp<|hq.trans hi.symm
   clear hlt oV hi;subst this;exact bX (v:=.i j) rfl rfl
  ·have hc:=lW hc;refine cu<|Fw ?_ _ _ rfl rfl
   rcases dm j i with h|h
   ·exact h
   ·obtain rfl:j=i:=F6 oV h;rw[hi]at hq;have:=aK hq;exact Ul hc this
 ·refine U1 hI λoV U=>?_;rw[mP,bI]at oV
  (first|lia|omega)
theorem SL(n:Nat){o:aG}{i p:Nat}(hi:o[i]?=some p)(H:ak):gam (n+1) "" "logical_of" [.l<|o.map aE,.i i] H=some (.i p,H):=by
 refine dX (ir:=Iv) (vs:=[.l<|o.map aE,.i i]) (by kernel_rfl) rfl rfl rfl (by simp only[List.all_cons,List.all_nil,Bool.and_true,(ints_of o).fz,Bool.true_and];rfl) ?_;show Ok (aF (gam n) Bw [some<|.l<|o.map aE,some<|.i i] []) _;have hlt:=cH hi;unfold Bw;refine bX (v:=.i p) (H':=[]) (iB (c:=true) ?_ (λU=>e_idx (p:=.l<|o.map aE) (q:=.i i) rfl rfl<|dB<|by rw[cQ,hi];rfl) nofun) rfl
 (try simp only[wl,bx,reduceIte];try rfl)
 refine rR (di (show(0:Int)<=i from FY))<|rR (bw rfl) ?_
 simp only[Option.bind_some,Option.map_some,List.length_map];exact rR (di (show(i:Int)<o.length from FZ hlt)) rfl
theorem SU{Γ:b7}{a b c:CE}{ae:bf}{H:ak}(ha:az Γ a ae H=some (.b false,H))(hb:az Γ b ae H=some (.b false,H))(hc:az Γ c ae H=some (.b false,H)):az Γ (.a false [a,b,c]) ae H=some (.b false,H):=by
 refine rR pn<|rR hU<|rR ha ?_
 simp only[Option.bind_some,fZ,if_true];refine rR hU<|rR hb ?_
 simp only[Option.bind_some,fZ,if_true];refine rR hU (rR hc ?_);rfl
theorem SZ{H:ak}{l:au}:ja H (.l l) (.i 1) .n=some (.l<|l.drop 1):=by
 have e:rz H (.l l)=some l:=rfl;unfold ja;refine rR e ?_;simp only[Option.bind_some];refine rR (show(PV.i 1)=PV.i ((1:Nat):Int)from rfl)<|rR (vB Gz) ?_
 simp only[Option.bind_some,ny,Option.map_some,List.take_length]
 induction l using b9 with
 |nil=>rfl
 |cons a t=>exact rR (oz<|by simp) rfl
theorem Ta{H:ak}{l:au}:ja H (.l l) .n (.i 1)=some (.l<|l.take 1):=by
 have e:rz H (.l l)=some l:=rfl;unfold ja;refine rR e ?_;simp only[Option.bind_some];refine rR (show(PV.i 1)=PV.i ((1:Nat):Int)from rfl)<|rR (vB Gz) ?_
 simp only[Option.bind_some,ny,Option.map_some,List.drop_zero]
 induction l using b9 with
 |nil=>rfl
 |cons a t=>exact rR (oz<|by simp) rfl
theorem Tb{H:ak}{c:Int}:cE H .i (.i c) (.t [.i 40,.i 41])=some (decide (c=40)||decide (c=41)):=by show some (decide (c=40)||(decide (c=41)||false))=_;rw[Bool.or_false]
theorem E0(cs:bk):dU (cs.map br)=(List.range cs.length).map λ(i:Nat)=>.t [.i i,.i<|gC cs i]:=by refine rR (EF (f:=λi=>.i<|gC cs i) λi hi=>vP<|by rwa[bI]at hi) ?_;rw[bI]
noncomputable def jK(o:aG)(i:Nat):Nat:=o.getD i 0
theorem Tk{o:aG}{i:Nat}(h:i<o.length):o[i]?=some (jK o i):=by rw[jK,fV,eE h];rfl
theorem zJ(o:aG):dU (o.map aE)=(List.range o.length).map λ(i:Nat)=>.t [.i i,.i<|jK o i]:=by
 rw[EF (f:=λi=>.i<|jK o i) λi hi=>by
  rw[bI]at hi
  refine rR (cQ)<|rR (Tk hi) ?_;rfl,bI]
theorem Tl(ks:aY)(n:Nat):∀x∈ks.map bQ,simple n x=true:=λx hx=>by(refine aC (bV.mp hx) λo U aM=>?_;clear hx;subst aM);induction n using gD<;>rfl
theorem OZ(cs:bk)(n:Nat):∀x∈cs.map br,simple n x=true:=λx hx=>by(refine aC (bV.mp hx) λo U aP=>?_;clear hx;subst aP);exact EA _
theorem Tm{l:au}(h:dJ l)(n:Nat):∀x∈l,simple n x=true:=λx hx=>by(refine X1 (h x hx) λi aN=>?_;clear hx;subst aN);exact EA _
def O0(now:bj)(x:PV):PV:=match x with
 |.t [.i i,.i c]=>.i<|oh c<|lo now i.toNat
 |x=>x
noncomputable def O1(a b:Nat)(x:PV):Bool:=match x with
 |.t [_,.i c]=>decide ((a:Int)<=c)&&decide (c<(b:Int))
 |_=>false
theorem O2{now:bj}{o ro:aG}(ho:eZ now o)(hr:eZ (rlv<|gB now now.length) ro):(vM (gB now now.length) ro).flatMap (orient now)=o:=
 (M2 (tg now now.length) hr).uniq ho
theorem Ts{now:bj}{ro:aG}(hr:eZ (rlv<|gB now now.length) ro):∀r∈vM (gB now now.length) ro,r.1<r.2.1/\r.2.1<=now.length/\bH now r.1=true/\∀c,r.1<=c->c<r.2.1->bH now c=true->dw now c=r.2.2:=λr h=>by refine aC (bV.mp h) λi hi aQ=>?_;clear h;subst aQ;refine X1 (h_<|tw.mp<|hr.mem.mp hi) λs hs=>?_;rw[fV,hs];exact(tg now now.length).ok s<|dY hs
theorem Tx{now:bj}(hS:ie now):ie (rlv<|gB now now.length):=by
 have I:=tg now now.length;have hle:=hS.le;have hsz:=I.sz
 exact⟨by rw[rlv,bI];exact Gw hle hsz,λl hl=>by
  refine aC (bV.mp hl) λr hr e=>?_;clear hl;obtain rfl:=aK e;have q:=I.ok r hr;have:=hS.aH q.2.2.1;rw[q.2.2.2 r.1 (bY _) q.1 q.2.2.1]at this
  exact this⟩
section
variable {n:Nat}{ae:bf}{H H1:ak}{now:bj}{o ro pcn:aG}{pc:bk}
theorem Ty(hS:ie now)(ho:eZ now o)(lS:eZ (rlv<|gB now now.length) ro)(v11:ae[11]?=some (some<|.l<|now.map aD))(vS:ae[13]?=some (some<|.l<|o.map aE))(kj:ae[14]?=some (some<|.l<|o.map aE)):
  az (gam<|n+11) (.a false [.m .n (.v 13)<|.v 14,.m .t (.h "is_order_of" [.v 13,.v 11])<|.c<|.b true,.m .n (.h "_law_tiled" [.v 11,.h "visual_runs" [.v 11]])<|.v 14]) ae H=some (.b false,H):=by
 refine aC (OC (n+9) hS ho.pm H) λc1 TB hc1=>?_;have hc1:c1=true:=hc1.mpr<|L9 ho
 subst hc1;have et:=Pi (n+10) hS (Ts lS) (by refine rR (O2 ho lS) ?_;exact eR ho.len<|eR hS.le<|by decide) H;rw[O2 ho lS]at et;exact SU (bu (bq vS) (bq kj)<|ne_self<|vJ _ _) (bu (bP (aJ (bq vS)<|aJ (bq v11) bA) TB) cL rfl)
  (bu (bP (aJ (bq v11)<|aJ (bP (aJ (bq v11) bA)<|N0 (n+8) hS lS _) bA) et) (bq kj)<|ne_self<|vJ _ _)
theorem TC{o:aG}(h:1<o.length):∃p q r,o=p::q::r:=by
 induction o using b9 with
 |nil=>cases h
 |cons p o=>induction o using b9 with
  |nil=>exact absurd h<|q8 1
  |cons q r=>exact I3 p q r rfl
theorem TD(hS:ie now)(ho:eZ now o)(v11:ae[11]?=some (some<|.l<|now.map aD))(kj:ae[14]?=some (some<|.l<|o.map aE)):
  az (gam<|n+11) (.a true [.m .g (.k .l [.v 14])<|.c<|.i 1,.m .t (.h "is_order_of" [.b .a (.s (.v 14) (.c<|.i 1)<|.c .n)<|.s (.v 14) (.c .n)<|.c<|.i 1,.v 11])<|.c<|.b false]) ae H=some (.b false,H):=by
 refine Eq.trans (b:=some (.b<|decide ((1:Int)<(o.map aE).length)&&false,H)) ?_<|by rw[Bool.and_false]
 refine f_ (bu (p:=.i (o.map aE).length) (q:=.i 1) (e_len<|bq kj) cL rfl) λhgt=>?_;have hgt:=cG hgt;rw[bI]at hgt;refine X3 (TC<|oi.mp hgt) λp q r aR=>?_;clear hgt;clear hgt;subst aR;refine aC (OC (n+9) (o:=q::r++[p]) hS ((List.perm_append_comm.trans<|by exact List.Perm.refl _).trans ho.pm) H) λc2 TK hc2=>?_;have hc2:c2=false:=Bool.eq_false_iff.mpr λe=>Mo ho<|hc2.mp e
 subst hc2;refine bu (p:=.b false) (q:=.b false) (bP (vs:=[.l<|(q::r++[p]).map aE,.l<|now.map aD]) (H1:=H) (aJ (dD (p:=.l<|(q::r).map aE) (q:=.l [aE p]) (H1:=H) (pF (p:=.l<|(p::q::r).map aE) (q:=.i 1) (r:=.n) (H1:=H) (H2:=H) (bq kj) cL cL SZ) (pF (p:=.l<|(p::q::r).map aE) (q:=.n) (r:=.i 1) (H1:=H) (H2:=H) (bq kj) cL cL Ta) ?_)<|aJ (bq v11) bA) TK) cL rfl;have:=eR ho.len hS.le;simp only[List.length_cons]at this;refine rR (yM<|by simp only[List.length_map,List.length_cons,List.length_nil];exact Um this)<|rR kB ?_;rfl
theorem TT{T:bf->ak->Prop}{i p:Nat}(hn:o.Nodup)(hp:o[i]?=some p)(vS:ae[13]?=some (some<|.l<|o.map aE))(O3:ae[15]?=some (some<|.i i))(O4:ae[16]?=some (some<|.i p))(k:T ae H):
  Ok (aF (gam<|n+11) [.i (.a false [.m .n (.h "visual_of" [.v 13,.v 16])<|.v 15,.m .n (.h "logical_of" [.v 13,.v 15])<|.v 16]) [.r<|.c<|.b false] []] ae H) (Nx T):=
 bU (c:=!decide ((i:Int)=i)||!decide ((p:Int)=p)) (H':=H) (pA (bu (p:=.i i) (q:=.i i) (bP (aJ (bq vS)<|aJ (bq O4) bA)<|SF (n+10) hn hp _) (bq O3) rfl) λU=>bu (p:=.i p) (q:=.i p) (bP (aJ (bq vS)<|aJ (bq O3) bA)<|SL (n+10) hp _) (bq O4) rfl) (λh=>by rw[di rfl,di rfl]at h;exact nB h) λU=>cu k
theorem T1:(dU<|pc.map br).map (O0 now)=(d9 pc now).map br:=by rewrite[E0];refine rR i6 ?_;rewrite[d9];refine rR i6 ?_;refine m9 λi U=>?_;show PV.i (oh (gC pc i)<|lo now (i:Int).toNat)=_;rw[Int.toNat_natCast];rfl
theorem Uf(hl:pc.length=now.length)(v11:ae[11]?=some (some<|.l<|now.map aD))(UF:ae[17]?=some (some<|bM pc))(hle:ae.length=22):
  az (gam<|n+11) (.D (.i (.a true [.m .i (.v 23)<|.t [.c<|.i 40,.c<|.i 41],.h "_law_is_odd" [.d (.v 11)<|.v 22]]) (.b .s (.c<|.i 81)<|.v 23)<|.v 23) true ["at","code"] .e [.v 17] []) ae H=some (.l<|(d9 pc now).map br,H):=by
 rw[I' (f:=O0 now) (own:=vI) (vs:=[bM pc]) (H1:=H) (aJ (bq UF) bA) ji (λx hx=>?_) λx hx=>?_]
 ·exact rR T1 rfl
 ·rw[E0]at hx;refine aC (bV.mp hx) λi U aT=>?_;clear hx;subst aT;rfl
 ·rw[E0]at hx;refine aC (bV.mp hx) λi hi aL=>?_;clear hx;subst aL;rw[jM]at hi;have UV:∀H,az (gam<|n+11) (.v 22) (ae++[some<|PV.i i,some<|.i<|gC pc i]) H=some (.i i,H):=λH=>kO (i:=0) hle rfl;have vU:∀H,az (gam<|n+11) (.v 23) (ae++[some<|PV.i i,some<|.i<|gC pc i]) H=some (.i<|gC pc i,H):=λH=>kO (i:=1) hle rfl;show az _ _ (ae++[some<|PV.i i,some<|.i<|gC pc i]) H=some (PV.i<|oh (gC pc i)<|lo now (i:Int).toNat,H);rw[Int.toNat_natCast];refine iB (c:=(decide (gC pc i=40)||decide (gC pc i=41))&&lT (lo now i)) (f_ (bu (p:=.i<|gC pc i) (q:=.t [.i 40,.i 41]) (vU _) rfl Tb) λU=>bP (aJ (e_idx (p:=.l<|now.map aD) (q:=.i i) (lO v11) (UV _)<|dB<|lQ<|hl▸hi) bA)<|SC (n+10) _ _) (λh=>?_) λh=>?_
  ·unfold oh;refine rR (bw h) ?_;exact dD cL (vU _) rfl
  ·unfold oh;refine rR (bO<|by rw[h];exact gE) ?_;exact vU _
theorem V'{l:bk}(ho:∀x∈o,x<l.length)(kj:ae[14]?=some (some<|.l<|o.map aE))(Wp:ae[18]?=some (some<|.l<|l.map br))(hle:ae.length=22):
  az (gam<|n+11) (.D (.d (.v 18)<|.v 22) false ["at"] .v [.v 14] []) ae H=some (.l<|(o.map aE).map<|gh<|l.map br,H):=
 nZ (l:=o.map aE) (bq kj) λx hx=>by refine aC (bV.mp hx) λj hj aM=>?_;clear hx;subst aM;exact e_idx (p:=.l<|l.map br) (q:=.i j) (lO Wp) (kO (i:=0) hle rfl)<|zd<|by rw[bI];exact ho j hj
theorem WF{f g:Nat}(hS:ie now)(ho:eZ now o)(hfg:f<=g)(E1:g<=now.length)(v11:ae[11]?=some (some<|.l<|now.map aD))(E2:ae[19]?=some (some<|.i f))(v20:ae[20]?=some (some<|.i g))(hle:ae.length=22):
  az (gam<|n+11) (.D (.t [.d (.v 22)<|.c<|.i 0,.d (.v 22)<|.c<|.i 1]) false ["one"] .v [.h "selected" [.v 11,.v 19,.v 20]] []) ae H=some (.l<|(spans<|sortedZ<|(jo o f g).map Int.ofNat).map dQ,H):=by
 have:=nZ (Γ:=gam<|n+11) (e:=.t [.d (.v 22)<|.c<|.i 0,.d (.v 22)<|.c<|.i 1]) (nm:="one") (f:=id) (l:=(spans<|sortedZ<|(jo o f g).map Int.ofNat).map dQ) (H1:=H) (b:=.h "selected" [.v 11,.v 19,.v 20]) (H:=H) (ae:=ae)
  (bP (aJ (bq v11)<|aJ (bq E2)<|aJ (bq v20) bA)<|Q1 (n+8) hS ho hfg E1 _) (λx hx=>by
   refine aC (bV.mp hx) λq U aP=>?_;clear hx;subst aP
   exact j7<|aJ (e_idx (p:=dQ q) (q:=.i 0) (kO (i:=0) hle rfl) cL sL)<|aJ (e_idx (p:=dQ q) (q:=.i 1) (kO (i:=0) hle rfl) cL sM) bA)
 rw[List.map_id]at this;exact this
theorem WP{f g:Nat}:((dU<|o.map aE).filter<|O1 f g).map vH=((qR o f g).map Int.ofNat).map PV.i:=by
 rewrite[zJ];refine rR List.filter_map<|rR i6<|rR i6 ?_
 unfold qR;rw[List.filter_congr (q:=λk=>decide (f<=o.getD k 0)&&decide (o.getD k 0<g)) λi U=>?_]
 ·rfl
 ·show(decide ((f:Int)<=(jK o i:Int))&&decide ((jK o i:Int)<(g:Int)))=_;congr 1
  ·exact rf.mpr bN
  ·exact rf.mpr oi
theorem W1{f g:Nat}(hn:o.Nodup)(jn:o.length<=20)(kj:ae[14]?=some (some<|.l<|o.map aE))(E2:ae[19]?=some (some<|.i f))(v20:ae[20]?=some (some<|.i g))(hle:ae.length=22):
  az (gam<|n+11) (.h "_law_spans" [.D (.v 22) true ["spot","at"] .e [.v 14] [.p .a .l (.v 19) (.v 23)<|.v 20]]) ae H=some (.l<|(spans<|sortedZ<|(jo o f g).map Int.ofNat).map dQ,H):=by
 have XB:((qR o f g).map Int.ofNat).length<=60:=by
  rw[bI];have:=List.length_filter_le (λk=>decide (f<=o.getD k 0)&&decide (o.getD k 0<g))<|List.range o.length
  rw[tL]at this;exact eR this<|eR jn<|by decide
 refine bP (vs:=[.l<|((qR o f g).map Int.ofNat).map PV.i]) (H1:=H) (aJ ?_ bA)<|by(refine rR (QQ (n+10) XB _) ?_;rw[<-Re hn])
 rw[Ot (f:=vH) (t:=O1 f g) (own:=vI) (vs:=[.l<|o.map aE]) (H1:=H) (aJ (bq kj) bA) ji (λx hx=>?_) (λx hx=>?_) λx hx U=>?_]
 ·exact rR WP rfl
 ·rw[zJ]at hx;refine aC (bV.mp hx) λi U aN=>?_;clear hx;subst aN;rfl
 ·rw[zJ]at hx;refine aC (bV.mp hx) λi U aQ=>?_;clear hx;subst aQ;show az _ _ (ae++[some<|PV.i i,some<|.i<|jK o i]) H=some (.b<|decide ((f:Int)<=(jK o i:Int))&&decide ((jK o i:Int)<(g:Int)),H);have vU:∀H,az (gam<|n+11) (.v 23) (ae++[some<|PV.i i,some<|.i<|jK o i]) H=some (.i<|jK o i,H):=λH=>kO (i:=1) hle rfl;refine rR Ms<|rR (show az (gam<|n+11) (.v 19) (ae++[some<|PV.i i,some<|.i<|jK o i]) H=some (.i f,H)from lO E2) ?_
  simp only[Option.bind_some];rw[vU];simp only[Option.bind_some,MG];refine rR (show az (gam<|n+11) (.v 20) (ae++[some<|PV.i i,some<|.i<|jK o i]) H=some (.i g,H)from lO v20) ?_;cases decide ((f:Int)<=(jK o i:Int))<;>rfl
 ·rw[zJ]at hx;refine aC (bV.mp hx) λi U aR=>?_;clear hx;subst aR;exact kO (i:=0) hle rfl
theorem XV{p q:PV}{H:ak}{l:au}(h:∀x∈l,∃m,x=.l m/\∀y∈m,simple 2 y=true):cE H .e (.l l) (.l l)=some true:=
 eq_self λx hx=>by refine aC (h x hx) λm aT hm=>?_;clear hx;subst aT;exact gj.mpr hm
end
def X'(D C W L K T B S N O:PV)(a b c d e f g:bR):bf:=[some D,some C,some bB,some W,some L,some K,some T,some B,some S,some L,some K,some N,some N,some O,some O,a,b,c,d,e,f,g]
theorem Y2(n:Nat){cs:bk}{w:String}{lv now:bj}{base:Int}{a b d t:Nat}{cells pc:bk}{o ro:aG}{sh:Bool}{H:ak}{T:Res->Prop}(hlen:cs.length<=20)(hab:a<b)(hbn:b<=cs.length)(hd:H[d]?=some (cB cells t))(ht:t<=80)(hc:cells.length<=63)
  (hS:ie now)(ho:eZ now o)(lS:eZ (rlv<|gB now now.length) ro)(hpl:pc.length=now.length)(sZ:pc.map br=((cs.map br).take b).drop a)(zF:kT pc)
  (e1:∀H,gam (n+11) "" "line_levels" [.l<|lv.map aD,.l<|(aW cs).map bQ,.t [.i a,.i b],.i base] H=some (.l<|now.map aD,H))(e2:∀H,gam (n+11) "" "_law_reset" [.l<|lv.map aD,.l<|(aW cs).map bQ,.t [.i a,.i b],.i base] H=some (.l<|now.map aD,H))
  (e3:∀H,gam (n+11) "" "shown" [bM cs,bB,.s w,.t [.i a,.i b]] H=some (.l<|(o.map aE).map<|gh<|(d9 pc now).map br,H))(K:∀ae H',H'[d]?=some (cB cells<|t+2)->T (.r<|.b true,ae,H')):
  Ok (aF (gam<|n+11) BN [some<|.e d,some<|bM cs,some bB,some<|.s w,some<|.l<|lv.map aD,some<|.l<|(aW cs).map bQ,some<|.t [.i a,.i b],some<|.i base,some<|.b sh,none,none,none,none,none,none,none,none,none,none,none,none,none] H) T:=by
 have jn:=ho.len;have hnl:=hS.le;have E3:∀x∈o,x<(d9 pc now).length:=λx hx=>by(rewrite[vQ];refine rR hpl ?_);exact ic<|ho.mem.mp hx
 unfold BN;refine kP (l:=[.l<|lv.map aD,.l<|(aW cs).map bQ]) (H1:=H) rfl rfl ?_;refine kP (l:=[.l<|now.map aD,.l<|now.map aD]) (H1:=H) (j7<|aJ (bP (vs:=[.l<|lv.map aD,.l<|(aW cs).map bQ,.t [.i a,.i b],.i base]) (H1:=H) rfl<|e1 _)<|aJ (bP (vs:=[.l<|lv.map aD,.l<|(aW cs).map bQ,.t [.i a,.i b],.i base]) (H1:=H) rfl<|e2 _) bA) rfl ?_;refine bU (c:=false) (H':=H) (bu (p:=.l<|now.map aD) (q:=.l<|now.map aD) rfl rfl<|ne_self<|EI _ _) nB λU=>?_;refine kP (l:=[.l<|o.map aE,.l<|o.map aE]) (H1:=H) (j7<|aJ (bP (vs:=[.l<|now.map aD]) (H1:=H) rfl<|zy (n+9) hS ho _)<|aJ (bP (vs:=[.l<|now.map aD]) (H1:=H) rfl<|Ki (n+9) hS ho _) bA) rfl ?_
 let E:bR->bR->bR->bR->bR->bR->bR->bf:=X' (.e d) (bM cs) (.s w) (.l<|lv.map aD) (.l<|(aW cs).map bQ) (.t [.i a,.i b]) (.i base) (.b sh) (.l<|now.map aD)<|.l<|o.map aE
 show Ok (aF (gam<|n+11) _ (E none none none none none none none) H) T;refine bU (c:=false) (H':=H) (Ty hS ho lS rfl rfl rfl) nB λU=>?_;refine bU (c:=false) (H':=H) (TD hS ho rfl rfl) nB λU=>?_;refine lK (λx y=>E x y none none none none none) (λU U U=>H) (λU U U=>True) none none (aJ rfl bA) rfl ji trivial (λi x y z hx U T k=>?_) λx y U=>?_
 ·(refine aC (j6 hx) λv hv aL=>?_;clear hx;subst aL)
  rw[cQ]at hv;refine aC (gV.mp hv) λp hp aM=>?_;clear hv;subst aM;exact aA _ rfl (TT ho.nodup hp rfl rfl rfl<|k _ _ trivial)
 refine aZ (v:=bM pc) (H1:=H) (pF (p:=bM cs) (q:=.i a) (r:=.i b) (H1:=H) (H2:=H) rfl rfl rfl (by
  unfold bM
  exact rR (vC (F_ hlen hab hbn) (wU hlen hbn) (by rw[bI];exact ud hbn)<|gX hab)<|rR sZ rfl)) ?_
 refine aZ (v:=.l<|(d9 pc now).map br) (H1:=H) (Uf hpl rfl rfl rfl) ?_;refine bU (c:=false) (H':=H) (bu (p:=.l<|(d9 pc now).map br) (q:=.l<|(d9 pc now).map br) (bP (vs:=[bM pc,.l<|now.map aD,bB]) (H1:=H) rfl<|OM (n+7) zF (Un hpl) (Uo hpl hnl) _) rfl<|ne_self<|OZ _ _) nB λU=>?_
 refine bU (c:=sh&&false) (H':=H) (f_ rfl λU=>bu (p:=.l<|(o.map aE).map<|gh<|(d9 pc now).map br) (q:=.l<|(o.map aE).map<|gh<|(d9 pc now).map br) (bP (vs:=[bM cs,bB,.s w,.t [.i a,.i b]]) (H1:=H) rfl<|e3 _) (V' E3 rfl rfl rfl)
  (ne_self<|Tm (λx hx=>kU (d9 pc now) x<|vt (by rw[bI];exact E3) hx) _)) (λh=>by rw[Bool.and_false]at h;exact nB h) λU=>?_
 show Ok (aF (gam<|n+11) _ (E x y (some<|bM pc) (some<|.l<|(d9 pc now).map br) none none none) H) T;clear e1 e2 e3 E3 sZ zF;refine aC (pL (n+10) (k:=(now.length:Int)+1) hd (Up ht) hc Ag) λr1 ez vV=>?_;have hd1:(H.set d<|cB cells<|t+1)[d]?=some (cB cells<|t+1):=mX hd;refine aZ (v:=.i r1) (H1:=H.set d<|cB cells<|t+1) (bP (vs:=[.e d,.i<|(now.length:Int)+1]) (H1:=H) (aJ rfl<|aJ (dD (p:=.i (now.map aD).length) (q:=.i 1) (e_len rfl) rfl<|by rw[bI];rfl) bA) vV) ?_;revert hd1;refine gen (H.set d<|cB cells<|t+1) λH1 hd1=>?_;refine aC (pL (n+10) (k:=(now.length:Int)+1-r1) hd1 (Uq ht) hc<|VY ez) λr2 iS zK=>?_;have hd2:(H1.set d<|cB cells<|t+1+1)[d]?=some (cB cells<|t+1+1):=mX hd1;refine aZ (v:=.i<|r1+r2) (H1:=H1.set d<|cB cells<|t+1+1) (dD (p:=.i r1) (q:=.i r2) (H1:=H1) rfl (bP (vs:=[.e d,.i<|(now.length:Int)+1-r1]) (H1:=H1) (aJ rfl<|aJ (dD (p:=.i<|(now.length:Int)+1) (q:=.i r1) (H1:=H1) (dD (p:=.i (now.map aD).length) (q:=.i 1) (e_len rfl) rfl<|by rw[bI];rfl) rfl rfl) bA) zK) rfl) ?_;revert hd2;refine gen (H1.set d<|cB cells<|t+1+1) λH2 hd2=>?_;refine X1 (Int.eq_ofNat_of_zero_le ez.1) λf aP=>?_;clear vV zK;subst aP;refine X1 (Int.eq_ofNat_of_zero_le<|Int.add_nonneg ez.1 iS.1) λg hg=>?_;refine rR hg ?_;have hfg:f<=g:=VZ iS hg;have E1:g<=now.length:=V0 iS hg;refine aZ (v:=.l<|(spans<|sortedZ<|(jo o f g).map Int.ofNat).map dQ) (H1:=H2) (WF hS ho hfg E1 rfl rfl rfl rfl) ?_;refine bU (c:=false) (H':=H2) (bu rfl (W1 ho.nodup (eR jn hnl) rfl rfl rfl rfl)<|ne_self<|OP _) nB λU=>?_
 exact bX (v:=.b true) (H':=H2) (bu (p:=.l [.l<|lv.map aD,.l<|(aW cs).map bQ,.l<|now.map aD,.l<|o.map aE]) (q:=.l [.l<|lv.map aD,.l<|(aW cs).map bQ,.l<|now.map aD,.l<|o.map aE]) rfl rfl
  (XV (p:=.n) (q:=.n)<|mc (aA _ rfl (EI _ _))<|mc (aA _ rfl (Tl _ _))<|mc (aA _ rfl (EI _ _))<|mc (aA _ rfl (vJ _ _)) mz))<|K _ _ hd2
theorem Y'(n:Nat){cs:bk}{w:String}{lv:bj}{base:Int}{a b d t:Nat}{cells:bk}{sh:Bool}{H:ak}(hw:isWord w)(X:vO cs w lv base)(hab:a<b)(hbn:b<=cs.length)(hd:H[d]?=some (cB cells t))(ht:t<=80)(hc:cells.length<=63):
  ∃H',gam (n+12) "" "_law_line_right" [.e d,bM cs,bB,.s w,.l<|lv.map aD,.l<|(aW cs).map bQ,.t [.i a,.i b],.i base,.b sh] H=some (.b true,H')/\H'[d]?=some (cB cells<|t+2):=by
 have L:mV cs lv a b:=⟨X.T,X.lk,hab,hbn⟩
 have hS:=OO L X.b;refine X1 (Ol hS) λo ho=>?_;refine X1 (Ol<|Tx hS) λro lS=>?_;obtain⟨v,H',e,rfl,h'⟩:=nQ (n:=n+11) (c:="") (f:="_law_line_right") (ir:=IQ) (args:=[.e d,bM cs,bB,.s w,.l<|lv.map aD,.l<|(aW cs).map bQ,.t [.i a,.i b],.i base,.b sh]) (vs:=[.e d,bM cs,bB,.s w,.l<|lv.map aD,.l<|(aW cs).map bQ,.t [.i a,.i b],.i base,.b sh]) (H:=H)
  (Q:=λv H'=>v=.b true/\H'[d]?=some (cB cells<|t+2)) (by kernel_rfl) rfl rfl rfl
  (Y2 n X.T.le hab hbn hd ht hc hS ho lS (by(refine rR (EW hbn) ?_;rw[zE])) (by(rewrite[k6];exact rR List.map_drop<|rR List.map_take rfl)) (ON X.T.ok a b) (λH=>NS (n+10) (base:=base) L H) (λH=>Hd (n+10) (base:=base) L H) (λH=>Qr n hw X L ho H) λae H' h=>⟨rfl,h⟩)
 exact aA H' e h'
theorem ZB{Γ:b7}{a b:CE}{ae:bf}{H H1 H2:ak}{d:Bool}(ha:az Γ a ae H=some (.b true,H1))(hb:az Γ b ae H1=some (.b d,H2)):az Γ (.a true [a,b]) ae H=some (.b d,H2):=by
 refine rR pn<|rR hU<|rR ha ?_
 simp only[Option.bind_some,fZ,if_true];refine rR hU<|rR hb ?_
 simp only[Option.bind_some,fZ,nR];clear hb
 induction d using cP<;>rfl
theorem aaa{Γ:b7}{a b:CE}{ae:bf}{H H1:ak}(ha:az Γ a ae H=some (.b false,H1)):az Γ (.a true [a,b]) ae H=some (.b false,H1):=by refine rR pn<|rR hU<|rR ha ?_;rfl
theorem aab{H:ak}{l:au}:ja H (.r l) .n (.i 24)=some (.l<|l.take 24):=by
 have e:rz H (.r l)=some l:=rfl;unfold ja;refine rR e ?_;simp only[Option.bind_some];refine rR (show(PV.i 24)=PV.i ((24:Nat):Int)from rfl)<|rR (vB Ur) ?_
 simp only[Option.bind_some,ny,Option.map_some,List.drop_zero];rcases Nat.le_total 24 l.length with h|h
 ·exact rR (oz h) rfl
 ·exact rR (Nat.min_eq_right h)<|rR m_<|rR (tO h) rfl
theorem O5(n:Nat){cells:bk}{kk:Int}(hc:cells.length<=63)(hk:0<kk){step:PV->ak->Option (bR×ak)}(hs:∀x t r H',gam (n+1) "" "_law_draw" [.e 0,.i kk] [cB cells t,none]=some (.i r,H')->step x [cB cells t,none]=some (some<|.i r,H')):
  ∀(l:au)(t:Nat),t+l.length<=80->∃vs:bk,jT step l [cB cells t,none]=some (vs.map .i,[cB cells<|t+l.length,none])/\vs.length=l.length/\∀v∈vs,0<=v/\v<kk
 |[],t,_=>cM [] rfl rfl λU h=>nomatch h
 |x::l,t,ht=>by
  rw[i4]at ht;refine aC (pL n (H:=[cB cells t,none]) (d:=0) rfl (Us ht) hc hk) λr hr e=>?_;refine c_ (O5 n hc hk hs l (t+1)<|Ut ht) λvs e2 h1 h2=>?_;refine cM (r::vs) ?_ (by simp[h1]) λv hv=>?_
  ·simp only[jT];refine rR (hs x t r _ e) ?_;simp only[Option.bind_some];show(jT step l [cB cells<|t+1,none]).map _=_;refine rR e2 (rR i4<|rR (show t+(l.length+1)=t+1+l.length from z_) ?_);rfl
  ·clear e;rcases eO.mp hv with rfl|hv
   ·exact hr
   ·exact h2 v hv
theorem aac(ns:bk)(n:Nat):fz (n+1) (.r<|ns.map .i)=true:=by refine gj.mpr λx hx=>?_;refine aC (bV.mp hx) λi U aN=>?_;clear hx;subst aN;exact u_
theorem aad{l r:au}(h:l.length=r.length):fb .n [.l l,.l r]=some (dU<|gZ l r):=by show(if l.length=r.length then some (dU<|gZ l r)else none)=_;exact rR (bw h) rfl
def vW(ns:bk)(w:String)(a b c d e f g h i j:bR):bf:=[some<|.r<|ns.map .i,some<|.l<|KS.map .s,some<|.e 0,some bB,some<|.s w,a,b,c,d,e,f,g,h,i,j]
theorem aae{r:Int}(h:0<=r/\r<18):j9 (if r<16 then 65+r else 24+r):=by unfold j9;split<;>(first|lia|omega)
theorem aaf{cs:bk}{c:Int}(h:kT cs)(hc:j9 c):kT (cs++[c]):=λx hx=>by
 rcases dR.mp hx with hx|hx
 ·exact h x hx
 ·refine rR (dO.mp hx) ?_;exact hc
theorem aag{r:Int}{H:ak}(h:0<=r/\r<3):∃w,isWord w/\gH H (.l [.s "rtl",.s "ltr",.s "auto"]) (.i r)=some (.s w):=by
 have h3:r=0\/r=1\/r=2:=Vz h;clear h;rcases h3 with rfl|rfl|rfl
 ·exact aA ("rtl") (.inl rfl)<|dB (k:=0) rfl
 ·exact aA ("ltr") (.inr<|.inl rfl)<|dB (k:=1) rfl
 ·exact aA ("auto") (.inr<|.inr rfl)<|dB (k:=2) rfl
section
variable {Γ:b7}{ae:bf}{H H1 H2:ak}{cs:bk}
theorem aah{elt:CE}{x:String}{k:IK}{bZ:List CE}{vs items l:au}(hes:cX Γ bZ ae H=some (vs,H1))(hi:fb k vs=some items)(hc:jT (λx h=>(az Γ elt (ae++[some x]) h).map λv=>(some v.1,v.2)) items H1=some (l,H2)):az Γ (.D elt false [x] k bZ []) ae H=some (.l l,H2):=by
 refine rR sJ<|rR hes ?_
 show(fb k vs).bind _=_;refine rR hi ?_;exact(congrArg (Option.map λq=>(PV.l q.1,q.2)) hc:)
theorem aai{x:Option AO}(h:ae[5]?=some (some<|.e 1)):iy Γ (.z 5) ae [x,some<|.l<|cs.map br]=some (.n,ae.set 5<|some<|bM cs,[x,none]):=by show(ae[5]?).bind _=_;refine rR h ?_;show Option.map _ (if(cs.map br).all (fz 4)=true then some (PV.l<|cs.map br,[x,none])else none)=_;refine rR (bw (gj.mpr λx hx=>dj<|.inr<|.inr<|.inl<|kU cs x hx)) ?_;rfl
theorem law_code{r:Int}(h:ae[7]?=some (some<|.i r)):az Γ (.i (.m .l (.v 7)<|.c<|.i 16) (.b .a (.c<|.i 65)<|.v 7)<|.b .a (.c<|.i 24)<|.v 7) ae H=some (.i (if r<16 then 65+r else 24+r),H):=
 iB (c:=decide<|r<16) (bu (p:=.i r) (q:=.i 16) (bq h) cL rfl) (λq=>by refine rR (bw<|cG q) ?_;exact dD cL (bq h) rfl) (λq=>by refine rR (bO<|lW q) ?_;exact dD cL (bq h) rfl)
theorem aaj{c:Int}(h:j9 c)(hc:64<c):gH H (.l<|KS.map .s) (.i<|c-65)=some (.s<|kindOf c):=by
 have hb:c<=80:=by unfold j9 at h;exact VA h
 have hl:(c-65).toNat<KS.length:=by show _<16;exact GK hb
 refine MK (VB hc) ?_;unfold kindOf;rw[bw hc,cQ,eE hl,fV,eE hl];rfl
theorem aak(h1:kT cs)(h:ae[1]?=some (some<|.l<|KS.map .s))(h5:ae[5]?=some (some<|bM cs))(hl:ae.length=15):
  az Γ (.D (.i (.m .g (.v 15)<|.c<|.i 64) (.d (.v 1)<|.b .s (.v 15)<|.c<|.i 65)<|.c<|.s "ON") false ["code"] .v [.v 5] []) ae H=some (.l<|(aW cs).map bQ,H):=by
 have e:(aW cs).map bQ=(cs.map br).map (λx=>match x with|.i c=>PV.s (kindOf c)|x=>x):=by simp only[aW,List.map_map];rfl
 refine rR e ?_;refine nZ (l:=cs.map br) (bq h5) λx hx=>?_;refine aC (bV.mp hx) λc CH aQ=>?_;clear hx;subst aQ;have hv:az Γ (.v 15) (ae++[some<|br c]) H=some (.i c,H):=bq<|by rw[ku<|cj hl,hl];rfl
 refine iB (c:=decide<|64<c) (bu (p:=.i c) (q:=.i 64) hv cL rfl) (λq=>?_) λq=>?_
 ·exact e_idx (p:=.l<|KS.map .s) (q:=.i<|c-65) (lO h) (dD hv cL rfl)<|aaj (h1 c CH)<|cG q
 ·show some (PV.s "ON",H)=some (PV.s<|kindOf c,H);unfold kindOf;exact rR (bO<|lW q) rfl
theorem aal(n:Nat){cells:bk}{t0:Nat}(hc:cells.length<=63)(h2:ae[2]?=some (some<|.e 0))(h5:ae[5]?=some (some<|bM cs))(ht:t0<=11):
  ∃vs:bk,vs.length<=2/\(∀v∈vs,0<=v/\v<=cs.length)/\∃t1,t1<=14/\az (gam<|n+12) (.D (.h "_law_draw" [.v 2,.b .a (.k .l [.v 5])<|.c<|.i 1]) false ["k"] .r [.h "_law_draw" [.v 2,.c<|.i 3]] []) ae [cB cells t0,none]=some (.l<|vs.map .i,[cB cells t1,none]):=by
 refine aC (pL (n+11) (k:=3) (d:=0) (H:=[cB cells t0,none]) rfl (Uu ht) hc<|by decide) λr hr er=>?_;have hl:(fk 0 r).length<=2:=by rw[qA];exact VC hr
 obtain⟨vs,ev,vX,zL⟩:=O5 (n+11) (cells:=cells) (kk:=(cs.length:Int)+1) hc Ag (step:=λx h=>(az (gam<|n+12) (.h "_law_draw" [.v 2,.b .a (.k .l [.v 5])<|.c<|.i 1]) (ae++[some x]) h).map λv=>(some v.1,v.2))
  (λx t r H' hg=>by
   refine rR (bP (aJ (lO h2)<|aJ (dD (p:=.i (cs.map br).length) (q:=.i 1) (e_len<|lO h5) cL<|by rw[bI];rfl) bA) hg) ?_;rfl) (fk 0 r) (t0+1) (Uv ht hl)
 exact PA vs (Uw hl vX) (λv hv=>by have:=zL v hv;exact V2 this) _ (Ux ht hl) (aah (aJ (bP (aJ (bq h2)<|aJ cL bA) er) bA) (yS (VD hr)<|VE hr) ev)
theorem aam{N:Nat}{cuts:bk}{i:Nat}{p q:PV}(mH:∀v∈cuts,0<=v/\v<=N)(hp:([PV.i 0]++cuts.map .i)[i]?=some p)(hq:(cuts.map .i++[PV.i N])[i]?=some q):∃a b:Nat,p=.i a/\q=.i b/\a<=N/\b<=N:=by
 have at_:∀{x:PV},x∈cuts.map PV.i->∃a:Nat,x=.i a/\a<=N:=λ{x} hx=>by refine aC (bV.mp hx) λc hc aR=>?_;clear hx;subst aR;have:=mH c hc;exact aA c.toNat (by exact rR (Int.toNat_of_nonneg this.1) rfl)<|V3 this
 have h1:∃a:Nat,p=.i a/\a<=N:=(dR.mp<|dY hp).elim (λh=>aA 0 (dO.mp h)<|iF _) at_;have h2:∃b:Nat,q=.i b/\b<=N:=(dR.mp<|dY hq).elim at_ λh=>aA N (dO.mp h)<|bY _
 refine aC h1 λa ea ha=>?_;refine aC h2 λb eb hb=>?_;exact fy a b ea eb ha hb
theorem aan(n:Nat){cells:bk}{w:String}{lv:bj}{base r4:Int}{a b i t:Nat}{T:bf->ak->Prop}(hw:isWord w)(X:vO cs w lv base)(ha:a<=cs.length)(hb:b<=cs.length)(hc:cells.length<=63)(hd:H[0]?=some (cB cells t))(ht:t<=80)
  (kj:ae[14]?=some (some<|.t [.i a,.i b]))(hv:∀H,cX (gam<|n+12) [.v 2,.v 5,.v 3,.v 4,.v 9,.v 8,.v 14,.v 10,.m .e (.v 6)<|.v 13] ae H=some ([.e 0,bM cs,bB,.s w,.l<|lv.map aD,.l<|(aW cs).map bQ,.t [.i a,.i b],.i base,.b<|decide<|(i:Int)=r4],H))
  (K:∀t' H',t'<=t+2->H'[0]?=some (cB cells t')->T ae H'):Ok (aF (gam<|n+12) [.i (.a true [.m .l (.d (.v 14)<|.c<|.i 0)<|.d (.v 14)<|.c<|.i 1,.o<|.h "_law_line_right" [.v 2,.v 5,.v 3,.v 4,.v 9,.v 8,.v 14,.v 10,.m .e (.v 6)<|.v 13]])
   [.r<|.c<|.b false] []] ae H) (Nx T):=by
 have hlt:az (gam<|n+12) (.m .l (.d (.v 14)<|.c<|.i 0)<|.d (.v 14)<|.c<|.i 1) ae H=some (.b<|decide<|(a:Int)<b,H):=
  bu (p:=.i a) (q:=.i b) (e_idx (p:=.t [.i a,.i b]) (q:=.i 0) (bq kj) cL sL) (e_idx (p:=.t [.i a,.i b]) (q:=.i 1) (bq kj) cL sM) rfl
 by_cases hab:a<b
 ·rw[di<|oi.mpr hab]at hlt;refine aC (Y' n (sh:=decide<|(i:Int)=r4) hw X hab hb hd ht hc) λH2 eH2 hd2=>?_;exact bU (c:=false) (H':=H2) (ZB hlt<|MU (c:=true)<|bP (hv H) eH2) nB λU=>cu<|K _ _ (bY _) hd2
 ·rw[dG λh=>hab<|oi.mp h]at hlt;exact bU (c:=false) (H':=H) (aaa hlt) nB λU=>cu<|K _ _ (jt _ _) hd
end
theorem aao(n:Nat)(ns:bk)(hn:ns.length<=63)(H:ak):gam (n+13) "" "law" [.r<|ns.map .i] H=some (.b true,H):=by
 refine qy (n:=n+12) (ir:=IT) (vs:=[.r<|ns.map .i]) (by kernel_rfl) rfl rfl rfl (by simp only[List.all_cons,List.all_nil,Bool.and_true,aac]) λT K=>?_;show Ok (aF (gam<|n+12) BP [some<|.r<|ns.map .i,none,none,none,none,none,none,none,none,none,none,none,none,none,none] []) T;unfold BP;refine aZ (v:=.l<|KS.map .s) (H1:=[]) rfl ?_;have hc:(ns.take 24).length<=63:=eR (List.length_take_le' _ _) hn
 refine kP (l:=[.e 0,bB]) (H1:=[cB (ns.take 24) 0]) (j7 (aJ (p:=.e 0) (H1:=[cB (ns.take 24) 0]) (by
  rw[yI,aJ (p:=.l<|(ns.take 24).map br) (H1:=[]) (s8 (aJ (p:=.l<|(ns.take 24).map br) (H1:=[]) (pF (p:=.r<|ns.map .i) (q:=.n) (r:=.i 24) (H1:=[]) (H2:=[]) rfl rfl rfl (by
   refine rR aab<|rL List.map_take ?_;rfl)) bA) rfl)<|aJ (p:=.i 0) (H1:=[]) rfl bA]
  rfl)<|aJ (bP (vs:=[.l<|KS.map .s]) (H1:=[cB (ns.take 24) 0]) rfl<|ul n _) bA)) rfl ?_
 revert hc;refine gen (P:=λcells=>cells.length<=63->Ok (aF (gam<|n+12) _ _ [cB cells 0]) T) (ns.take 24) λcells hc=>?_;refine aC (pL (n+11) (k:=3) (d:=0) (H:=[cB cells 0]) rfl Uy hc<|by decide) λr0 hr0 O6=>?_;refine aC (aag (H:=[cB cells 1]) hr0) λw hw hwi=>?_;refine kP (l:=[.s w,.e 1]) (H1:=[cB cells 1,some<|.l []]) (j7<|aJ (e_idx (p:=.l [.s "rtl",.s "ltr",.s "auto"]) (q:=.i r0) (H1:=[cB cells 0]) (H2:=[cB cells 1]) rfl (bP (vs:=[.e 0,.i 3]) (H1:=[cB cells 0]) rfl O6) hwi)<|aJ Ew bA) rfl ?_;show Ok (aF (gam<|n+12) _ (vW ns w (some<|.e 1) none none none none none none none none none) _) T;refine aC (pL (n+11) (k:=9) (d:=0) (H:=[cB cells 1,some<|.l []]) rfl Uz hc<|by decide) λr1 ez vV=>?_;refine sH (λ(cs:bk) a b=>vW ns w (some<|.e 1) a b none none none none none none none) (λi cs U U=>[cB cells<|2+i,some<|.l<|cs.map br]) (λi cs U U=>kT cs/\cs.length=i) [] none none
  (aJ (dD (p:=.i 1) (q:=.i r1) (H1:=[cB cells 1,some<|.l []]) rfl (bP (vs:=[.e 0,.i 9]) (H1:=[cB cells 1,some<|.l []]) rfl vV) rfl) bA) rfl (yS (VF ez)<|VG ez) ⟨nofun,rfl⟩ (λi x cs a b hx hj T k=>?_) (λcs a b hj=>?_)
 ·have hlt:=cH hx;rw[qA]at hlt;refine U1 (sO hx) λaT U=>?_;clear hx;subst aT;refine aC (pL (n+11) (k:=18) (d:=0) (H:=[cB cells<|2+i,some<|.l<|cs.map br]) rfl (by(first|lia|omega)) hc<|by decide) λr2 iS zK=>?_;refine aA _ rfl (aZ (v:=.i r2) (H1:=[cB cells<|2+i+1,some<|.l<|cs.map br]) (bP (vs:=[.e 0,.i 18]) (H1:=[cB cells<|2+i,some<|.l<|cs.map br]) rfl zK) ?_);refine eW (m:=1) (l1:=cs.map br) (l2:=cs.map br) (v:=.i (if r2<16 then 65+r2 else 24+r2)) (H1:=[cB cells<|2+i+1,some<|.l<|cs.map br]) (H2:=[cB cells<|2+i+1,some<|.l<|cs.map br]) rfl rfl (law_code rfl) rfl (by rw[bI];(first|lia|omega))<|cu ?_
  have:=k (cs++[if r2<16 then 65+r2 else 24+r2]) (some<|.i<|0+i) (some<|.i r2) ⟨aaf hj.1<|aae iS,by refine rR gF<|rR hj.2 ?_;rfl⟩
  rwa[kB]at this
 refine U1 hj λh1 h2=>?_;have hN:cs.length<=9/\0<cs.length:=by(refine rR h2 ?_;rewrite[qA]);exact VH ez
 have zM:2+(fk 0<|1+r1).length<=11:=by(first|lia|omega)
 revert zM;refine gen (P:=λt0=>t0<=11->Ok (aF (gam<|n+12) _ _ [cB cells t0,some<|.l<|cs.map br]) T) (2+(fk 0<|1+r1).length) λt0 zM=>?_;refine X2 (Pv ⟨h1,UA hN,UB hN⟩ hw) λlv base X=>?_;clear h2 hr0 O6 hwi ez vV;refine nP (aai rfl) ?_;refine aZ (v:=.l<|(aW cs).map bQ) (H1:=[cB cells t0,none]) (aak h1 rfl rfl rfl) ?_;refine kP (l:=[.l<|lv.map aD,.i base,bM cs]) (H1:=[cB cells t0,none]) (j7<|aJ (bP (vs:=[bM cs,bB,.s w]) (H1:=[cB cells t0,none]) rfl<|X.OL (n+3) _)<|aJ (bP (vs:=[bM cs,bB,.s w]) (H1:=[cB cells t0,none]) rfl<|X.bE (n+7) _)<|aJ (s8 (aJ (p:=bM cs) (H1:=[cB cells t0,none]) rfl bA) rfl) bA) rfl ?_;refine Pk (aal n (cs:=cs) (ae:=vW ns w (some<|bM cs) a b (some<|.l<|(aW cs).map bQ) (some<|.l<|lv.map aD) (some<|.i base) (some<|bM cs) none none none) hc rfl rfl zM) λvs vX zL t1 O7 ev=>?_;have hsl:(sortedZ vs).length<=2:=by refine rR ((qN vs).length_eq) ?_;exact vX
 have mH:∀v∈sortedZ vs,0<=v/\v<=cs.length:=λv hv=>zL v<|(qN vs).mem_iff.mp hv
 refine aZ (v:=.l<|(sortedZ vs).map .i) (H1:=[cB cells t1,none]) (s8 (vs:=[.l<|vs.map .i]) (H1:=[cB cells t1,none]) (aJ ev bA)<|vF<|UC vX) ?_;show Ok (aF (gam<|n+12) _ ((vW ns w (some<|bM cs) a b (some<|.l<|(aW cs).map bQ) (some<|.l<|lv.map aD) (some<|.i base) (some<|bM cs) none none none).set 12<|some<|.l<|(sortedZ vs).map .i) _) T;revert hsl mH;refine gen (sortedZ vs) λcuts hsl mH=>?_;clear ev zL vX zM;refine aC (pL (n+11) (k:=(cuts.length:Int)+1) (d:=0) (H:=[cB cells t1,none]) rfl (UD O7) hc Ag) λr4 hr4 er4=>?_;refine aZ (v:=.i r4) (H1:=[cB cells<|t1+1,none]) (bP (vs:=[.e 0,.i<|(cuts.length:Int)+1]) (H1:=[cB cells t1,none]) (aJ rfl<|aJ (dD (p:=.i (cuts.map PV.i).length) (q:=.i 1) (e_len rfl) rfl<|by rw[bI];rfl) bA) er4) ?_;refine sH (λ(U:ak) a j=>vW ns w (some<|bM cs) a b (some<|.l<|(aW cs).map bQ) (some<|.l<|lv.map aD) (some<|.i base) (some<|bM cs) (some<|.l<|cuts.map .i) (some<|.i r4) j) (λi H U U=>H) (λi H U U=>∃t,t<=t1+1+2*i/\H[0]?=some (cB cells t)) [cB cells<|t1+1,none] a none
  (aJ (dD (p:=.l [.i 0]) (q:=.l<|cuts.map .i) (H1:=[cB cells<|t1+1,none]) rfl rfl<|yM<|by rw[bI];exact eR (Nat.add_le_add_left hsl 1)<|by decide)<|aJ (dD (p:=.l<|cuts.map .i) (q:=.l [.i (cs.map br).length]) (H1:=[cB cells<|t1+1,none]) rfl (M0<|aJ (e_len rfl) bA)<|yM<|by rw[bI];exact eR (Nat.add_le_add_right hsl 1)<|by decide) bA) rfl (aad<|by refine rR gF<|rR gF ?_;exact Nat.add_comm _ _) (aA _ (bY _) rfl) (λi x H a j hx hj T k=>?_) (λH a j hj=>?_)
 ·refine aC hj λt ht hd=>?_;refine aC (j6 hx) λv hv aL=>?_;subst aL;refine d_ (zip_get hv) λp q hp hq aM=>?_;subst aM;have hi:=cH hp;rw[gF,bI]at hi;rw[bI]at hq;refine eJ (aam mH hp hq) λa b aP aN ha hb=>?_;clear hp;clear hv hx;subst aP;clear hq;subst aN;have hi:i<=2:=by simp only[List.length_singleton]at hi;exact UE hsl hi
  exact aA _ rfl (aan n (i:=i) (r4:=r4) hw X ha hb hc hd (UG O7 ht hi) rfl (λH=>rfl) λt' H' ht' hd'=>k H' _ _ (aA t' (UH ht ht') hd'))
 ·exact bX (v:=.b true) (H':=H) (bu (p:=bM cs) (q:=bM cs) rfl rfl<|eq_self<|OZ _ _)<|K _ _ _ rfl
theorem aaL(ns:bk)(hn:ns.length<=63):∃H',gam 40 "" "law" [.r<|ns.map .i] []=some (.b true,H'):=⟨[],aao 27 ns hn []⟩
set_option maxHeartbeats 0
noncomputable abbrev O8:=(Code->Sem Fin)->Program->World->SharedT->Thread->Option (SharedT×Thread)
noncomputable def vY(st:O8)(den:Code->Sem Fin)(ok:Nat->Option Value->Thread->Bool)(th:Thread->Bool)(p:Program)(w:World)(n₀:Nat)(ann:Option Value):Nat->SharedT->Thread->Option SharedT
 |0,_,_=>none
 |n+1,s,t=>match th t with
  |true=>some s
  |false=>match ok n₀ ann t with
   |false=>none
   |true=>match st den p w s t with
    |some r=>vY st den ok th p w n₀ ann n r.1 r.2
    |none=>none
theorem O9{tb:String->Option Builtin}{p:Program}{w:World}{n₀:Nat}{ann:Option Value}:∀{n:Nat}{s s':SharedT}{t:Thread},vY stepT (denote tb) stepOk through p w n₀ ann n s t=some s'->topRun tb p w n₀ ann n s.abs t=some s'.abs
 |0,s,s',t,h=>nomatch h
 |n+1,s,s',t,h=>by
  rw[show vY stepT (denote tb) stepOk through p w n₀ ann (n+1) s t=(match through t with|true=>some s|false=>match stepOk n₀ ann t with|false=>none|true=>match stepT (denote tb) p w s t with|some r=>vY stepT (denote tb) stepOk through p w n₀ ann n r.1 r.2|none=>none)from rfl]at h;unfold topRun;cases ht:through t with
  |true=>rw[ht]at h;obtain rfl:=Option.some.inj h;rfl
  |false=>
   rw[ht]at h;cases hk:stepOk n₀ ann t with
   |false=>rw[hk]at h;cases h
   |true=>
    rw[hk]at h;cases hs:stepT (denote tb) p w s t with
    |none=>rw[hs]at h;cases h
    |some r=>
     rw[hs]at h;rw[stepT_spec hs];exact O9 h
noncomputable def vZ:List Obj->BT->Nat->Option BT
 |[],T,_=>some T
 |o::l,T,n=>match((T.ins n o).get n).isSome with
  |true=>vZ l (T.ins n o)<|n+1
  |false=>none
theorem O_{life:Life}:∀{l:List Obj}{T T':BT}{n:Nat},vZ l T n=some T'->absHeap T' (n+l.length) life=⟨(absHeap T n life).objs++l.toArray,life⟩
 |[],T,T',n,h=>by obtain rfl:=Option.some.inj h;show absHeap T n life=_;simp[absHeap]
 |o::l,T,T',n,h=>by
  rw[show vZ (o::l) T n=(match((T.ins n o).get n).isSome with|true=>vZ l (T.ins n o) (n+1)|false=>none)from rfl]at h;cases e:((T.ins n o).get n).isSome with
  |false=>rw[e]at h;cases h
  |true=>
   rw[e]at h;have:=O_ (life:=life) h;rw[List.length_cons,show n+(l.length+1)=n+1+l.length by omega,this,absHeap_ins e];show Heap.mk _ _=Heap.mk _ _;congr 1;apply Array.ext';simp[Heap.push]
noncomputable def toT(s:Shared):Option SharedT:=(vZ s.heap.objs.toList .nil 0).map λT=>⟨T,s.heap.objs.toList.length,s.heap.life,s.gens,s.drawn,s.toks,s.os⟩
theorem aap{s:Shared}{t:SharedT}(h:toT s=some t):t.abs=s:=by obtain⟨T,h1,rfl⟩:=Option.map_eq_some_iff.mp h;have:=O_ (life:=s.heap.life) h1;rw[Nat.zero_add]at this;obtain⟨⟨⟨ol⟩,lf⟩,g,d,k,os⟩:=s;show Shared.mk _ _ _ _ _=_;rw[show(SharedT.mk T _ lf g d k os).tree=T from rfl];dsimp only at this⊢;rw[this];simp[absHeap,BT.list]
noncomputable def tC(st:O8)(den:Code->Sem Fin)(ok:Nat->Option Value->Thread->Bool)(th:Thread->Bool)(p:Program)(w:World)(N:Nat):Option (Shared×SharedT):=(fencedOpening treeTable p w N).bind λs₀=>(toT s₀).bind λt₀=>match s₀.heap.isNs mainGlobals&&s₀.gens.size==0 with
 |true=>(vY st den ok th p w s₀.heap.objs.size (s₀.heap.nsMap mainGlobals "__annotations__") N t₀<|topStub p).map λt₁=>(s₀,t₁)
 |false=>none
noncomputable def zN(p:Program)(h₀:Heap)(s₁:Shared):Bool:=staticsOk (importedModules p.main.body) h₀ s₁.heap&&namesBound p s₁.heap&&gensDone s₁&&laidKept h₀ s₁.heap
theorem aaq{p:Program}{w:World}{N:Nat}{α:Type}{F:Shared->α}{v:α}
  (h1:(tC stepT (denote treeTable) stepOk through p w N).map (λr=>zN p r.1.heap r.2.abs)=some true)
  (h2:(tC stepT (denote treeTable) stepOk through p w N).map (λr=>F r.2.abs)=some v):(openEnds treeTable p w N).map F=some v:=by
 obtain⟨⟨s₀,t₁⟩,e,h3⟩:=Option.map_eq_some_iff.mp h2;rw[e]at h1;have h1:=Option.some.inj h1;unfold tC at e;obtain⟨s0,e0,e⟩:=Option.bind_eq_some_iff.mp e;obtain⟨t0,e1,e⟩:=Option.bind_eq_some_iff.mp e;cases hg:(s0.heap.isNs mainGlobals&&s0.gens.size==0)with
 |false=>rw[hg]at e;cases e
 |true=>
  rw[hg]at e;obtain⟨t2,e2,e3⟩:=Option.map_eq_some_iff.mp e;obtain⟨rfl,rfl⟩:=Prod.mk.inj e3;have e4:=O9 e2;rw[aap e1]at e4;have h1:zN p s0.heap t2.abs=true:=h1;unfold zN at h1;have e5:topFrom treeTable p w N s0=some t2.abs:=by unfold topFrom;rw[hg,e4];show(match staticsOk (importedModules p.main.body) s0.heap t2.abs.heap&&namesBound p t2.abs.heap&&gensDone t2.abs&&laidKept s0.heap t2.abs.heap with|true=>some t2.abs|false=>none)=_;rw[h1]
  unfold openEnds;rw[e0];show(topFrom treeTable p w N s0).map F=_;rw[e5];exact congrArg some h3
set_option maxHeartbeats 0
noncomputable abbrev rr:OpenRow:=PySem.Challenge.rw_nt0078_01.row
noncomputable abbrev pp:Program:=rr.prog
noncomputable def aar:List String:=["_wall","MAX_DEPTH","STRONG","EMBEDDINGS","INITIATORS","REMOVED","SEPARATOR","CARRIAGE_RETURN","LINE_FEED","bidi_kinds","paragraphs","isolate_pairs","bidi_first_strong","base_level","bidi_base","BidiEntry","BidiStack","explicit","bidi_is_right_isolate","level_runs","BidiSequence","bidi_direction","bidi_level_beside","bidi_joined_runs","isolating_sequences","BidiParagraph","bidi_paragraphs","MOST_BRACKETS","ISOLATE_SIGNS","NEUTRALS","LEFT_OVERS","NUMBERS","bidi_marks","bidi_arabic_numbers","bidi_arabic_letters","bidi_separators","bidi_runs","bidi_beside","bidi_terminators","bidi_left_overs","bidi_left_numbers","weak_classes","weak","bidi_bracket_key","bracket_pairs_of","bracket_pairs","bidi_strong","bidi_embedding","bidi_bracket_direction","bracket_classes","neutral_classes","neutral","implicit_level","implicit","sequence_levels","paragraph_levels","bidi_levels","LINE_SEPARATORS","LINE_BLANKS","LINE_MARKS","line_levels","line_turned","reordered","is_order_of","visual_places","visual_of","logical_of","line_runs","visual_runs","is_line_mark","marks_behind","mirrored","selected","shown_lines","shown","MAX_CODE","place_by_half","range_are_like","RangeMap","data_defaults","Data","_law_draw","_law_data","_law_reset","_law_is_kept","_law_order","_law_spans","_law_tiled","_law_line_right","_law_is_odd"]
noncomputable def v_:List Str:=aar.map Str.ofString
noncomputable def q0:Program:=PySem.W.view pp [97]
theorem E4:tC stepT (denote treeTable) stepOk through=tC Fast.tw10156331382660048174 (Fast.tw11892475500146522536 Fast.tw14364793385576792824) Fast.tw6613529449190102663 through:=by
 rw[Fast.te10156331382660048174,Fast.te11892475500146522536,Fast.te6613529449190102663]
 conv=>rhs;rw[<-Fast.te14364793385576792824]
noncomputable def qS(t:SharedT):Frag:=(List.range t.n).filterMap λa=>((t.tree.get a).bind alive).map λo=>(a,o)
noncomputable def wc(a b:Nat)(K:Frag):Bool:=((iN.drop a).take b).all λr=>sC K r.1.1 r.2
noncomputable def E5(K:Frag):Bool:=yE K&&yF K&&DH K
noncomputable def allB(K:Frag):Bool:=wc 0 44 K&&(wc 44 44 K&&E5 K)
theorem aas{l:List<|Addr×Obj}{a:Addr}{o:Obj}(h:l.lookup a=some o):(a,o)∈l:=by
 induction l with
 |nil=>simp at h
 |cons p l ih=>
  rw[List.lookup_cons]at h;split at h
  ·rename_i e;have e:=beq_iff_eq.mp e;have h:=Option.some.inj h;subst h;rw[e];exact List.mem_cons_self
  ·exact List.mem_cons_of_mem _ (ih h)
theorem aat(t:SharedT):(qS t).In t.abs.heap:=λa o e=>by have:=aas e;unfold qS at this;obtain⟨b,hb,h2⟩:=List.mem_filterMap.mp this;obtain⟨o',h3,h4⟩:=Option.map_eq_some_iff.mp h2;cases h4;obtain⟨o1,h5,h6⟩:=Option.bind_eq_some_iff.mp h3;exact(abs_get (List.mem_range.mp hb) h5).trans h6
theorem aau{α:Type}{l:List α}{i:Nat}{x:α}(h:l[i]?=some x):i<l.length:=by
 rcases Nat.lt_or_ge i l.length with h'|h'
 ·exact h'
 ·rw[List.getElem?_eq_none h']at h;cases h
theorem aav:iN.length<=88:=by decide
theorem aaw{K:Frag}(h:allB K=true):iN.all (λr=>sC K r.1.1 r.2)=true/\yE K=true/\yF K=true/\DH K=true:=by
 unfold allB E5 wc at h;simp only[Bool.and_eq_true,List.all_eq_true]at h;obtain⟨h1,h2,⟨h5,h6⟩,h7⟩:=h;refine⟨?_,h5,h6,h7⟩;rw[List.all_eq_true];intro x hx;obtain⟨i,hi⟩:=List.getElem?_of_mem hx;have hl:=aau hi;have hb:=aav
 have key:∀a,a<=i->i<a+44->x∈(iN.drop a).take 44:=λa g1 g2=>List.mem_of_getElem? (i:=i-a) (by
  rw[List.getElem?_take_of_lt<|by omega,List.getElem?_drop,show a+(i-a)=i by omega,hi])
 rcases Nat.lt_or_ge i 44 with g|g
 ·exact h1 x<|key 0 (by omega)<|by omega
 ·exact h2 x<|key 44 (by omega)<|by omega
noncomputable def Pa(h:Heap):Bool:=(Classical.propDecidable (∃K,Frag.In K h/\allB K=true)).decide
noncomputable def HK:Hook where
 α:=Bool
 obs:=λs=>Pa s.heap
 val:=λ_=>true
 says:=λ_ h=>∃K,Frag.In K h/\allB K=true
 of:=λ_ s e=>@of_decide_eq_true _ (Classical.propDecidable _) e
 keeps:=λ_ h h' ⟨K,k1,k2⟩ hk=>⟨K,λa o e=>hk a o<|k1 a o e,k2⟩
noncomputable abbrev zO:Shared->Bool:=λs=>xlAt q0 [] s&&recOk (RowW.records rr.toRowW) s
noncomputable abbrev ends(w:World):=tC stepT (denote treeTable) stepOk through pp w 5000
theorem Pb(w:World):(ends w).map (λr=>zN pp r.1.heap r.2.abs&&wc 0 44 (qS r.2))=some true:=by unfold ends;rw[E4];kernel_rfl
theorem aax(w:World):(ends w).map (λr=>wc 44 44 (qS r.2)&&E5 (qS r.2))=some true:=by unfold ends;rw[E4];kernel_rfl
theorem aay(w:World):(ends w).map (λr=>openSeen q0 v_ (importedModules pp.main.body) zO true r.2.abs)=some (openGood q0 v_):=by unfold ends;rw[E4,Fast.te4187177175401517315];kernel_rfl
theorem Pc{α:Type}{o:Option α}{f g:α->Bool}(h:o.map (λx=>f x&&g x)=some true):o.map f=some true/\o.map g=some true:=by
 cases o with
 |none=>cases h
 |some x=>exact⟨congrArg some (Bool.and_eq_true_iff.mp<|Option.some.inj h).1,congrArg some (Bool.and_eq_true_iff.mp<|Option.some.inj h).2⟩
theorem aaz{α:Type}{o:Option α}{f g:α->Bool}(h1:o.map f=some true)(h2:o.map g=some true):o.map (λx=>f x&&g x)=some true:=by
 cases o with
 |none=>cases h1
 |some x=>
  have h1:f x=true:=Option.some.inj h1;have h2:g x=true:=Option.some.inj h2;show some (f x&&g x)=_;rw[h1,h2];rfl
theorem aaA{α β γ:Type}{o:Option α}{f:α->β}{g:α->γ}{b:β}{c:γ}(h1:o.map f=some b)(h2:o.map g=some c):o.map (λx=>(f x,g x))=some (b,c):=by
 cases o with
 |none=>cases h1
 |some x=>
  have h1:f x=b:=Option.some.inj h1;have h2:g x=c:=Option.some.inj h2;show some (f x,g x)=_;rw[h1,h2]
theorem aaB{o:Option<|Shared×SharedT}(h:o.map (λr=>allB<|qS r.2)=some true):o.map (λr=>Pa r.2.abs.heap)=some true:=by
 cases o with
 |none=>cases h
 |some r=>exact congrArg some<|@decide_eq_true _ (Classical.propDecidable _) ⟨qS r.2,aat r.2,Option.some.inj h⟩
theorem aaC:LeftO pp q0 v_ zO HK.obs HK.val 5000:=λw=>
 aaq (F:=λs=>(openSeen q0 v_ (importedModules pp.main.body) zO true s,HK.obs s)) (Pc<|Pb w).1 (aaA (aay w)<|aaB<|aaz (Pc<|Pb w).2<|aax w)
set_option maxHeartbeats 0
noncomputable def Xo(w:World)(h:Heap)(K:Frag):Cx:=⟨rr.prog,w,K,h⟩
noncomputable def lE:Cf:={ρ:=[],O:=λ_=>False,H:=[]}
theorem aaD:Mc=true:=by decide+kernel
theorem aaE{w:World}{s₁:Shared}{K:Frag}{fa la:Addr}{vs:List Value}{ns:List Int}{p:Program}{loose:List Str}{mg mb:Str->Option Value}(KX:K.In s₁.heap)(hB:allB K=true)(T:TopRead p loose mg mb s₁.heap)(hmg:mg (Sx "law")=some (.ref fa))
  (hl:s₁.heap.IsList la vs.toArray)(hI:IntsAre vs ns)(hn:ns.length<=63){H':ak}(hg:gam 40 "" "law" [.r<|ns.map .i] []=some (.b true,H')){E:Value->Shared->Prop}:
  wpAny (model rr.prog w) callerA (call (.ref fa) [.ref la]) (λv s'=>v=.bool true/\(∀b o,s₁.heap.get? b=some o->s'.heap.get? b=some o)/\∃h t,s'={s₁ with heap:=h,toks:=t}) E s₁:=by
 obtain⟨b1,b2,b3,b4⟩:=aaw hB;have T0:eK (Xo w s₁.heap K):=⟨KX,T.nolimit,p,loose,mg,mb,T⟩
 have Gd:eA (Xo w s₁.heap K):=nr T0 b2 b3 b4;obtain⟨fv,e1,_,hF⟩:=(Me Gd aaD b1 40).fn "law" _ _ _ hg;have e2:=mg_of KX T.g e1;rw[hmg]at e2;obtain rfl:=Option.some.inj e2;have S:aU (Xo w s₁.heap K) lE s₁.heap:=⟨rfl,λn ao q e=>by simp[lE]at e,λb h=>by obtain⟨n,ao,q,e,_⟩:=h;simp[lE]at e,λn m ao bo q u e=>by simp[lE]at e,λb h=>h.elim,λb o e=>⟨e,λh=>h⟩⟩
 have len:vs.length=ns.length:=hI.length;have r:aO (Xo w s₁.heap K) lE s₁.heap [.r<|ns.map .i] [.ref la]:=aO.fD (show kI _ _ _ _ from⟨la,vs.toArray,rfl,λh=>h,hl,by rw[List.size_toArray,len];omega,Ce hI⟩) aO.gk;refine wpAny_mono (hF callerA lE s₁ E [.ref la] ⟨rfl,by decide,by decide⟩ rfl S r) (λv s' y=>?_) λ_ _ y=>y;obtain⟨aI,st,S',pv,rv,rfl,_⟩:=y;have hv:v=.bool true:=rv;exact⟨hv,λb o e=>st.keep b o (λh=>by obtain⟨n,ao,q,e,_⟩:=h;simp[lE]at e) e,st.same⟩
theorem aaF:PySem.Challenge.rw_nt0078_01.wellSaid=true:=by rw[Fast.te9446332074065402090];kernel_rfl
theorem Pd:(defOf q0 rr.name).isSome=true:=by kernel_rfl
noncomputable def dd:=(defOf q0 rr.name).get Pd
theorem aaG:defOf q0 rr.name=some (dd.1,dd.2):=(Option.some_get Pd).symm
set_option tactic.hygienic true in
theorem aaM(aaH:∀ns:List Int,ns.length<=63->∃H',gam 40 "" "law" [.r<|ns.map .i] []=some (.b true,H')):PySem.Challenge.rw_nt0078_01.Holds:=by
 refine holds_law aaF λsaid=>?_;refine holds_open (q:=q0) (loose:=v_) (Xt:=zO) (XP:=XL q0 []) (Yf:=HK.obs) (Ya:=HK.val) (YP:=HK.says) (N:=5000) aaC HK.of HK.keeps (λs e=>xl_of s (Bool.and_eq_true_iff.mp e).1) XL.keeps aaG (by kernel_rfl) (by kernel_rfl) (λs e=>recFacts_of (Bool.and_eq_true_iff.mp e).2) (by rfl) said (by decide+kernel) ⟨rfl,rfl,rfl,rfl,rfl,by decide+kernel⟩ ?hw ?hc
 case hw=>w_witness2
 intro w s₀ s₁ mg mb G Y fa o pm cd doc dV kV ho hd hcd hD hmg hg args vals as hpre hlay hrd hwl hlo;obtain⟨K,KX,hB⟩:=Y;clear hD;refine Ground.open G ?_;intro T B D TE TW;clear B D TE TW
 wrow_args hpre hlay hrd hwl hlo
 rename_i ns _ _ _ _ _ _ _ la vs _ hL _ _ _ hI _ hn _;obtain⟨H',hg2⟩:=aaH ns<|by omega
 refine wpAny_mono (aaE KX hB (topRead_of T) hmg hL hI (by omega) hg2) (λv s' y=>?_) λ_ _ y=>y;obtain⟨rfl,hk,h,t,rfl⟩:=y;refine GoodW.toG ⟨.inl ⟨_,.bool true,[],rfl,?_,.bool true,?_,?_⟩,hk,rfl,hg⟩
 ·exact raisesW_false λ_ h=>nomatch h
 ·exact postW_of (by rfl) (by rfl) (by first|w_fin|simp[same]|decide+kernel)
 ·intro _;exact⟨List.nodup_nil,λ_ h=>by cases h⟩
end Mine
theorem PySem.Challenge.cw_nt0078_01_holds : PySem.Challenge.rw_nt0078_01.Holds :=
 Mine.aaM Mine.aaL
